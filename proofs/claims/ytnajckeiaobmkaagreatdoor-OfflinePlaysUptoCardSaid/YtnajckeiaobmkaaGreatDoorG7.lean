/- OfflinePlays: a part of the proof of the given statement, which is proved without conditions. -/
import Derived.Test.YtnajckeiaobmkaaGreatDoorG6
set_option linter.all false
namespace Go.Proofs.YtnajckeiaobmkaaGreatDoor
open Ev
section
open Go (IntKind)
def a5a {X:Type} (p:X→Bool):∀(l o:List X),l.foldl (λs y=>bif p y then s++[y] else s) o=o++l.filter p:=by
 intro l
 induction l with
 |nil=>intro o;simp
 |cons x l ih=>intro o;rw[ybp,ih,ybq];cases p x<;>simp
def b1y {X Y:Type} (p:X→Bool) (f:X→Y):∀(l:List X) (o:List Y),l.foldl (λs y=>bif p y then s++[f y] else s) o=o++(l.filter p).map f:=by
 intro l
 induction l with
 |nil=>intro o;simp
 |cons x l ih=>intro o;rw[ybp,ih,ybq];cases p x<;>simp
def i8a {l:List Hold} {record day:Int} (hl:l.length<1000000) (h20:(l.filter (a0i record day)).length<40) (hr:∀x∈l,rng 0 9 x.Rank=true):qh l record day=some (o7 (l.filter (a0i record day))):=by
 have h:=u0 (step:=d9d) (λ(i:Nat) (s:List Hold)=>s.length≤i) (λi s=>(record,day,l,(l.length:Int),(i:Int),s,())) l
  (λi y s=>.inl (bif a0i record day y then s++[y] else s)) (λs=>(s,())) (by rw[o4];omega)
  (λs _=>by simp only[d9d,dge,yaa])
  (λi y s hx hi=>by
   have hlt:=(zL hx)
   have l1:decide (s.length+([y]:List Hold).length≤LIM)=true:=a2d (by simp;omega);refine ⟨?_,λs' hs'=>?_⟩
   ·simp -zeta only[d9d,dlt hlt,d9,hx,yac,l1,s9,wS i];unfold a0i;dsimp only;cases (y.Record==record&&y.State==1&&decide (y.Asleep≤day))<;>rfl
   ·cases hs'
    cases a0i record day y<;>simp<;>omega) [] (by simp)
 rw[a0k]at h;unfold qh;rw[show c6 d9d (record,day,l,(l.length:Int),0,[],())=_ from h,a5a,yaU];simp only;rw[d9o h20 (λx hx=>hr x (yaD.1 hx).1)]
def d83 {l:List Hold} {record day rank:Int} (hl:l.length<1000000) (s:List Int) (hs:s.length<100000000):c6 b46 (l,record,day,rank,0,s,())=some (l,record,day,rank,s++(rk rank (l.filter (a0i record day))).map (λx=>x.ID),()):=by
 have h:=u0 (step:=b46) (λ(i:Nat) (o:List Int)=>o.length≤s.length+i) (λi o=>(l,record,day,rank,(i:Int),o,())) l
  (λi y o=>.inl (bif a0i record day y&&y.Rank==rank then o++[y.ID] else o)) (λo=>(l,record,day,rank,o,())) (by rw[o4];omega)
  (λo _=>by simp only[b46,dge,yaa])
  (λi y o hx hi=>by
   have hlt:=(zL hx)
   have l1:decide (o.length+([y.ID]:List Int).length≤LIM)=true:=a2d (by simp;omega);refine ⟨?_,λs' hs'=>?_⟩
   ·simp -zeta only[b46,dlt hlt,d9,hx,yac,l1,s9,wS i];dsimp only;rw[f1x];cases (a0i record day y&&y.Rank==rank)<;>rfl
   ·cases hs'
    cases (a0i record day y&&y.Rank==rank)<;>simp<;>omega) s (by omega)
 rw[a0k]at h;rw[show c6 b46 (l,record,day,rank,0,s,())=_ from h];have e:(λ(s:List Int) (x:Hold)=>bif a0i record day x&&x.Rank==rank then s++[x.ID] else s)=(λs x=>bif (λy=>a0i record day y&&y.Rank==rank) x then s++[(λz:Hold=>z.ID) x] else s):=rfl;rw[e,b1y];unfold rk;rw[ybV];have e2:(λy:Hold=>a0i record day y&&y.Rank==rank)=(λa=>a.Rank==rank&&a0i record day a):=by funext y;rw[Bool.and_comm]
 rw[e2]
def c7o {k:Int} {q:List Hold}:(rk k q).length≤q.length:=yaV _ _
def h5q {l:List Hold} {record day:Int} (hl:l.length<1000000):∀(k:Nat) (s:List Int),k≤10→s.length+k*1000000<100000000→
 o9 c65 (k+1) (l,record,day,(k:Int)-1,s,())=some (s++(dn (l.filter (a0i record day)) k).map (λx=>x.ID),()):=by
 intro k
 induction k with
 |zero=>
  intro s _ _;simp only[o9,dn,List.map_nil,yb8]
  try rfl
 |succ k ih=>
  intro s hk hs;have e:((k+1:Nat):Int)-1=(k:Int):=by omega
  have hlen:(rk (k:Int) (l.filter (a0i record day))).length≤l.length:=ybu c7o (yaV _ _);rw[o9];have d2:decide ((0:Int)≤(k:Int))=true:=by rw[yad];omega
  simp only[c65,d2,yac,e,d83 hl s (by omega)];rw[a0l (n:=(k:Int)-1) (by omega) (by omega),ih _ (by omega) (by rw[yaT,ybm];omega)];simp only[dn,List.map_append,yaX]
def i4h {l:List Hold} {record day:Int} (hl:l.length<1000000):qae l record day=some ((o7 (l.filter (a0i record day))).map (λx=>x.ID)):=by
 have h:=h5q (record:=record) (day:=day) hl 10 [] (by omega) (by simp);unfold qae;rw[show c6 c65 (l,record,day,9,([]:List Int),())=_ from o8 11 (by rw[o4];omega) h,yaU,a6d]
def a3y {q:List Hold} {x:Hold} (h:x∈o7 q):x∈q:=by
 have k:∀(k:Int),x∈rk k q→x∈q:=λk h=>(yaD.1 h).1
 unfold o7 at h;simp only[yat]at h;rcases h with h|h|h|h|h|h|h|h|h|h<;>exact k _ h
def b7b (branch:Int) (vlocal:Bool) (x:Item) (h:Hold) (first:Int):Int⊕Int:=
 bif !(h.Item==0)&&!(h.Item==x.ID) then .inl first
 else bif !vlocal||h.Pickup==branch then .inr h.ID
 else .inl (bif first==0 then h.ID else first)
def c6w (branch:Int) (vlocal:Bool) (x:Item) (h:Hold) (first:Int):Int⊕Int:=
 bif !(h.Item==0)&&!(h.Item==x.ID) then .inl first
 else bif vlocal&&h.Pickup==branch then .inr h.ID
 else .inl (bif first==0 then h.ID else first)
def b41 (branch:Int) (vlocal:Bool) (x:Item):List Hold→Int→Int
 | [],first=>first
 |h::q,first=>match b7b branch vlocal x h first with | .inl f=>b41 branch vlocal x q f | .inr r=>r
def a7v (branch:Int) (vlocal:Bool) (x:Item):List Hold→Int→Int
 | [],first=>first
 |h::q,first=>match c6w branch vlocal x h first with | .inl f=>a7v branch vlocal x q f | .inr r=>r
def d8u {branch:Int} {x:Item}:∀{q:List Hold} {f:Int},f≠0→a7v branch false x q f=f:=by
 intro q
 induction q with
 |nil=>intros;rfl
 |cons h q ih=>
  intro f hf;have h0:(f==0)=false:=by simpa using hf
  simp only[a7v,c6w,ybw,yaa,h0];cases (!(h.Item==0)&&!(h.Item==x.ID))<;>exact ih hf
def c6x {branch:Int} {vlocal:Bool} {x:Item}:∀{q:List Hold} {f:Int},(∀h∈q,h.ID≠0)→(vlocal=false→f=0)→b41 branch vlocal x q f=a7v branch vlocal x q f:=by
 intro q
 induction q with
 |nil=>intros;rfl
 |cons h q ih=>
  intro f hq hf;simp only[b41,a7v,b7b,c6w];cases (!(h.Item==0)&&!(h.Item==x.ID)) with
  |true=>exact ih (λy hy=>hq y (yaN _ hy)) hf
  |false=>
   cases vlocal with
   |true=>
    cases h.Pickup==branch with
    |true=>rfl
    |false=>exact ih (λy hy=>hq y (yaN _ hy)) (λe=>by cases e)
   |false=>
    have:=hf rfl;subst this;exact (d8u (hq h (yaK ..))).symm
end
section
open Go (IntKind)
def a6w {l:List Hold} (hsort:∀i x,l[i]?=some x→w7 l i (λy=>decide (x.ID≤y.ID))=false) {h:Hold} (hm:h∈l):c4a l h.ID=(h,true):=by
 unfold c4a;rw[a27 (key:=λy:Hold=>y.ID) hsort hm]
def d8v {β:Type} {branch:Int} {vlocal:Bool} {x:Item} (fin:Int→β) (out:Int→β) (hfo:∀v:Int,True):∀(q:List Hold) (i:Nat) (f:Int),∃r:Int⊕Int,(match r with | .inl v=>v | .inr v=>v)=b41 branch vlocal x q f∧
 a3s (λ(_:Nat) h f=>match b7b branch vlocal x h f with | .inl f=>.inl f | .inr v=>.inr (out v)) fin i q f=(match r with | .inl v=>fin v | .inr v=>out v):=by
 intro q
 induction q with
 |nil=>intro i f;exact ⟨.inl f,rfl,rfl⟩
 |cons h q ih=>
  intro i f;simp only[a3s,b41];cases b7b branch vlocal x h f with
  |inl f'=>exact ih (i+1) f'
  |inr v=>exact ⟨.inr v,rfl,rfl⟩
def d8w {β:Type} {branch:Int} {vlocal:Bool} {x:Item} (fin:Int→β) (out:Int→β) (hfo:∀v:Int,True):∀(q:List Hold) (i:Nat) (f:Int),∃r:Int⊕Int,(match r with | .inl v=>v | .inr v=>v)=a7v branch vlocal x q f∧
 a3s (λ(_:Nat) h f=>match c6w branch vlocal x h f with | .inl f=>.inl f | .inr v=>.inr (out v)) fin i q f=(match r with | .inl v=>fin v | .inr v=>out v):=by
 intro q
 induction q with
 |nil=>intro i f;exact ⟨.inl f,rfl,rfl⟩
 |cons h q ih=>
  intro i f;simp only[a3s,a7v];cases c6w branch vlocal x h f with
  |inl f'=>exact ih (i+1) f'
  |inr v=>exact ⟨.inr v,rfl,rfl⟩
def a9k {q:List Hold}:(o7 q).length≤10*q.length:=by
 have k:∀n:Int,(rk n q).length≤q.length:=λn=>c7o
 unfold o7;simp only[yaT];have:=k 0;have:=k 1;have:=k 2;have:=k 3;have:=k 4;have:=k 5;have:=k 6;have:=k 7;have:=k 8;have:=k 9;omega
def e7d {l:List Hold} {x:Item} {branch day:Int} {vlocal:Bool} (hl:l.length<1000000) (h20:(l.filter (a0i x.Record day)).length<40) (hr:∀x∈l,rng 0 9 x.Rank=true) :
 qbd l x branch day vlocal=some (b41 branch vlocal x (o7 (l.filter (a0i x.Record day))) 0):=by
 unfold qbd;rw[i8a hl h20 hr];have hq:(o7 (l.filter (a0i x.Record day))).length<1000:=by have:=a9k (q:=l.filter (a0i x.Record day));omega
 generalize o7 (l.filter (a0i x.Record day))=q at hq ⊢;have h:=a2k (step:=b8y) (λi f=>(branch,vlocal,f,q,(q.length:Int),(i:Int),x,())) q
  (λ_ h f=>match b7b branch vlocal x h f with | .inl f=>.inl f | .inr v=>.inr (.inr (v,()))) (λf=>.inl (f,())) (by rw[o4];omega)
  (λf=>by simp only[b8y,dge,yaa])
  (λi y f hx=>by
   have hlt:=(zL hx)
   simp -zeta only[b8y,dlt hlt,d9,hx,yac,a0x,s9,wS i];unfold b7b;dsimp only;cases (!(y.Item==0)&&!(y.Item==x.ID)) with
   |true=>rfl
   |false=>
    cases (!vlocal||y.Pickup==branch) with
    |true=>rfl
    |false=>cases f==0<;>rfl) 0
 obtain ⟨r,r1,r2⟩:=d8v (branch:=branch) (vlocal:=vlocal) (x:=x) (λf=>(.inl (f,()):(Int×Unit)⊕(Int×Unit))) (λv=>.inr (v,())) (λ_=>trivial) q 0 0;rw[r2]at h;simp only;rw[show c6 b8y (branch,vlocal,0,q,(q.length:Int),0,x,())=_ from h,←r1];cases r<;>rfl
def e7g {l:List Hold} {x:Item} {branch day:Int} {vlocal:Bool} (hl:l.length<1000000) (hsort:∀i x,l[i]?=some x→w7 l i (λy=>decide (x.ID≤y.ID))=false) :
 qca l x branch day vlocal=some (a7v branch vlocal x (o7 (l.filter (a0i x.Record day))) 0):=by
 unfold qca;rw[i4h hl];have hq:(o7 (l.filter (a0i x.Record day))).length<100000000:=by
  have:=a9k (q:=l.filter (a0i x.Record day));have:=yaV (a0i x.Record day) l;omega
 have hm:∀h∈o7 (l.filter (a0i x.Record day)),h∈l:=λh hh=>(yaD.1 (a3y hh)).1
 generalize o7 (l.filter (a0i x.Record day))=q at hq hm ⊢;have h:=a2k (step:=b9c) (λi f=>(l,branch,vlocal,q.map (λx=>x.ID),f,(i:Int),x,())) q
  (λ_ h f=>match c6w branch vlocal x h f with | .inl f=>.inl f | .inr v=>.inr (.inr (v,()))) (λf=>.inl (f,())) (by rw[o4];omega)
  (λf=>by
   have d:decide ((q.length:Int)<((q.map (λx=>x.ID)).length:Int))=false:=by rw[yaf,ybm];omega
   simp only[b9c,d,yaa])
  (λi y f hx=>by
   have hlt:=(zL hx)
   have d:decide ((i:Int)<((q.map (λx=>x.ID)).length:Int))=true:=by rw[yad,ybm];omega
   have gx:(q.map (λx=>x.ID))[i]?=some y.ID:=by rw[yaO,hx];rfl
   simp -zeta only[b9c,d,d9,gx,yac,a0x,s9,b8o (show l.length<1000000000 by omega),a6w hsort (hm y (yag hx)),wS i];unfold c6w;dsimp only;cases (!(y.Item==0)&&!(y.Item==x.ID)) with
   |true=>rfl
   |false=>
    cases (vlocal&&y.Pickup==branch) with
    |true=>rfl
    |false=>cases f==0<;>rfl) 0
 obtain ⟨r,r1,r2⟩:=d8w (branch:=branch) (vlocal:=vlocal) (x:=x) (λf=>(.inl (f,()):(Int×Unit)⊕(Int×Unit))) (λv=>.inr (v,())) (λ_=>trivial) q 0 0;rw[r2]at h;simp only;rw[show c6 b9c (l,branch,vlocal,q.map (λx=>x.ID),0,0,x,())=_ from h,←r1];cases r<;>rfl
def a6j {c:Circ} (h:FitP c) {o:Hold} (ho:o∈c.Holds):rng 0 9 o.Rank=true∧o.ID≠0:=by
 have:=a3c h.holds ho;unfold t7 at this;have:=a0v this (by decide);simp only[yai,yaf]at this;obtain ⟨⟨hx,h1⟩,h2⟩:=this;refine ⟨by rw[a0a];omega,?_⟩;have:=hx.1.1.1.1.1.1.1.1.1.1;omega
structure MidW (c:Circ):Prop where
 short:Short c
 moves:c.Moves.length≤2000
 holds:c.Holds.length≤64
 loans:c.Loans.length≤64
 few:∀r,(c.Holds.filter (λo=>o.Record==r)).length<40
def SmallP.w {c:Circ} (h:SmallP c):MidW c:=by
 have h1:=h.moves;have h2:=h.holds;have h3:=h.loans;exact ⟨h.short,by omega,by omega,by omega,λr=>by have:=yaV (λo:Hold=>o.Record==r) c.Holds;omega⟩
def e4h {l:List Hold} {r day:Int} (h:(l.filter (λo=>o.Record==r)).length<40):(l.filter (a0i r day)).length<40:=by
 have e:l.filter (a0i r day)=(l.filter (λo=>o.Record==r)).filter (a0i r day):=by
  rw[ybV];apply ycd;intro o _;unfold a0i;cases o.Record==r<;>simp
 rw[e];have:=yaV (a0i r day) (l.filter (λo=>o.Record==r));omega
def h5s {c:Circ} (hs:MidW c) (h:FitP c) {x:Item} {branch day:Int} {vlocal:Bool}:qbd c.Holds x branch day vlocal=qca c.Holds x branch day vlocal:=by
 have h1:=hs.holds;rw[e7d (by omega) (e4h (hs.few x.Record)) (λo ho=>(a6j h ho).1),e7g (by omega) (a0m h.holds)];congr 1;exact c6x (λo ho=>(a6j h (yaD.1 (a3y ho)).1).2) (λ_=>rfl)
end
section
open Go (IntKind)
def f2d (l:List Loan) (n:Loan):List Loan×Int:=
 bif decide (0≤a68 (λx=>x.Item==n.Item) l) then ([],7)
 else bif !(o5 (b1i (λx=>decide (n.Item<x.Item)) n l)==0) then ([],o5 (b1i (λx=>decide (n.Item<x.Item)) n l)) else (b1i (λx=>decide (n.Item<x.Item)) n l,0)
def i40 {l:List Loan} {n:Loan} (hl:l.length<100000000):qbr l n=some (f2d l n):=by
 have hl2:l.length<1000000000:=by omega
 have hi:(b1i (λx=>decide (n.Item<x.Item)) n l).length<1000000000:=by rw[a8z];omega
 unfold qbr qan f2d;dsimp only;rw[a6x hl2];rcases p7 (λx:Loan=>x.Item==n.Item) l with ⟨h1,h2⟩|⟨i,x,h1,h2,h3,h4⟩
 ·have hc:qcp l=some l:=by unfold qcp;rw[a5q hl2];rfl
  have e:=c9n (p:=λx:Loan=>decide (n.Item<x.Item)) (x:=n) hl2;have hI:∀i:Int,qek l i [n]=b0q l i [n]:=λ_=>rfl
  have hf:qch (λ(g:Unit×Loan×Unit) x0=>qdc x0 g.2.1) l ((),(n,()))=some (match l.find? (λx=>decide (n.Item<x.Item)) with|some x=>(x,a68 (λx=>decide (n.Item<x.Item)) l)|none=>((⟨0,0,0,0,0,false⟩:Loan),-1)):=by
   unfold qch;rw[e7q (p:=λ(g:Unit×Loan×Unit) x0=>qdc x0 g.2.1) (g:=((),(n,()))) (λx=>decide (n.Item<x.Item)) hl2 (λx _=>rfl)];rcases p7 (λx:Loan=>decide (n.Item<x.Item)) l with ⟨h1,h2⟩|⟨i,x,h1,h2,h3,h4⟩
   ·simp only[h1,h2,a59,yac]
   ·simp only[h1,h4,a4i,yaa,d9,h2]
  have d:decide ((0:Int)≤-1)=false:=rfl;simp only[h1,h2,d,yaa,hf,hc];rcases p7 (λx:Loan=>decide (n.Item<x.Item)) l with ⟨g1,g2⟩|⟨i,x,g1,g2,g3,g4⟩
  ·rw[g1]at e;simp only[a59,yac]at e;simp only[g2,a59,yac,hI,e,e7k hi]
  ·rw[g1]at e;simp only[a4i,yaa]at e;simp only[g4,g1,a4i,yaa,hI,e,e7k hi]
 ·have d:decide ((0:Int)≤(i:Int))=true:=by rw[yad];omega
  simp only[h4,h1,d,yac]
def c1e {X:Type} {p q:X→Bool}:∀{l:List X},(∀x∈l,p x=q x)→l.findIdx? p=l.findIdx? q:=by
 intro l
 induction l with
 |nil=>intros;rfl
 |cons x l ih=>
  intro h;rw[ybI,ybI,h x (yaK ..),ih (λy hy=>h y (yaN _ hy))]
def d9a {l:List Loan} {n:Loan} (hl:l.length<1000000000):c6 b5q (l,0,n,())=some (l,(match l.findIdx? (λx=>!(decide (x.Item<n.Item))) with|some k=>(k:Int)|none=>(l.length:Int)),n,()):=by
 have h:=w9 (step:=b5q) (λi=>(l,(i:Int),n,())) l (λx=>!(decide (x.Item<n.Item))) (λi _=>(l,(i:Int),n,())) (l,(l.length:Int),n,()) hl
  (by simp only[b5q,dge,yaa])
  (λi x hx=>by
   have hi:=(zL hx)
   simp only[b5q,dlt hi,d9,hx,yac,wS i];cases decide (x.Item<n.Item)<;>rfl)
 rw[show c6 b5q (l,0,n,())=_ from h];congr 1;have key:∀(m:List Loan) (i:Nat) (d:Int),a2v (λx:Loan=>!(decide (x.Item<n.Item))) (λi _=>(l,(i:Int),n,())) (l,d,n,()) i m=(l,(match m.findIdx? (λx=>!(decide (x.Item<n.Item))) with|some k=>((i+k:Nat):Int)|none=>d),n,()):=by
  intro m
  induction m with
  |nil=>intro i d;rfl
  |cons x m ih=>
   intro i d;rw[ybI];simp only[a2v];cases !(decide (x.Item<n.Item)) with
   |true=>rfl
   |false=>
    simp only[yaa,yaz,ybd];rw[ih];cases m.findIdx? (λx=>!(decide (x.Item<n.Item))) with
    |none=>rfl
    |some k=>simp only[ybz];rw[show i+1+k=i+(k+1) by omega]
 rw[key l 0];simp
def g5c {l:List Loan} {n:Loan} (hl:l.length<100000000):qbs l n=some (f2d l n):=by
 have hl2:l.length<1000000000:=by omega
 have hi:(b1i (λx=>decide (n.Item<x.Item)) n l).length<1000000000:=by rw[a8z];omega
 unfold qbs f2d;rw[d50 hl2];dsimp only;rcases p7 (λx:Loan=>x.Item==n.Item) l with ⟨h1,h2⟩|⟨i,x,h1,h2,h3,h4⟩
 ·have d:decide ((0:Int)≤-1)=false:=rfl;have ec:l.findIdx? (λx=>!(decide (x.Item<n.Item)))=l.findIdx? (λx=>decide (n.Item<x.Item)):=c1e (λx hx=>by
   have hne:¬x.Item=n.Item:=by
    rw[ybF]at h2;have:=h2 x hx;simpa using this
   rw[ybj];simp;omega)
  simp only[h1,d,yaa,d9a hl2,ec];have fin:∀k:Nat,k≤l.length→b1i (λx=>decide (n.Item<x.Item)) n l=l.take k++n::l.drop k→
   (bif decide (0≤(0:Int))&&(decide ((0:Int)≤(k:Int))&&decide ((k:Int)≤(l.length:Int))) then
    bif decide (([]:List Loan).length+((l.take (k:Int).toNat).drop (0:Int).toNat).length≤LIM) then
    bif decide ((([])++((l.take (k:Int).toNat).drop (0:Int).toNat)).length+([n]:List Loan).length≤LIM) then
    bif decide (0≤(k:Int))&&(decide ((k:Int)≤(l.length:Int))&&decide ((l.length:Int)≤(l.length:Int))) then
    bif decide (((([])++((l.take (k:Int).toNat).drop (0:Int).toNat))++([n]:List Loan)).length+((l.take (l.length:Int).toNat).drop (k:Int).toNat).length≤LIM) then
    (match qer (((([])++((l.take (k:Int).toNat).drop (0:Int).toNat))++([n]:List Loan))++((l.take (l.length:Int).toNat).drop (k:Int).toNat)) with
    |some (r6,r7)=>some (r6,r7)
    |none=>none)
    else none
    else none
    else none
    else none
    else none)=some (bif !(o5 (b1i (λx=>decide (n.Item<x.Item)) n l)==0) then ([],o5 (b1i (λx=>decide (n.Item<x.Item)) n l)) else (b1i (λx=>decide (n.Item<x.Item)) n l,0)):=by
   intro k hk e;have d1:decide ((0:Int)≤(k:Int))=true:=by rw[yad];omega
   have d2:decide ((k:Int)≤(l.length:Int))=true:=by rw[yad];omega
   have t1:decide (([]:List Loan).length+(l.take k).length≤LIM)=true:=a2d (by simp;omega);have t2:decide ((l.take k).length+([n]:List Loan).length≤LIM)=true:=a2d (by simp;omega);have t3:decide ((l.take k++[n]).length+(l.drop k).length≤LIM)=true:=a2d (by simp;omega);have e2:(l.take k++[n])++l.drop k=b1i (λx=>decide (n.Item<x.Item)) n l:=by rw[e];simp
   simp only[d1,d2,yaB,Int.toNat_zero,ybX,yaU,List.take_length,t1,t2,t3,Int.le_refl,decide_true,ybo,yac,e2,g5u hi]
  cases hx:l.findIdx? (λx=>decide (n.Item<x.Item)) with
  |none=>exact fin l.length (yau _) (by rw[b31 hx];simp)
  |some k=>
   obtain ⟨e1,e2⟩:=b32 (x:=n) hx;exact fin k e2 e1
 ·have d:decide ((0:Int)≤(i:Int))=true:=by rw[yad];omega
  simp only[h1,d,yac]
end
section
open Go (IntKind)
def a2q (l:List Hold) (id:Int):List Hold×Hold×Int:=
 match l.find? (λh=>h.ID==id) with|some h=>(l.filter (λx=>!(x.ID==id)),h,0)|none=>([],a96,9)
def d7q {l:List Hold} (hsort:∀i x,l[i]?=some x→w7 l i (λy=>decide (x.ID≤y.ID))=false) {i:Nat} {x:Hold} (hx:l[i]?=some x):l.take i++l.drop (i+1)=l.filter (λy=>!(y.ID==x.ID)):=by
 have hlt:=(zL hx)
 have e:l=l.take i++x::l.drop (i+1):=by
  have h2:l[i]=x:=(yaA.1 hx).2;rw[←h2,←yby hlt,ya4]
 have hA:(l.take i).filter (λy=>!(y.ID==x.ID))=l.take i:=by
  rw[List.filter_eq_self];intro y hy;obtain ⟨j,hj⟩:=yaw hy;have hj2:=(zL hj)
  rw[yaH]at hj2;rw[ybP (by omega)]at hj;have:=a2i (key:=λy:Hold=>y.ID) hsort i j y x (by omega) hj hx;have hne:¬y.ID=x.ID:=by omega
  simpa using hne
 have hB:(l.drop (i+1)).filter (λy=>!(y.ID==x.ID))=l.drop (i+1):=by
  rw[List.filter_eq_self];intro y hy;obtain ⟨j,hj⟩:=yaw hy;rw[ybH]at hj;have:=a2i (key:=λy:Hold=>y.ID) hsort (i+1+j) i x y (by omega) hx hj;have hne:¬y.ID=x.ID:=by omega
  simpa using hne
 conv=>rhs;rw[e]
 rw[List.filter_append,hA,ybq,hB];simp
def i5q {l:List Hold} {id:Int} (hl:l.length<100000000) (hsort:∀i x,l[i]?=some x→w7 l i (λy=>decide (x.ID≤y.ID))=false):qet l id=some (a2q l id):=by
 have hl2:l.length<1000000000:=by omega
 unfold qet qa5 a2q;rw[b8w (p:=λ(g:Unit×Int×Unit) x0=>qes x0 g.2.1) (g:=((),(id,()))) (λx=>x.ID==id) hl2 (λx _=>rfl)];dsimp only;rcases p7 (λx:Hold=>x.ID==id) l with ⟨h1,h2⟩|⟨i,x,h1,h2,h3,h4⟩
 ·simp only[h1,h2,a59,yac]
  try rfl
 ·have hlt:=(zL h2)
  have hc:qc3 l=some l:=by unfold qc3;rw[a5q hl2];rfl
  have hid:x.ID=id:=by simpa using h3
  have hd:qel l (i:Int) ((i+1:Nat):Int)=some (l.take i++l.drop (i+1)):=by
   show a7h l (i:Int) ((i+1:Nat):Int)=_
   unfold a7h;have d1:decide ((0:Int)≤(i:Int))=true:=by rw[yad];omega
   have d2:decide ((i:Int)≤((i+1:Nat):Int))=true:=by rw[yad];omega
   have d3:decide (((i+1:Nat):Int)≤(l.length:Int))=true:=by rw[yad];omega
   have d4:decide (l.length≤1073741824)=true:=by rw[yad];omega
   simp only[d1,d2,d3,d4,ybo,yac,yaB]
  simp only[h4,h1,a4i,yaa,hc,wS i,hd,d9,h2];rw[d7q hsort h2,hid]
def g5b {l:List Hold} {id:Int} (hl:l.length<100000000):qbn l id=some (a2q l id):=by
 have hl2:l.length<1000000000:=by omega
 unfold qbn a2q;rw[b8o hl2];unfold c4a;cases hf:l.find? (λh=>h.ID==id) with
 |none=>rfl
 |some h=>
  have hw:=u0 (step:=b85) (λ(i:Nat) (s:List Hold)=>s.length≤i) (λi s=>(l,id,(i:Int),a96,h,s,())) l
   (λi y s=>.inl (bif !(y.ID==id) then s++[y] else s)) (λs=>(a96,h,s,())) (by rw[o4];omega)
   (λs _=>by simp only[b85,dge,yaa])
   (λi y s hx hi=>by
    have hlt:=(zL hx)
    have l1:decide (s.length+([y]:List Hold).length≤LIM)=true:=a2d (by simp;omega);refine ⟨?_,λs' hs'=>?_⟩
    ·simp only[b85,dlt hlt,d9,hx,yac,l1,wS i];cases !(y.ID==id)<;>rfl
    ·cases hs'
     cases !(y.ID==id)<;>simp<;>omega) [] (by simp)
  rw[a0k]at hw;simp only[yak,yaa];rw[show c6 b85 (l,id,0,(⟨0,0,0,0,0,0,0,0,0,0,0⟩:Hold),h,([]:List Hold),())=_ from hw,a5a]
  try rfl
def u6 (c:Circ) (l:List Hold):Circ:=⟨c.Today,c.Items,c.Patrons,c.Loans,l,c.Charges,c.Rules,c.Cals,c.Moves,c.NextHold,c.NextCharge,c.Local⟩
def c0z (c:Circ) (l:List Hold):qdh l 0 ⟨c,0⟩=some ((),⟨u6 c l,0⟩):=rfl
def a58 (c:Circ) (l:List Hold) (e:Int) (he:e≠0):qdh l e ⟨c,0⟩=some ((),⟨u6 c c.Holds,e⟩):=by
 have h:(e==0)=false:=by simpa using he
 unfold qdh qz;simp only[h,yas,yac,yal,yaa]
 try rfl
end
section
open Go (IntKind)
def b7i {X:Type} (i:Int) (upd:X→X):Nat→List X→List X
 |_,[]=>[]
 |k,x::l=>(bif (k:Int)==i then upd x else x)::b7i i upd (k+1) l
def d94 {X:Type} {i:Nat} {upd:X→X}:∀{l:List X} {k:Nat},i<k→b7i (i:Int) upd k l=l:=by
 intro l
 induction l with
 |nil=>intros;rfl
 |cons x l ih=>
  intro k h;have:((k:Int)==(i:Int))=false:=by
   have hne:¬(k:Int)=(i:Int):=by omega
   simpa using hne
  simp only[b7i,this,yaa];rw[ih (by omega)]
def f1m {X:Type} {upd:X→X} {x:X}:∀{l:List X} {k j:Nat},l[j]?=some x→b7i ((k+j:Nat):Int) upd k l=l.set j (upd x):=by
 intro l
 induction l with
 |nil=>intro k j h;simp at h
 |cons y l ih=>
  intro k j h;cases j with
  |zero=>
   simp at h;subst h;have:((k:Int)==((k+0:Nat):Int))=true:=by simp
   simp only[b7i,this,yac,List.set_cons_zero];rw[d94 (by omega)]
  |succ j=>
   have hne:((k:Int)==((k+(j+1):Nat):Int))=false:=by
    have:¬(k:Int)=((k+(j+1):Nat):Int):=by omega
    simpa using this
   simp only[b7i,hne,yaa,List.set_cons_succ];have:=ih (k:=k+1) (j:=j) (by simpa using h);rw[show k+1+j=k+(j+1) by omega]at this;rw[this]
def e8m {X β:Type} {i:Int} {upd:X→X} {g:List X→β}:∀{l:List X} {k:Nat} {s:List X},a3s (λ(k:Nat) x (s:List X)=>.inl (s++[bif (k:Int)==i then upd x else x])) g k l s=g (s++b7i i upd k l):=by
 intro l
 induction l with
 |nil=>intro k s;simp[a3s,b7i]
 |cons x l ih=>intro k s;simp only[a3s,b7i];rw[ih];simp
def a09 (u:Custody) (x:Item):Item:=⟨x.ID,x.Record,x.Branch,x.Kind,x.Price,x.Call,u⟩
def a0e (c:Circ) (i:Nat) (x:Item) (m:Move) (u:Custody):Circ:=⟨c.Today,c.Items.set i (a09 u x),c.Patrons,c.Loans,c.Holds,c.Charges,c.Rules,c.Cals,c.Moves++[m],c.NextHold,c.NextCharge,c.Local⟩
def b0x (c:Circ) (e:Int):Int:=bif e==0&&decide (2000≤(c.Moves.length:Int)) then 13 else e
def a7m {c:Circ} {i:Nat} {x:Item} {kind branch who:Int} (hs:Short c) (hm:c.Moves.length<100000000) (hx:c.Items[i]?=some x) :
 qbw (i:Int) kind branch who ⟨c,0⟩=some ((),bif b0x c (s8 x.Custody ⟨c.Today,x.ID,kind,branch,who⟩).2==0 then ⟨a0e c i x ⟨c.Today,x.ID,kind,branch,who⟩ (s8 x.Custody ⟨c.Today,x.ID,kind,branch,who⟩).1,0⟩ else ⟨c,b0x c (s8 x.Custody ⟨c.Today,x.ID,kind,branch,who⟩).2⟩):=by
 have hc1:qd3 c.Items=some c.Items:=by unfold qd3;rw[a5q hs.items];rfl
 have hc2:qd2 c.Moves=some c.Moves:=by unfold qd2;rw[a5q hs.moves];rfl
 have l1:decide (c.Moves.length+([(⟨c.Today,x.ID,kind,branch,who⟩:Move)]:List Move).length≤LIM)=true:=a2d (by simp;omega);unfold qbw b0x;simp -zeta only[yal,yak,yaa,d9,hx,g5s,s9];generalize s8 x.Custody ⟨c.Today,x.ID,kind,branch,who⟩=q;obtain ⟨u,e⟩:=q;dsimp only;cases hb:(e==0&&decide (2000≤(c.Moves.length:Int))) with
 |true=>
  simp only[yac,qz,yal]
  try rfl
 |false=>
  simp only[yaa];cases he:e==0 with
  |true=>
   have:e=0:=by simpa using he
   subst this;simp only[yak,yaa,yac,hc1,hc2,d9,hx,yaB,l1]
   try rfl
  |false=>
   simp only[yas,yac,yaa,qz,yal]
def d8z {c:Circ} {i:Nat} {m:Move} {u:Custody} (hs:Short c):c6 b43 ((i:Int),0,c,z8,m,u,[],())=some (c,z8,m,b7i (i:Int) (a09 u) 0 c.Items,()):=by
 have h:=u0 (step:=b43) (λ(k:Nat) (s:List Item)=>s.length≤k) (λk s=>((i:Int),(k:Int),c,z8,m,u,s,())) c.Items
  (λk x s=>.inl (s++[bif (k:Int)==(i:Int) then a09 u x else x])) (λs=>(c,z8,m,s,())) (by rw[o4];have:=hs.items;omega)
  (λs _=>by simp only[b43,dge,yaa])
  (λk x s hx hi=>by
   have hlt:=(zL hx)
   have:=hs.items;have l1:∀y:Item,decide (s.length+([y]:List Item).length≤LIM)=true:=λy=>a2d (by simp;omega)
   refine ⟨?_,λs' hs'=>?_⟩
   ·simp only[b43,dlt hlt,d9,hx,yac,l1,wS k];cases (k:Int)==(i:Int)<;>rfl
   ·cases hs'
    simp;omega) [] (by simp)
 rw[e8m]at h;exact h
def h5n {c:Circ} {item:Int} {i:Nat} {x:Item} {kind branch who:Int} (hs:Short c) (hm:c.Moves.length<100000000) (hat:qn c item=some (i:Int)) (hx:c.Items[i]?=some x) (hid:x.ID=item) :
 q8 c item kind branch who=some (bif b0x c (s8 x.Custody ⟨c.Today,x.ID,kind,branch,who⟩).2==0 then (a0e c i x ⟨c.Today,x.ID,kind,branch,who⟩ (s8 x.Custody ⟨c.Today,x.ID,kind,branch,who⟩).1,0) else (z8,b0x c (s8 x.Custody ⟨c.Today,x.ID,kind,branch,who⟩).2)):=by
 subst hid;unfold q8 b0x;rw[hat];simp only[d9,hx,g5p];generalize s8 x.Custody ⟨c.Today,x.ID,kind,branch,who⟩=q;obtain ⟨u,e⟩:=q;simp only;cases he:e==0 with
 |false=>simp only[yas,yac,ybw,yaa,he];rfl
 |true=>
  have:e=0:=by simpa using he
  subst this;simp only[yak,yaa,ya8];cases decide (2000≤(c.Moves.length:Int)) with
  |true=>rfl
  |false=>
   have hw:=d8z (i:=i) (m:=⟨c.Today,x.ID,kind,branch,who⟩) (u:=u) hs;have l1:decide (c.Moves.length≤LIM)=true:=by rw[yad];unfold LIM;omega
   have l2:decide (c.Moves.length+([(⟨c.Today,x.ID,kind,branch,who⟩:Move)]:List Move).length≤LIM)=true:=a2d (by simp;omega);have es:=f1m (upd:=a09 u) (l:=c.Items) (k:=0) (j:=i) hx;rw[yaI]at es;rw[es]at hw;simp only[yaa];rw[show c6 b43 ((i:Int),0,c,ZN,(⟨c.Today,x.ID,kind,branch,who⟩:Move),u,([]:List Item),())=_ from hw];simp only[l1,l2,yac]
   try rfl
end
section
open Go (IntKind)
def i49 {l:List Loan} {p:Int} (hl:l.length<1000000000):qcf l p=some (l.filter (λx=>x.Patron==p)):=by
 have h:=u0 (step:=b9g) (λ(i:Nat) (s:List Loan)=>s.length≤i) (λi s=>(l,p,(i:Int),s,())) l
  (λi y s=>.inl (bif y.Patron==p then s++[y] else s)) (λs=>(s,())) (by rw[o4];omega)
  (λs _=>by simp only[b9g,dge,yaa])
  (λi y s hx hi=>by
   have hlt:=(zL hx)
   have l1:decide (s.length+([y]:List Loan).length≤LIM)=true:=a2d (by simp;omega);refine ⟨?_,λs' hs'=>?_⟩
   ·simp only[b9g,dlt hlt,d9,hx,yac,l1,wS i];cases y.Patron==p<;>rfl
   ·cases hs'
    cases y.Patron==p<;>simp<;>omega) [] (by simp)
 rw[a0k]at h;unfold qcf;rw[show c6 b9g (l,p,0,[],())=_ from h,a5a,yaU]
def b42 {branch:Int} {vlocal:Bool} {x:Item}:∀{q:List Hold} {f:Int},a7v branch vlocal x q f=f∨∃h∈q,a7v branch vlocal x q f=h.ID:=by
 intro q
 induction q with
 |nil=>intro f;exact .inl rfl
 |cons h q ih=>
  intro f;have lift:∀g:Int,(a7v branch vlocal x q g=g∨∃o∈q,a7v branch vlocal x q g=o.ID)→(g=f∨g=h.ID)→(a7v branch vlocal x q g=f∨∃o∈h::q,a7v branch vlocal x q g=o.ID):=by
   intro g hg hgf;rcases hg with hg|⟨o,ho,hg⟩
   ·rcases hgf with e|e
    ·exact .inl (by rw[hg,e])
    ·exact .inr ⟨h,yaK ..,by rw[hg,e]⟩
   ·exact .inr ⟨o,yaN _ ho,hg⟩
  simp only[a7v,c6w];cases (!(h.Item==0)&&!(h.Item==x.ID)) with
  |true=>exact lift f ih (.inl rfl)
  |false=>
   cases (vlocal&&h.Pickup==branch) with
   |true=>exact .inr ⟨h,yaK ..,rfl⟩
   |false=>
    cases f==0 with
    |true=>exact lift h.ID ih (.inr rfl)
    |false=>exact lift f ih (.inl rfl)
def e4o {c:Circ} (h:FitP c) {x:Item} {branch day:Int} {vlocal:Bool} {v:Int} (hv:v=a7v branch vlocal x (o7 (c.Holds.filter (a0i x.Record day))) 0):(c4a c.Holds v).2=!(v==0):=by
 rcases b42 (branch:=branch) (vlocal:=vlocal) (x:=x) (q:=o7 (c.Holds.filter (a0i x.Record day))) (f:=0) with e|⟨o,ho,e⟩
 ·rw[e]at hv;subst hv;unfold c4a;have:c.Holds.find? (λh=>h.ID==0)=none:=by
   rw[ybF];intro o ho;have:=(a6j h ho).2;simpa using this
  rw[this]
  try rfl
 ·rw[e]at hv;subst hv;have hm:=(yaD.1 (a3y ho)).1;rw[a6w (a0m h.holds) hm];have:=(a6j h hm).2;simp[this]
end
section
open Go (IntKind)
def c1v {c:Circ} (hm:MidW c) (h:FitP c) {item patron branch:Int} {i:Nat} {x:Item} {p:Patron} (hat:qn c item=some (i:Int)) (hx:c.Items[i]?=some x) (hp:a3g c.Patrons patron=(p,true)) :
 ∃a b,qe3 c x p branch=some (a,b)∧qfu c item patron branch=some (a,b):=by
 have hs:=hm.short;have hxm:=yag hx;have hpi:=(f5x hp).2;have hb:=b0p h hxm;have hpk:=e7g (l:=c.Holds) (x:=x) (branch:=x.Custody.Branch) (day:=c.Today) (vlocal:=c.Local) (by have:=hm.holds;omega) (a0m h.holds);have hpk2:=h5s (x:=x) (branch:=x.Custody.Branch) (day:=c.Today) (vlocal:=c.Local) hm h;rw[hpk]at hpk2;have hget:=e4o h (x:=x) (branch:=x.Custody.Branch) (day:=c.Today) (vlocal:=c.Local) rfl;generalize a7v x.Custody.Branch c.Local x (o7 (c.Holds.filter (a0i x.Record c.Today))) 0=v at hpk hpk2 hget;have e1:qed c x=some v:=by unfold qed;rw[hpk2]
 have e2:qe8 c item=some v:=by unfold qe8;rw[hat];simp only[d9,hx,hpk]
 obtain ⟨r,b,hr,hrm⟩:=b59 (p:=patron) (x:=x) hs;unfold qe3 qfu;rw[hat];simp -zeta only[a5v hs.patrons,hp,d9,hx,e1,e2,g5z hs.holds,b8o hs.holds,g5k hs h.charges,g5t hs h.charges,hpi,c18 hs,hr,g5a hs.loans,i49 hs.loans,a4i,a0x,s9];dsimp only;simp only[yak,Bool.or_self,yaa];cases (!(x.Custody.State==3)&&!(x.Custody.State==5)) with
 |true=>exact ⟨_,_,rfl,rfl⟩
 |false=>
  cases hbr:x.Custody.Branch==branch with
  |false=>exact ⟨_,_,rfl,rfl⟩
  |true=>
   have hbr2:branch=x.Custody.Branch:=(by simpa using hbr:x.Custody.Branch=branch).symm;subst hbr2;simp only[yaa,yak];cases (x.Custody.State==5&&!(x.Custody.Who==patron)) with
   |true=>exact ⟨_,_,rfl,rfl⟩
   |false=>
    simp only[yaa];have tail:∃a b2,(bif decide (0<((a43 p c.Today (a8s patron c.Charges) (c1k patron c.Today c.Loans)).length:Int)) then (some (0,14):Option (Int×Int)) else
     bif !b then some (0,15) else bif decide (r.Loans≤((c.Loans.filter (λx=>x.Patron==patron)).length:Int)) then some (0,15) else qfc r (f17 c x.Custody.Branch) c.Today p.Until)=some (a,b2):=by
     obtain ⟨a,b2,hq⟩:=c01 (r:=r) (a8v h x.Custody.Branch) c.Today p.Until;rw[hq];exact a1t ⟨_,_,rfl⟩ (a1t ⟨_,_,rfl⟩ (a1t ⟨_,_,rfl⟩ ⟨_,_,rfl⟩))
    have tl:∀rr:Rule,∀bb:Bool,(bb=true→rr∈c.Rules)→(bif (!bb||decide (rr.Loans≤((c.Loans.filter (λx=>x.Patron==patron)).length:Int))) then (some (0,15):Option (Int×Int)) else qfc rr (f17 c x.Custody.Branch) c.Today p.Until)=(bif (!bb||decide (rr.Loans≤((c.Loans.filter (λx=>x.Patron==patron)).length:Int))) then some (0,15) else qe6 rr (f17 c x.Custody.Branch) c.Today p.Until):=λrr bb hh=>by
     cases bb with
     |false=>rfl
     |true=>rw[d0f (a8v h _) (c2c h (hh rfl))]
    obtain ⟨a,b2,ht⟩:=tail;cases hb0:decide (0<((a43 p c.Today (a8s patron c.Charges) (c1k patron c.Today c.Loans)).length:Int)) with
    |true=>
     simp only[yac];cases x.Custody.State==3 with
     |false=>exact ⟨_,_,rfl,rfl⟩
     |true=>
      generalize c4a c.Holds v=gh at hget ⊢;obtain ⟨o,ok⟩:=gh;simp only at hget;subst hget;cases v==0<;>cases o.Patron==patron<;>exact ⟨_,_,rfl,rfl⟩
    |false=>
     rw[hb0]at ht;simp only[yaa]at ht ⊢;have key:∀(bb:Bool),bb=b→∃a b2,(match (some (r,bb):Option (Rule×Bool)) with
      |some (r14,r15)=>(bif (!r15||decide (r14.Loans≤((c.Loans.filter (λx=>x.Patron==patron)).length:Int))) then (some (0,15):Option (Int×Int)) else match qc2 c x.Custody.Branch with
       |some r20=>(match qe6 r14 r20 c.Today p.Until with|some (r22,r23)=>some (r22,r23)|none=>none)
       |none=>none)
      |none=>none)=some (a,b2)∧(match (some (r,bb):Option (Rule×Bool)) with
      |some (r14,r15)=>(bif (!r15||decide (r14.Loans≤((c.Loans.filter (λx=>x.Patron==patron)).length:Int))) then (some (0,15):Option (Int×Int)) else match qm c x.Custody.Branch with
       |some r20=>(match qfc r14 r20 c.Today p.Until with|some (r22,r23)=>some (r22,r23)|none=>none)
       |none=>none)
      |none=>none)=some (a,b2):=by
      intro bb hbb;subst hbb;simp only[c67 hb,e7y hb];cases bb with
      |false=>exact ⟨_,_,rfl,rfl⟩
      |true=>
       rw[d0f (a8v h _) (c2c h (hrm rfl))];obtain ⟨a,b2,hq⟩:=c01 (r:=r) (a8v h x.Custody.Branch) c.Today p.Until;rw[hq];cases decide (r.Loans≤((c.Loans.filter (λx=>x.Patron==patron)).length:Int))<;>exact ⟨_,_,rfl,rfl⟩
     obtain ⟨a,b2,k1,k2⟩:=key b rfl;cases x.Custody.State==3 with
     |false=>exact ⟨a,b2,k1,k2⟩
     |true=>
      generalize c4a c.Holds v=gh at hget ⊢;obtain ⟨o,ok⟩:=gh;simp only at hget;subst hget;cases v==0 with
      |true=>exact ⟨a,b2,k1,k2⟩
      |false=>
       cases o.Patron==patron with
       |true=>exact ⟨a,b2,k1,k2⟩
       |false=>exact ⟨_,_,rfl,rfl⟩
end
section
open Go (IntKind)
def b38 (patron:Int) (x:Item) (h:Hold):Bool:=h.Patron==patron&&h.State==1&&h3p h x
def i5j (h:Hold) (v:Int) (x:Item):qdw h v x=some (b38 v x h):=by
 unfold qdw b38;simp -zeta only[i5k,a0x,s9]
 try rfl
def f6b:List Hold→Hold→Hold
 | [],h=>h
 |x::l,_=>f6b l x
def c9s (patron:Int) (x:Item) (l:List Hold) (h:Hold):Bool×Hold:=match l.find? (b38 patron x) with|some o=>(true,o)|none=>(false,f6b l h)
def b5m {c v:Circ} {patron due:Int} {x:Item} (hl:c.Holds.length<1000000):∀(k i:Nat) (h:Hold),i+k=c.Holds.length→
 o9 a2g (k+2) (patron,due,false,(i:Int),c,v,x,h,())=some (due,(c9s patron x (c.Holds.drop i) h).1,c,v,(c9s patron x (c.Holds.drop i) h).2,()):=by
 intro k
 induction k with
 |zero=>
  intro i h hi;have:i=c.Holds.length:=by omega
  subst this;rw[List.drop_length];simp only[o9,a2g,dge,yaa,c9s,List.find?_nil,f6b]
 |succ k ih=>
  intro i h hi;have hlt:i<c.Holds.length:=by omega
  have hx:c.Holds[i]?=some c.Holds[i]:=yab hlt;rw[yby hlt];have st:a2g (patron,due,false,(i:Int),c,v,x,h,())=some (.inl (patron,due,b38 patron x c.Holds[i],((i+1:Nat):Int),c,v,x,c.Holds[i],())):=by
   simp -zeta only[a2g,dlt hlt,d9,hx,yac,yas,g5q,s9,wS i]
   try rfl
  rw[o9,st];simp only;cases hq:b38 patron x c.Holds[i]with
  |true=>
   simp only[c9s,List.find?_cons,hq];rw[o9];simp only[a2g];cases decide (((i+1:Nat):Int)<(c.Holds.length:Int))<;>rfl
  |false=>
   rw[ih (i+1) c.Holds[i] (by omega)];simp only[c9s,List.find?_cons,hq,f6b]
end
section
open Go (IntKind)
def b60 (c:Circ) (l:List Loan) (e e0:Int) (h0:e0≠0):qdg l e ⟨c,e0⟩=some ((),⟨j6 c c.Loans,e0⟩):=by
 have h:(e0==0)=false:=by simpa using h0
 unfold qdg qz;simp only[h,yaa];cases !(e==0)<;>simp only[yac,yaa,h]<;>rfl
def a9m (c:Circ) (id e0:Int) (h0:e0≠0):qfj id ⟨c,e0⟩=some ((),⟨c,e0⟩):=by
 have h:(e0==0)=false:=by simpa using h0
 unfold qfj;simp only[h,yaa]
def c3z {c:Circ} {id:Int} (hl:c.Holds.length<100000000) (hsort:∀i x,c.Holds[i]?=some x→w7 c.Holds i (λy=>decide (x.ID≤y.ID))=false) :
 qfj id ⟨c,0⟩=some ((),bif (a2q c.Holds id).2.2==0 then ⟨u6 c (a2q c.Holds id).1,0⟩ else ⟨u6 c c.Holds,(a2q c.Holds id).2.2⟩):=by
 unfold qfj;simp only[yal,yac,i5q hl hsort];generalize a2q c.Holds id=q;obtain ⟨l,o,e⟩:=q;simp only;by_cases he:e=0
 ·subst he;rw[c0z]
  try rfl
 ·have h:(e==0)=false:=by simpa using he
  rw[a58 c l e he,h]
  try rfl
def a78 (c:Circ) (n e0:Int) (h0:e0≠0):qcm n ⟨c,e0⟩=some ((z8,0,e0),⟨c,e0⟩):=by
 have h:(e0==0)=false:=by simpa using h0
 unfold qcm;simp only[h,yas,yac]
 try rfl
def c88 (c:Circ) (n:Int):qcm n ⟨c,0⟩=some ((c,n,0),⟨c,0⟩):=rfl
end
section
open Go (IntKind)
def f9g {l:List Loan} {n:Loan} (hl:l.length<100000000):(f2d l n).1.length<1000000000:=by
 unfold f2d;cases decide (0≤a68 (λx=>x.Item==n.Item) l) with
 |true=>simp
 |false=>
  simp only[yaa];cases (!(o5 (b1i (λx=>decide (n.Item<x.Item)) n l)==0)) with
  |true=>simp
  |false=>simp only[yaa];rw[a8z];omega
def c8l {l:List Hold} {id:Int} (hl:l.length<1000000000):(a2q l id).1.length<1000000000:=by
 unfold a2q;cases l.find? (λh=>h.ID==id) with
 |none=>simp
 |some h=>simp only;have:=yaV (λx:Hold=>!(x.ID==id)) l;omega
def b4r {c:Circ} {i:Nat} {x:Item} {m:Move} {u:Custody} (hs:Short c) (hm:c.Moves.length<100000000) (hx:c.Items[i]?=some x):Short (a0e c i x m u):=by
 obtain ⟨h1,h2,h3,h4,h5,h6,h7,h8,h9,h10,h11,h12,h13⟩:=hs;refine ⟨?_,h2,h3,h4,h5,h6,?_,λz hz=>?_,h9,h10,h11,h12,h13⟩
 ·show (c.Items.set i _).length<_
  rw[List.length_set];exact h1
 ·show (c.Moves++[m]).length<_
  simp;omega
 ·rcases List.mem_or_eq_of_mem_set hz with h|h
  ·exact h8 z h
  ·rw[h];exact h8 x (yag hx)
def a7j {c:Circ} {l:List Hold} (hs:Short c) (hl:l.length<1000000000):Short (u6 c l):=by
 obtain ⟨h1,h2,h3,h4,h5,h6,h7,h8,h9,h10,h11,h12,h13⟩:=hs;exact ⟨h1,h2,h3,hl,h5,h6,h7,h8,h9,h10,h11,h12,h13⟩
end
section
open Go (IntKind)
def a7l {c:Circ} {id:Int} (hs:Short c):qez id ⟨c,0⟩=some (a68 (λx=>x.ID==id) c.Items,⟨c,bif decide (a68 (λx=>x.ID==id) c.Items<0) then 9 else 0⟩):=by
 unfold qez;simp only[f9r hs.items];cases decide (a68 (λx:Item=>x.ID==id) c.Items<0)<;>rfl
def d78 {c:Circ} (hm:MidW c) (h:FitP c) {item patron branch:Int}:b1d (qb6 c item patron branch) (qb9 c item patron branch):=by
 have hs:=hm.short;have hmv:=hm.moves;have hhl:=hm.holds;have hln:=hm.loans;unfold qb6 qb9;simp -zeta only[qdl,a7l hs,d53 hs.patrons];rcases p7 (λx:Item=>x.ID==item) c.Items with ⟨h1,h2⟩|⟨i,x,h1,h2,h3,h4⟩
 ·have hat:qn c item=some (-1):=by rw[c2b hs.items,h1]
  have hml:qfu c item patron branch=some (0,9):=by
   unfold qfu;rw[hat];simp -zeta only[a5v hs.patrons,a59,a0x]
   try rfl
  rw[h1,hml];simp only[a59,yac];cases (a3g c.Patrons patron).2<;>exact w8
 ·have hat:qn c item=some (i:Int):=by rw[c2b hs.items,h1]
  have hid:x.ID=item:=by simpa using h3
  rw[h1];simp only[a4i,yaa];cases hp:a3g c.Patrons patron with
  |mk p ok=>
   cases ok with
   |false=>
    have hml:qfu c item patron branch=some (0,9):=by
     unfold qfu;rw[hat];simp -zeta only[a5v hs.patrons,hp,a0x]
     try rfl
    rw[hml];exact w8
   |true=>
    obtain ⟨a,e,m1,m2⟩:=c1v hm h (branch:=branch) hat h2 hp;simp only[yak,yaa,yal,d9,h2,m1,m2,hat];by_cases he:e=0
    ·subst he;have dm:=a7m (kind:=3) (branch:=branch) (who:=patron) hs (show c.Moves.length<100000000 by omega) h2;have rm:=h5n (kind:=3) (branch:=branch) (who:=patron) hs (show c.Moves.length<100000000 by omega) hat h2 hid;generalize b0x c (s8 x.Custody ⟨c.Today,x.ID,3,branch,patron⟩).2=E at dm rm;generalize (s8 x.Custody ⟨c.Today,x.ID,3,branch,patron⟩).1=u at dm rm;have lo:=i40 (l:=c.Loans) (n:=⟨item,patron,c.Today,a,0,false⟩) (by omega);have ro:=g5c (l:=c.Loans) (n:=⟨item,patron,c.Today,a,0,false⟩) (by omega);have ol:=f9g (l:=c.Loans) (n:=⟨item,patron,c.Today,a,0,false⟩) (by omega);generalize f2d c.Loans ⟨item,patron,c.Today,a,0,false⟩=q at lo ro ol;obtain ⟨l,e2⟩:=q;have hI:=b8w (p:=λ(g:Unit×Int×Item×Unit) x0=>qdw x0 g.2.1 g.2.2.1) (g:=((),(patron,x,()))) (b38 patron x) hs.holds (λo _=>i5j o patron x);simp only[dm,rm,lo,a98 hs.holds,hI];by_cases hE:E=0
     ·subst hE;simp only[yal,yac,yak,yaa];generalize hc1:a0e c i x ⟨c.Today,x.ID,3,branch,patron⟩ u=c1;have t1:c1.Today=c.Today:=by rw[←hc1];rfl
      have t2:c1.Loans=c.Loans:=by rw[←hc1];rfl
      have t3:c1.Holds=c.Holds:=by rw[←hc1];rfl
      have sc1:Short c1:=by rw[←hc1];exact b4r hs (by omega) h2
      simp only[t1,t2,ro];by_cases hE2:e2=0
      ·subst hE2;simp only[a9n,yal,yak,yaa];have sc2:Short (j6 c1 l):=a7k sc1 ol;have hH:(j6 c1 l).Holds=c.Holds:=t3;have dd:∀id:Int,qfj id ⟨j6 c1 l,0⟩=some ((),bif (a2q c.Holds id).2.2==0 then ⟨u6 (j6 c1 l) (a2q c.Holds id).1,0⟩ else ⟨u6 (j6 c1 l) (j6 c1 l).Holds,(a2q c.Holds id).2.2⟩):=λid=>by
        have:=c3z (c:=j6 c1 l) (id:=id) (by rw[hH];omega) (by rw[hH];exact a0m h.holds);rw[hH]at this;rw[this,hH]
       have cc:s7 (j6 c1 l) item=s7 c item:=by unfold s7;rw[hH]
       have rc:=b5d (c:=j6 c1 l) (item:=item) (by rw[hH];omega);rw[cc]at rc;have kc:(⟨c.Today,c1.Items,c1.Patrons,l,c1.Holds,c1.Charges,c1.Rules,c1.Cals,c1.Moves,c1.NextHold,c1.NextCharge,c1.Local⟩:Circ)=j6 c1 l:=by rw[←t1];rfl
       simp only[kc,rc];generalize j6 c1 l=c2 at dd sc2 hH;have fin:∀id:Int,b1d (match qfj id ⟨c2,0⟩ with
        |some (_,v)=>(match qcm a v with|some ((r25,r26,r27),v28)=>some (r25,r26,r27)|none=>none)
        |none=>none) (match qbn c2.Holds id with
        |some (r23,r24,r25)=>(bif !(r25==0) then some (z8,0,r25) else some (u6 c2 r23,a,0))
        |none=>none):=by
        intro id;rw[dd id,g5b (by rw[hH];omega),hH];have cl:=c8l (l:=c.Holds) (id:=id) hs.holds;generalize a2q c.Holds id=q at cl ⊢;obtain ⟨m,o,e⟩:=q;simp only at cl ⊢;by_cases he:e=0
        ·subst he;exact ⟨_,_,_,rfl,rfl,a7j sc2 cl⟩
        ·have he2:(e==0)=false:=by simpa using he
         simp only[he2,yaa,a78 _ _ _ he,yas,yac];exact w8
       generalize s7 c item=q2;obtain ⟨o,ok⟩:=q2;cases ok with
       |true=>
        have hw:c6 a2g (patron,a,true,0,c2,z8,x,o,())=some (a,true,c2,z8,o,()):=by
         refine o8 1 (by rw[o4];omega) ?_;simp only[o9,a2g];cases decide ((0:Int)<(c2.Holds.length:Int))<;>rfl
        simp only[yac];rw[show c6 a2g (patron,a,true,0,c2,ZN,x,o,())=_ from hw];exact fin o.ID
       |false=>
        have hw:=b5m (c:=c2) (v:=z8) (patron:=patron) (due:=a) (x:=x) (by rw[hH];omega) c2.Holds.length 0 o (by omega);have hw2:c6 a2g (patron,a,false,0,c2,z8,x,o,())=_:=o8 (c2.Holds.length+2) (by rw[o4,hH];omega) hw;rw[ybX,hH]at hw2;simp only[yaa];rw[show c6 a2g (patron,a,false,0,c2,ZN,x,o,())=_ from hw2];unfold c9s;rcases p7 (b38 patron x) c.Holds with ⟨g1,g2⟩|⟨j,y,g1,g2,g3,g4⟩
        ·rw[g1,g2];have d:decide ((0:Int)≤-1)=false:=rfl;simp only[d,yaa,c88];exact ⟨c2,a,0,rfl,rfl,sc2⟩
        ·have d:decide ((0:Int)≤(j:Int))=true:=by rw[yad];omega
         rw[g1,g4];simp only[d,yac,d9,g2];exact fin y.ID
      ·have he2:(e2==0)=false:=by simpa using hE2
       simp only[a8p _ _ _ hE2,a9m _ _ _ hE2,a78 _ _ _ hE2,he2,yas,yac];cases (s7 c item).2 with
       |true=>exact w8
       |false=>
        simp only[yaa];rcases p7 (b38 patron x) c.Holds with ⟨g1,g2⟩|⟨j,o,g1,g2,g3,g4⟩
        ·rw[g1];exact w8
        ·have d:decide ((0:Int)≤(j:Int))=true:=by rw[yad];omega
         simp only[g1,d,yac,d9,g2];exact w8
     ·have hE2:(E==0)=false:=by simpa using hE
      simp only[hE2,yaa,b60 _ _ _ _ hE,a9m _ _ _ hE,a78 _ _ _ hE,yas,yac];cases (s7 c item).2 with
      |true=>exact w8
      |false=>
       simp only[yaa];rcases p7 (b38 patron x) c.Holds with ⟨g1,g2⟩|⟨j,o,g1,g2,g3,g4⟩
       ·rw[g1];exact w8
       ·have d:decide ((0:Int)≤(j:Int))=true:=by rw[yad];omega
        simp only[g1,d,yac,d9,g2];exact w8
    ·have he2:(e==0)=false:=by simpa using he
     simp only[he2,yas,yac];exact w8
end
section
open Go (IntKind)
structure MidP (c:Circ):Prop where
 short:Short c
 moves:c.Moves.length<10000000
 holdsN:c.Holds.length<1000000
 sorted:∀(i:Nat) (x:Hold),c.Holds[i]?=some x→w7 c.Holds i (λy=>decide (x.ID≤y.ID))=false
 rank:∀o∈c.Holds,rng 0 9 o.Rank=true∧o.ID≠0
 few:∀r,(c.Holds.filter (λo=>o.Record==r)).length<40
 cal:∀b,CalOk (f17 c b)
 rules:∀r∈c.Rules,a5w r=true
 branch:∀x∈c.Items,rng 1 4 x.Custody.Branch=true
 ids:∀(i:Nat) (x:Item) (j:Nat) (y:Item),c.Items[i]?=some x→c.Items[j]?=some y→x.ID=y.ID→i=j
 chN:c.Charges.length<1000000
def a8r {c:Circ} (h:MidP c) {i:Nat} {x:Item} (hx:c.Items[i]?=some x):qn c x.ID=some (i:Int):=by
 rw[c2b h.short.items];rcases p7 (λy:Item=>y.ID==x.ID) c.Items with ⟨h1,h2⟩|⟨j,y,h1,h2,h3,h4⟩
 ·have:=ybF.1 h2 x (yag hx);simp at this
 ·rw[h1,h.ids i x j y hx h2 (by simpa using (by simpa using h3:y.ID=x.ID).symm)]
def a4n {X Y:Type} {f:X→Y} {l:List X} {j:Nat} {x y:X} (hx:l[j]?=some x) (hf:f y=f x):(l.set j y).map f=l.map f:=by
 rw[List.map_set,hf];apply List.ext_getElem?;intro k;rw[List.getElem?_set];split
 ·rename_i e;subst e;split
  ·rw[yaO,hx];rfl
  ·rename_i hk;have:=(zL hx)
   exact absurd (by simpa using this) hk
 ·rfl
def h3s {l m:List Item} (e:m.map (λx=>x.ID)=l.map (λx=>x.ID)) (h:∀(i:Nat) (x:Item) (j:Nat) (y:Item),l[i]?=some x→l[j]?=some y→x.ID=y.ID→i=j) :
 ∀(i:Nat) (x:Item) (j:Nat) (y:Item),m[i]?=some x→m[j]?=some y→x.ID=y.ID→i=j:=by
 have key:∀(i:Nat) (x:Item),m[i]?=some x→∃x',l[i]?=some x'∧x'.ID=x.ID:=by
  intro i x hx;have h1:(m.map (λx=>x.ID))[i]?=some x.ID:=by rw[yaO,hx];rfl
  rw[e,yaO]at h1;cases hl:l[i]? with
  |none=>rw[hl]at h1;cases h1
  |some x'=>rw[hl]at h1;exact ⟨x',rfl,by simpa using h1⟩
 intro i x j y hx hy hxy;obtain ⟨x',hx',ex⟩:=key i x hx;obtain ⟨y',hy',ey⟩:=key j y hy;exact h i x' j y' hx' hy' (by rw[ex,ey,hxy])
def e6w {c:Circ} (h:MidP c) {i:Nat} {x:Item} (hx:c.Items[i]?=some x) {m:Move} {u:Custody} (hu:rng 1 4 u.Branch=true) (hl:c.Moves.length<5000000):MidP (a0e c i x m u):=by
 refine ⟨b4r h.short (by omega) hx,?_,h.holdsN,h.sorted,h.rank,h.few,h.cal,h.rules,λy hy=>?_,?_,h.chN⟩
 ·show (c.Moves++[m]).length<_
  simp;omega
 ·rcases List.mem_or_eq_of_mem_set hy with hy|hy
  ·exact h.branch y hy
  ·rw[hy];exact hu
 ·exact h3s (a4n hx rfl) h.ids
def b6w {c:Custody} {m:Move} {u:Custody} (h:s8 c m=(u,0)):rng 1 4 u.Branch=true:=by
 have:=a9i (c:=c) (m:=m) (by rw[h];rfl);rw[h]at this;exact this
def a95 {c:Circ} (h:MidP c) {i:Nat} {x:Item} (hx:c.Items[i]?=some x) (kind branch who:Int) :
 (∃u,s8 x.Custody ⟨c.Today,x.ID,kind,branch,who⟩=(u,0)∧qbw (i:Int) kind branch who ⟨c,0⟩=some ((),⟨a0e c i x ⟨c.Today,x.ID,kind,branch,who⟩ u,0⟩)∧
  q8 c x.ID kind branch who=some (a0e c i x ⟨c.Today,x.ID,kind,branch,who⟩ u,0)∧MidP (a0e c i x ⟨c.Today,x.ID,kind,branch,who⟩ u))∨
 (∃e,e≠0∧qbw (i:Int) kind branch who ⟨c,0⟩=some ((),⟨c,e⟩)∧q8 c x.ID kind branch who=some (z8,e)):=by
 have hmv:=h.moves;have dm:=a7m (kind:=kind) (branch:=branch) (who:=who) h.short (by omega) hx;have rm:=h5n (kind:=kind) (branch:=branch) (who:=who) h.short (by omega) (a8r h hx) hx rfl;rw[dm,rm];cases ha:s8 x.Custody ⟨c.Today,x.ID,kind,branch,who⟩ with
 |mk u e=>
  by_cases hE:b0x c e=0
  ·left;simp only[hE,yal,yac];have he:e=0∧c.Moves.length<2000:=by
    unfold b0x at hE;cases hb:(e==0&&decide (2000≤(c.Moves.length:Int))) with
    |true=>rw[hb]at hE;cases hE
    |false=>
     rw[hb]at hE;simp only[yaa]at hE;subst hE;simp only[yal,ya8,yaf]at hb;exact ⟨rfl,by omega⟩
   obtain ⟨rfl,hlen⟩:=he;exact ⟨u,rfl,rfl,rfl,e6w h hx (b6w ha) (by omega)⟩
  ·right;have hE2:(b0x c e==0)=false:=by simpa using hE
   simp only[hE2,yaa];exact ⟨b0x c e,hE,rfl,rfl⟩
def d5w {c:Circ} (h:MidP c) {i:Nat} {x:Item} (hx:c.Items[i]?=some x):∃v,qed c x=some v∧qe8 c x.ID=some v∧(c4a c.Holds v).2=!(v==0)∧(v≠0→∃o∈c.Holds,o.ID=v∧c4a c.Holds v=(o,true)∧a0i x.Record c.Today o=true):=by
 have hf:(c.Holds.filter (a0i x.Record c.Today)).length<40:=by
  have e:c.Holds.filter (a0i x.Record c.Today)=(c.Holds.filter (λo=>o.Record==x.Record)).filter (a0i x.Record c.Today):=by
   rw[ybV];apply ycd;intro o _;unfold a0i;cases o.Record==x.Record<;>simp
  rw[e];have:=yaV (a0i x.Record c.Today) (c.Holds.filter (λo=>o.Record==x.Record));have:=h.few x.Record;omega
 have q1:=e7d (l:=c.Holds) (x:=x) (branch:=x.Custody.Branch) (day:=c.Today) (vlocal:=c.Local) h.holdsN hf (λo ho=>(h.rank o ho).1);have q2:=e7g (l:=c.Holds) (x:=x) (branch:=x.Custody.Branch) (day:=c.Today) (vlocal:=c.Local) h.holdsN h.sorted;rw[c6x (λo ho=>(h.rank o (yaD.1 (a3y ho)).1).2) (λ_=>rfl)]at q1;refine ⟨_,by unfold qed;rw[q1],by unfold qe8;rw[a8r h hx];simp only[d9,hx,q2],?_,?_⟩
 ·rcases b42 (branch:=x.Custody.Branch) (vlocal:=c.Local) (x:=x) (q:=o7 (c.Holds.filter (a0i x.Record c.Today))) (f:=0) with e|⟨o,ho,e⟩
  ·rw[e];unfold c4a;have:c.Holds.find? (λh=>h.ID==0)=none:=by
    rw[ybF];intro o ho;have:=(h.rank o ho).2;simpa using this
   rw[this]
   try rfl
  ·rw[e];have hm:=(yaD.1 (a3y ho)).1;rw[a6w h.sorted hm];have:=(h.rank o hm).2;simp[this]
 ·intro hv;rcases b42 (branch:=x.Custody.Branch) (vlocal:=c.Local) (x:=x) (q:=o7 (c.Holds.filter (a0i x.Record c.Today))) (f:=0) with e|⟨o,ho,e⟩
  ·exact absurd e hv
  ·have hm:=yaD.1 (a3y ho);exact ⟨o,hm.1,e.symm,by rw[e];exact a6w h.sorted hm.1,hm.2⟩
end
section
open Go (IntKind)
def i3y {α:Type} (a b:Bool) (x y:α):(bif a then (bif b then x else y) else y)=bif a&&b then x else y:=by cases a<;>rfl
def okS (state u:Int):Bool:=(state==3&&rng 1 109572 u)||(state==2&&u==0)
def h3r (x:Hold) (item state u:Int):Hold:=⟨x.ID,x.Patron,x.Record,x.Item,x.Pickup,x.Placed,state,item,u,x.Asleep,x.Rank⟩
def a3l (l:List Hold) (id item state u:Int):List Hold×Int:=
 match l.find? (λh=>h.ID==id) with
 |none=>([],9)
 |some x=>bif !(rng 1 9999 item)||!(okS state u) then ([],1)
  else bif !(x.State==1)&&((!(x.State==2)||!(x.Got==item))||!(state==3)) then ([],12)
  else bif l.any (λo=>o.Got==item&&!(o.ID==id)) then ([],7)
  else (l.set (a68 (λh=>h.ID==id) l).toNat (h3r x item state u),0)
def d7k {l:List Hold} (hl:l.length<1000000000):qc3 l=some l:=by
 unfold qc3;rw[a5q hl];rfl
def i5u {l:List Hold} {i:Nat} {x y:Hold} (hl:l.length<1000000000) (hx:l[i]?=some x):qfa l (i:Int) y=some (l.set i y):=by
 unfold qfa;simp only[d7k hl,d9,hx,yaB]
def h5d (state u:Int):(!(okS state u))=(!(state==3&&rng 1 109572 u)&&(!(state==2)||!(u==0))):=by
 unfold okS;cases (state==3&&rng 1 109572 u)<;>cases state==2<;>cases u==0<;>rfl
def g45 {l:List Hold} {id item state u:Int} (hl:l.length<1000000000):qaw l id item state u=some (a3l l id item state u):=by
 unfold qaw qa5 a3l;rw[b8w (p:=λ(g:Unit×Int×Unit) x0=>qes x0 g.2.1) (g:=((),(id,()))) (λx=>x.ID==id) hl (λx _=>rfl)];have hc:=e7m (p:=λ(g:Unit×Int×Int×Unit) x0=>qc9 x0 g.2.1 g.2.2.1) (g:=((),(item,id,()))) (λo=>o.Got==item&&!(o.ID==id)) hl (λo _=>by
  simp -zeta only[qc9,s9];rfl)
 rcases p7 (λx:Hold=>x.ID==id) l with ⟨h1,h2⟩|⟨i,x,h1,h2,h3,h4⟩
 ·simp only[h1,h2,a59,yac]
 ·simp -zeta only[h1,h4,a4i,yaa,d9,h2,e7i,a0x,s9,a91,yaB];dsimp only;rw[h5d];cases (!(rng 1 9999 item)||(!(state==3&&rng 1 109572 u)&&(!(state==2)||!(u==0)))) with
  |true=>rfl
  |false=>
   simp only[yaa,i3y];cases (!(x.State==1)&&((!(x.State==2)||!(x.Got==item))||!(state==3))) with
   |true=>rfl
   |false=>
    simp only[yaa,hc];cases l.any (λo=>o.Got==item&&!(o.ID==id)) with
    |true=>rfl
    |false=>simp only[yaa,i5u hl h2];rfl
def h5t {l:List Hold} {y:Hold} (hl:l.length<1000000000):qbf l y=some (l.map (λx=>bif x.ID==y.ID then y else x)):=by
 have h:=u0 (step:=b80) (λ(i:Nat) (s:List Hold)=>s.length≤i) (λi s=>(l,(i:Int),y,s,())) l
  (λi x s=>.inl (s++[bif x.ID==y.ID then y else x])) (λs=>(s,())) (by rw[o4];omega)
  (λs _=>by simp only[b80,dge,yaa])
  (λi x s hx hi=>by
   have hlt:=(zL hx)
   have l1:∀z:Hold,decide (s.length+([z]:List Hold).length≤LIM)=true:=λz=>a2d (by simp;omega)
   refine ⟨?_,λs' hs'=>?_⟩
   ·simp only[b80,dlt hlt,d9,hx,yac,l1,wS i];cases x.ID==y.ID<;>rfl
   ·cases hs'
    simp;omega) [] (by simp)
 rw[a0k]at h;unfold qbf;rw[show c6 b80 (l,0,y,([]:List Hold),())=_ from h];simp only;congr 1;have key:∀(l o:List Hold),l.foldl (λs x=>s++[bif x.ID==y.ID then y else x]) o=o++l.map (λx=>bif x.ID==y.ID then y else x):=by
  intro l
  induction l with
  |nil=>intro o;simp
  |cons x l ih=>intro o;rw[ybp,ih];simp
 rw[key,yaU]
def b8e {l:List Hold} (hsort:∀i x,l[i]?=some x→w7 l i (λy=>decide (x.ID≤y.ID))=false) {i:Nat} {x y:Hold} (hx:l[i]?=some x) (hy:y.ID=x.ID):l.map (λz=>bif z.ID==y.ID then y else z)=l.set i y:=by
 apply List.ext_getElem?;intro j;rw[yaO,List.getElem?_set];have hlt:=(zL hx)
 split
 ·rename_i e;subst e;simp only[hx,ybz,hlt,ybD,hy,yal,yac]
 ·rename_i e;cases hj:l[j]? with
  |none=>rfl
  |some z=>
   have hne:¬z.ID=y.ID:=by
    rw[hy];rcases Nat.lt_or_gt_of_ne e with h|h
    ·have:=a2i (key:=λy:Hold=>y.ID) hsort j i x z h hx hj;omega
    ·have:=a2i (key:=λy:Hold=>y.ID) hsort i j z x h hj hx;omega
   have hb:(z.ID==y.ID)=false:=by simpa using hne
   simp only[ybz,hb,yaa]
def h5c (state u:Int):((!(state==2)&&!(state==3))||(state==3&&(decide (u<1)||!(rng 0 109572 u)))||(state==2&&!(u==0)))=!(okS state u):=by
 unfold okS;by_cases h3:state=3
 ·subst h3;unfold rng;by_cases h1:u<1
  ·have:¬1≤u:=by omega
   simp[h1,this]
  ·have a:1≤u:=by omega
   have b:0≤u:=by omega
   simp[h1,a,b]
 ·have e3:(state==3)=false:=by simpa using h3
  rw[e3];cases state==2<;>cases u==0<;>rfl
def d52 {l:List Hold} {id item state u:Int} (hl:l.length<1000000000) (hsort:∀i x,l[i]?=some x→w7 l i (λy=>decide (x.ID≤y.ID))=false):qbk l id item state u=some (a3l l id item state u):=by
 unfold qbk a3l;rw[b8o hl];unfold c4a;rcases p7 (λx:Hold=>x.ID==id) l with ⟨h1,h2⟩|⟨i,x,h1,h2,h3,h4⟩
 ·rw[h2];rfl
 ·have hxid:x.ID=id:=by simpa using h3
  have hw:=w9 (step:=b84) (λi=>(l,id,item,state,u,(i:Int),x,())) l (λo=>!(o.ID==id)&&o.Got==item) (λ_ _=>(.inr ([],7,()):(List Hold×Int×Int×Int×Hold×Unit)⊕(List Hold×Int×Unit))) (.inl (l,item,state,u,x,())) hl
   (by simp only[b84,dge,yaa])
   (λj y hy=>by
    have hlt:=(zL hy)
    simp -zeta only[b84,dlt hlt,d9,hy,yac,s9,wS j];rfl)
  rw[b0o]at hw;rw[h4];simp -zeta only[yak,yaa,g5l,g5m,a0x,s9,a91,h1,yaB];dsimp only;rw[←h5c];have eb:∀a b c d:Bool,((a||b||c)||d)=(a||(b||c||d)):=by decide
  cases hq:(!(rng 1 9999 item)||(!(state==2)&&!(state==3)||(state==3&&(decide (u<1)||!(rng 0 109572 u)))||(state==2&&!(u==0)))) with
  |true=>
   rw[←eb]at hq;rw[hq]
   try rfl
  |false=>
   rw[←eb]at hq;rw[hq];simp only[yaa,i3y];cases (!(x.State==1)&&((!(x.State==2)||!(x.Got==item))||!(state==3))) with
   |true=>rfl
   |false=>
    simp only[yaa];rw[show c6 b84 (l,id,item,state,u,0,x,())=_ from hw];have ea:l.any (λo=>o.Got==item&&!(o.ID==id))=(l.find? (λo=>!(o.ID==id)&&o.Got==item)).isSome:=by
     rw[ybj,List.find?_isSome,List.any_eq_true];constructor
     ·rintro ⟨o,ho,hp⟩;exact ⟨o,ho,by rw[Bool.and_comm];exact hp⟩
     ·rintro ⟨o,ho,hp⟩;exact ⟨o,ho,by rw[Bool.and_comm];exact hp⟩
    rw[ea];cases l.find? (λo=>!(o.ID==id)&&o.Got==item) with
    |some o=>rfl
    |none=>
     simp only[yb5,yaa];have:=h5t (l:=l) (y:=h3r x item state u) hl;rw[b8e hsort h2 (y:=h3r x item state u) rfl]at this;rw[show qbf l (⟨x.ID,x.Patron,x.Record,x.Item,x.Pickup,x.Placed,state,item,u,x.Asleep,x.Rank⟩:Hold)=_ from this]
def a22 (o:Hold):Int×Int×Int:=(o.ID,o.Rank,o.Record)
def c4f {c:Circ} (h:MidP c) {l:List Hold} (e:l.map a22=c.Holds.map a22):MidP (u6 c l):=by
 have hlen:l.length=c.Holds.length:=by have:=congrArg List.length e;simpa using this
 have key:∀(i:Nat) (x:Hold),l[i]?=some x→∃x',c.Holds[i]?=some x'∧a22 x'=a22 x:=by
  intro i x hx;have h1:(l.map a22)[i]?=some (a22 x):=by rw[yaO,hx];rfl
  rw[e,yaO]at h1;cases hl:c.Holds[i]? with
  |none=>rw[hl]at h1;cases h1
  |some x'=>rw[hl]at h1;exact ⟨x',rfl,by simpa using h1⟩
 refine ⟨a7j h.short (by rw[hlen];exact h.short.holds),h.moves,?_,?_,?_,?_,h.cal,h.rules,h.branch,h.ids,h.chN⟩
 ·show l.length<_;rw[hlen];exact h.holdsN
 ·intro i x hx;obtain ⟨x',hx',ek⟩:=key i x hx;have hs:=h.sorted i x' hx';cases i with
  |zero=>rfl
  |succ j=>
   show w7 l (j+1) _=false
   unfold w7 at hs ⊢;simp only at hs ⊢;cases hj:l[j]? with
   |none=>rfl
   |some y=>
    obtain ⟨y',hy',ey⟩:=key j y hj;rw[hy']at hs;unfold a22 at ek ey;simp only[ya7]at ek ey;simp only at hs;rw[ek.1,ey.1]at hs;exact hs
 ·intro o ho;obtain ⟨i,hi⟩:=yaw ho;obtain ⟨x',hx',ek⟩:=key i o hi;have:=h.rank x' (yag hx');unfold a22 at ek;simp only[ya7]at ek;rw[←ek.1,←ek.2.1];exact this
 ·intro r;have e1:∀m:List Hold,(m.filter (λo=>o.Record==r)).length=((m.map a22).filter (λk=>k.2.2==r)).length:=by
   intro m;rw[List.filter_map,ybm]
   try rfl
  show (l.filter (λo=>o.Record==r)).length<40
  rw[e1,e,←e1];exact h.few r
def b7n {l:List Hold} {id item state u:Int} (h:(a3l l id item state u).2=0):(a3l l id item state u).1.map a22=l.map a22:=by
 unfold a3l at h ⊢;rcases p7 (λx:Hold=>x.ID==id) l with ⟨h1,h2⟩|⟨i,x,h1,h2,h3,h4⟩
 ·rw[h2]at h;cases h
 ·rw[h4]at h ⊢;simp only at h ⊢;cases hq:(!(rng 1 9999 item)||!(okS state u)) with
  |true=>rw[hq]at h;cases h
  |false=>
   rw[hq]at h;simp only[yaa]at h ⊢;cases hq2:(!(x.State==1)&&((!(x.State==2)||!(x.Got==item))||!(state==3))) with
   |true=>rw[hq2]at h;cases h
   |false=>
    rw[hq2]at h;simp only[yaa]at h ⊢;cases hq3:l.any (λo=>o.Got==item&&!(o.ID==id)) with
    |true=>rw[hq3]at h;cases h
    |false=>
     simp only[yaa,h1,yaB];exact a4n h2 rfl
end
section
open Go (IntKind)
structure Frame (c d:Circ):Prop where
 ids:d.Items.map (λx=>x.ID)=c.Items.map (λx=>x.ID)
 holds:d.Holds.map a22=c.Holds.map a22
 patrons:d.Patrons=c.Patrons
 loans:d.Loans=c.Loans
 charges:d.Charges=c.Charges
 rules:d.Rules=c.Rules
 cals:d.Cals=c.Cals
 today:d.Today=c.Today
 here:d.Local=c.Local
 nh:d.NextHold=c.NextHold
 nc:d.NextCharge=c.NextCharge
 br:d.Items.map (λx=>x.Custody.Branch)=c.Items.map (λx=>x.Custody.Branch)
 recs:d.Items.map (λx=>x.Record)=c.Items.map (λx=>x.Record)
def Frame.refl (c:Circ):Frame c c:=⟨rfl,rfl,rfl,rfl,rfl,rfl,rfl,rfl,rfl,rfl,rfl,rfl,rfl⟩
def Frame.trans {a b c:Circ} (h:Frame a b) (k:Frame b c):Frame a c:=
 ⟨k.ids.trans h.ids,k.holds.trans h.holds,k.patrons.trans h.patrons,k.loans.trans h.loans,k.charges.trans h.charges,k.rules.trans h.rules,k.cals.trans h.cals,k.today.trans h.today,k.here.trans h.here,k.nh.trans h.nh,k.nc.trans h.nc,k.br.trans h.br,k.recs.trans h.recs⟩
def b4q {c:Circ} {i:Nat} {x:Item} (hx:c.Items[i]?=some x) (m:Move) {u:Custody} (hu:u.Branch=x.Custody.Branch):Frame c (a0e c i x m u):=
 ⟨a4n hx rfl,rfl,rfl,rfl,rfl,rfl,rfl,rfl,rfl,rfl,rfl,a4n hx hu,a4n hx rfl⟩
def b23 {c:Custody} {m:Move} {u:Custody} (h:s8 c m=(u,0)) (hk:(a0z m.Kind==2)=false):u.Branch=c.Branch:=by
 unfold s8 at h;cases e1:(!(a9b c)||!(a9a m)) with
 |true=>rw[e1]at h;cases h
 |false=>
  rw[e1]at h;simp only[yaa]at h;cases e2:!(a64 c.State m.Kind) with
  |true=>rw[e2]at h;cases h
  |false=>
   rw[e2]at h;simp only[yaa]at h;cases e3:(m.Kind==3&&c.State==5&&!(m.Who==c.Who)) with
   |true=>rw[e3]at h;cases h
   |false=>
    rw[e3]at h;simp only[yaa]at h;cases e4:!(c2a c m) with
    |true=>rw[e4]at h;cases h
    |false=>
     rw[e4]at h;simp only[yaa,hk]at h;cases e5:(a0z m.Kind==4||(a0z m.Kind==5||a0z m.Kind==8)) with
     |true=>rw[e5]at h;cases h;rfl
     |false=>
      rw[e5]at h;simp only[yaa]at h;cases e6:(a0z m.Kind==6) with
      |true=>rw[e6]at h;cases h;rfl
      |false=>
       rw[e6]at h;simp only[yaa]at h;cases e7:(a0z m.Kind==9||a0z m.Kind==10) with
       |true=>rw[e7]at h;cases h;rfl
       |false=>rw[e7]at h;cases h;rfl
def a7i {c:Circ} {l:List Hold} (e:l.map a22=c.Holds.map a22):Frame c (u6 c l):=⟨rfl,e,rfl,rfl,rfl,rfl,rfl,rfl,rfl,rfl,rfl,rfl,rfl⟩
def c77 (a:Option (Unit×Circ_desk)) (b:Option (Circ×Int)) (Q:Circ→Prop):Prop:=
 (∃c,a=some ((),⟨c,0⟩)∧b=some (c,0)∧Q c)∨∃c e,e≠0∧a=some ((),⟨c,e⟩)∧b=some (z8,e)∧Short c
def c00 {c:Circ} (h:MidP c) {b n:Int} (hb:rng 1 4 b=true):∃d e,qgb b n ⟨c,0⟩=some (d,⟨c,e⟩)∧qb3 (f17 c b) c.Today n=some (d,e):=by
 obtain ⟨d,e,hq⟩:=b0t (h.cal b) c.Today n;refine ⟨d,e,?_,hq⟩;unfold qgb;simp only[c67 hb,e7f (h.cal b),hq];by_cases he:e=0
 ·subst he;rfl
 ·have he2:(e==0)=false:=by simpa using he
  simp only[he2,yas,yac,qz,yal]
def b6z {c:Circ} (h:MidP c) {b n e0:Int} (hb:rng 1 4 b=true) (h0:e0≠0):∃d,qgb b n ⟨c,e0⟩=some (d,⟨c,e0⟩):=by
 obtain ⟨d,e,hq⟩:=b0t (h.cal b) c.Today n;have h2:(e0==0)=false:=by simpa using h0
 refine ⟨d,?_⟩;unfold qgb;simp only[c67 hb,e7f (h.cal b),hq];cases e==0<;>simp only[yas,yak,yac,yaa,qz,h2]
def c77.mono {a:Option (Unit×Circ_desk)} {b:Option (Circ×Int)} {Q R:Circ→Prop} (h:c77 a b Q) (hQ:∀d,Q d→R d):c77 a b R:=by
 rcases h with ⟨d,h1,h2,h3⟩|h
 ·exact .inl ⟨d,h1,h2,hQ d h3⟩
 ·exact .inr h
def b9t {c:Circ} (h:MidP c) {i:Nat} {x:Item} (hx:c.Items[i]?=some x) (o:Hold):c77 (qd4 (i:Int) o ⟨c,0⟩) (qeb c x.ID o) (λd=>(MidP d∧Frame c d)∧(∃u,d.Items=c.Items.set i (a09 u x))∧∃st u,a3l c.Holds o.ID x.ID st u=(d.Holds,0)):=by
 obtain ⟨r,b,hr,_⟩:=b59 (p:=o.Patron) (x:=x) h.short;have hb:=h.branch x (yag hx);unfold qd4 qeb;simp -zeta only[yal,yak,yaa,a8r h hx,d9,hx,c18 h.short,hr];rcases a95 h hx 5 x.Custody.Branch o.Patron with ⟨u,ha,m1,m2,hm2⟩|⟨e,he,m1,m2⟩
 ·have hf:=b4q hx ⟨c.Today,x.ID,5,x.Custody.Branch,o.Patron⟩ (b23 ha rfl);rw[m1,m2];have hh:(a0e c i x ⟨c.Today,x.ID,5,x.Custody.Branch,o.Patron⟩ u).Holds=c.Holds:=rfl;have hI:(a0e c i x ⟨c.Today,x.ID,5,x.Custody.Branch,o.Patron⟩ u).Items=c.Items.set i (a09 u x):=rfl;generalize a0e c i x ⟨c.Today,x.ID,5,x.Custody.Branch,o.Patron⟩ u=c2 at hm2 hf hh hI;dsimp only;have core:∀days:Int,∃d e,qgb x.Custody.Branch days ⟨c2,0⟩=some (d,⟨c2,e⟩)∧qb3 (f17 c2 x.Custody.Branch) c2.Today days=some (d,e):=λdays=>c00 hm2 hb
  cases b
  all_goals
   simp only[yac,yaa,yal,yak,e7y hb];obtain ⟨d,e,l1,l2⟩:=core _;rw[l1,l2];by_cases he:e=0
   ·subst he;simp only[yal,yak,yac,yaa,g45 hm2.short.holds,d52 hm2.short.holds hm2.sorted];have ck:=b7n (l:=c2.Holds) (id:=o.ID) (item:=x.ID) (state:=3) (u:=d);generalize hcq:a3l c2.Holds o.ID x.ID 3 d=q at ck;obtain ⟨l,e⟩:=q;by_cases he:e=0
    ·subst he;exact .inl ⟨u6 c2 l,rfl,rfl,⟨c4f hm2 (ck rfl),hf.trans (a7i (ck rfl))⟩,⟨u,hI⟩,3,d,by rw[←hh];exact hcq⟩
    ·have he2:(e==0)=false:=by simpa using he
     simp only[a58 c2 l e he,he2,yas,yac];exact .inr ⟨_,e,he,rfl,rfl,hm2.short⟩
   ·have he2:(e==0)=false:=by simpa using he
    simp only[he2,yas,yac,yaa];exact .inr ⟨_,e,he,rfl,rfl,hm2.short⟩
 ·have he2:(e==0)=false:=by simpa using he
  rw[m1,m2];dsimp only;cases b
  all_goals
   simp only[yac,yaa,he2,yas];obtain ⟨d,l1⟩:=b6z (n:=_) h hb he;rw[l1];simp only[he2,yaa];exact .inr ⟨_,e,he,rfl,rfl,h.short⟩
def e8a {c:Circ} (h:MidP c) {i:Nat} {x:Item} (hx:c.Items[i]?=some x) (o:Hold):c77 (qd4 (i:Int) o ⟨c,0⟩) (qeb c x.ID o) (λd=>MidP d∧Frame c d):=(b9t h hx o).mono (λ_ h=>h.1)
def c31 {c:Circ} {i:Nat} {x:Item} (hx:c.Items[i]?=some x) (kind:Int):qgc (i:Int) kind ⟨c,0⟩=qbw (i:Int) kind x.Custody.Branch 0 ⟨c,0⟩:=by
 unfold qgc;simp only[yal,yac,d9,hx];cases qbw (i:Int) kind x.Custody.Branch 0 ⟨c,0⟩ with
 |none=>rfl
 |some p=>rfl
def c0y (c:Circ) (i e0:Int) (h0:e0≠0):qf9 i ⟨c,e0⟩=some ((),⟨c,e0⟩):=by
 have h:(e0==0)=false:=by simpa using h0
 unfold qf9;simp only[h,yas,yac]
def b61 (c:Circ) (i e0:Int) (o:Hold) (h0:e0≠0):qd4 i o ⟨c,e0⟩=some ((),⟨c,e0⟩):=by
 have h:(e0==0)=false:=by simpa using h0
 unfold qd4;simp only[h,yas,yac]
def d6h {X:Type} {l:List X} {i:Nat} {x:X} (h:l[i]?=some x):l.set i x=l:=by
 obtain ⟨h1,h2⟩:=yaA.1 h;rw[←h2,List.set_getElem_self]
def c1h {l:List Hold} (hs:∀i x,l[i]?=some x→w7 l i (λy=>decide (x.ID≤y.ID))=false) {o p:Hold} (ho:o∈l) (hp:p∈l) (e:o.ID=p.ID):o=p:=by
 have h1:=a6w hs ho;have h2:=a6w hs hp;rw[e,h2]at h1;cases h1
 try rfl
def Put (c d:Circ) (i:Nat) (x:Item):Prop:=(∃u,d.Items=c.Items.set i (a09 u x))∧∃v,qed c x=some v∧((v=0∧d.Holds=c.Holds)∨∃st u,a3l c.Holds v x.ID st u=(d.Holds,0)∧(st=3→∀o∈c.Holds,o.ID=v→o.Pickup=x.Custody.Branch))
def e1b {c:Circ} (h:MidP c) {i:Nat} {x:Item} (hx:c.Items[i]?=some x):c77 (qf9 (i:Int) ⟨c,0⟩) (qgl c x.ID) (λd=>(MidP d∧Frame c d)∧Put c d i x):=by
 obtain ⟨v,p1,p2,g1,g2⟩:=d5w h hx;have mv:∀kind branch who:Int,(a0z kind==2)=false→c77 (qbw (i:Int) kind branch who ⟨c,0⟩) (q8 c x.ID kind branch who) (λd=>(MidP d∧Frame c d)∧d.Holds=c.Holds∧∃u,d.Items=c.Items.set i (a09 u x)):=by
  intro kind branch who hk;rcases a95 h hx kind branch who with ⟨u,ha,m1,m2,hm2⟩|⟨e,he,m1,m2⟩
  ·exact .inl ⟨_,m1,m2,⟨hm2,b4q hx _ (b23 ha hk)⟩,rfl,u,rfl⟩
  ·exact .inr ⟨_,e,he,m1,m2,h.short⟩
 unfold qf9 qgl;simp -zeta only[yal,yak,yaa,a8r h hx,d9,hx,p1,p2,g5z h.short.holds,b8o h.short.holds,c31 hx,s9];by_cases hv:v=0
 ·subst hv;generalize c4a c.Holds 0=q at g1 ⊢;obtain ⟨o,ok⟩:=q;simp only[yal,yak]at g1;subst g1;dsimp only;simp only[yas,ya8,yal,yac];cases x.Branch==x.Custody.Branch with
  |false=>
   simp only[yas,yac];rcases mv 6 x.Branch 0 rfl with ⟨d,m1,m2,hQ,hH,hI⟩|⟨d,e,he,m1,m2,hsd⟩
   ·rw[m1,m2];exact .inl ⟨d,rfl,rfl,hQ,hI,0,p1,.inl ⟨rfl,hH⟩⟩
   ·rw[m1,m2];exact .inr ⟨d,e,he,rfl,rfl,hsd⟩
  |true=>
   simp only[yak,yaa];cases x.Custody.State==3 with
   |true=>exact .inl ⟨c,rfl,rfl,⟨h,Frame.refl c⟩,⟨x.Custody,(d6h hx).symm⟩,0,p1,.inl ⟨rfl,rfl⟩⟩
   |false=>
    simp only[yas,yac,yaa];rcases mv 2 x.Custody.Branch 0 rfl with ⟨d,m1,m2,hQ,hH,hI⟩|⟨d,e,he,m1,m2,hsd⟩
    ·rw[m1,m2];exact .inl ⟨d,rfl,rfl,hQ,hI,0,p1,.inl ⟨rfl,hH⟩⟩
    ·rw[m1,m2];exact .inr ⟨d,e,he,rfl,rfl,hsd⟩
 ·have hv2:(v==0)=false:=by simpa using hv
  obtain ⟨o,ho,hoi,hg,hw⟩:=g2 hv;rw[hg,hv2];dsimp only;simp only[yak,ybw,yaa];cases hpk:o.Pickup==x.Custody.Branch with
  |true=>
   simp only[yac];rcases b9t h hx o with ⟨d,m1,m2,hQ,hI,st,u,hH⟩|⟨d,e,he,m1,m2,hsd⟩
   ·rw[m1,m2];exact .inl ⟨d,rfl,rfl,hQ,hI,v,p1,.inr ⟨st,u,by rw[←hoi];exact hH,λ_ o2 ho2 hv2=>by rw[c1h h.sorted ho2 ho (hv2.trans hoi.symm)];simpa using hpk⟩⟩
   ·rw[m1,m2];exact .inr ⟨d,e,he,rfl,rfl,hsd⟩
  |false=>
   simp only[yaa];rcases mv 6 o.Pickup o.Patron rfl with ⟨d,m1,m2,⟨hm2,hf⟩,hH,hI⟩|⟨d,e,he,m1,m2,hsd⟩
   ·rw[m1,m2];simp only[yal,yak,yac,yaa,g45 hm2.short.holds,d52 hm2.short.holds hm2.sorted];have ck:=b7n (l:=d.Holds) (id:=v) (item:=x.ID) (state:=2) (u:=0);generalize hcq:a3l d.Holds v x.ID 2 0=q at ck;obtain ⟨l,e⟩:=q;by_cases he:e=0
    ·subst he;exact .inl ⟨u6 d l,rfl,rfl,⟨c4f hm2 (ck rfl),hf.trans (a7i (ck rfl))⟩,hI,v,p1,.inr ⟨2,0,by rw[←hH];exact hcq,λh=>absurd h (by decide)⟩⟩
    ·have he2:(e==0)=false:=by simpa using he
     simp only[a58 d l e he,he2,yas,yac];exact .inr ⟨_,e,he,rfl,rfl,hm2.short⟩
   ·have he2:(e==0)=false:=by simpa using he
    rw[m1,m2];simp only[he2,yaa,yas,yac];exact .inr ⟨d,e,he,rfl,rfl,hsd⟩
def f2u {c:Circ} (h:MidP c) {i:Nat} {x:Item} (hx:c.Items[i]?=some x):c77 (qf9 (i:Int) ⟨c,0⟩) (qgl c x.ID) (λd=>MidP d∧Frame c d):=(e1b h hx).mono (λ_ h=>h.1)
end
section
open Go (IntKind)
def a8d {c:Circ} {i:Nat} {x:Item} (hx:c.Items[i]?=some x) (m:Move) (u:Custody):(a0e c i x m u).Items[i]?=some (a09 u x):=by
 show (c.Items.set i (a09 u x))[i]?=_
 rw[ybx (zL hx)]
def a79 {c:Circ} (h:MidP c) (item:Int):(a68 (λx=>x.ID==item) c.Items = -1∧qn c item=some (-1)∧c.Items.find? (λx=>x.ID==item)=none)∨
 ∃(i:Nat) (x:Item),a68 (λx=>x.ID==item) c.Items=(i:Int)∧qn c item=some (i:Int)∧c.Items[i]?=some x∧x.ID=item∧c.Items.find? (λx=>x.ID==item)=some x:=by
 rcases p7 (λx:Item=>x.ID==item) c.Items with ⟨h1,h2⟩|⟨i,x,h1,h2,h3,h4⟩
 ·exact .inl ⟨h1,by rw[c2b h.short.items,h1],h2⟩
 ·exact .inr ⟨i,x,h1,by rw[c2b h.short.items,h1],h2,by simpa using h3,h4⟩
end
section
open Go (IntKind)
def h94 (r:Int) (c d:Circ):Prop:=d.Items.map (λx=>x.Record)=c.Items.map (λx=>x.Record)∧∀(j:Nat) (y:Item),c.Items[j]?=some y→¬y.Record=r→d.Items[j]?=some y
def h94.refl (r:Int) (c:Circ):h94 r c c:=⟨rfl,λ_ _ h _=>h⟩
def h94.trans {r:Int} {a b c:Circ} (h:h94 r a b) (k:h94 r b c):h94 r a c:=⟨k.1.trans h.1,λj y hy hr=>k.2 j y (h.2 j y hy hr) hr⟩
end
section
open Go (IntKind)
def d1e {l:List Hold}:(∀i x,l[i]?=some x→w7 l i (λy=>decide (x.ID≤y.ID))=false)↔l.Pairwise (λa b=>a.ID<b.ID):=by
 constructor
 ·intro h;rw[ya2];intro i j hi hj hij;exact a2i (key:=λy:Hold=>y.ID) h j i l[i] l[j] hij (yab hi) (yab hj)
 ·intro h i x hx;cases i with
  |zero=>rfl
  |succ j=>
   unfold w7;simp only;have hi:=(yaA.1 hx)
   have hj:j<l.length:=by have:=hi.1;omega
   rw[yab hj];have:=(ya2.1 h) j (j+1) hj hi.1 (by omega);rw[hi.2]at this;simp only[yaf];omega
def c8m {l:List Hold} (hsort:∀i x,l[i]?=some x→w7 l i (λy=>decide (x.ID≤y.ID))=false) {o:Hold} (ho:o∈l):a2q l o.ID=(l.filter (λx=>!(x.ID==o.ID)),o,0):=by
 have:=a6w hsort ho;unfold c4a at this;unfold a2q;cases hq:l.find? (λh=>h.ID==o.ID) with
 |none=>rw[hq]at this;cases this
 |some x=>rw[hq]at this;cases this;rfl
end
section
open Go (IntKind)
def c2u (l:List Charge) (c:Charge):List Charge×Int:=bif !(p8 (l++[c])==0) then ([],p8 (l++[c])) else (l++[c],0)
def i43 {l:List Charge} {c:Charge} (hl:l.length<1000000):qc5 l c=some (c2u l c):=by
 have l1:decide (l.length+([c]:List Charge).length≤LIM)=true:=a2d (by simp;omega);have l0:decide (l.length≤LIM)=true:=by rw[yad];unfold LIM;omega
 unfold qc5 c2u;simp only[l0,l1,yac,g46 (show (l++[c]).length<1000000000 by simp;omega)];cases !(p8 (l++[c])==0)<;>rfl
def d71 {X:Type}:∀(l o:List X),l.foldl (λs x=>s++[x]) o=o++l:=by
 intro l
 induction l with
 |nil=>intro o;simp
 |cons x l ih=>intro o;rw[ybp,ih];simp
def i48 {l:List Charge} {c:Charge} (hl:l.length<1000000):qcd l c=some (c2u l c):=by
 have hw:=u0 (step:=b9f) (λ(i:Nat) (s:List Charge)=>s.length≤i) (λi s=>(l,(i:Int),c,s,())) l
  (λi x s=>.inl (s++[x])) (λs=>(c,s,())) (by rw[o4];omega)
  (λs _=>by simp only[b9f,dge,yaa])
  (λi x s hx hi=>by
   have hlt:=(zL hx)
   have l1:∀z:Charge,decide (s.length+([z]:List Charge).length≤LIM)=true:=λz=>a2d (by simp;omega)
   refine ⟨?_,λs' hs'=>?_⟩
   ·simp only[b9f,dlt hlt,d9,hx,yac,l1,wS i]
   ·cases hs'
    simp;omega) [] (by simp)
 rw[a0k,d71,yaU]at hw;have l1:decide (l.length+([c]:List Charge).length≤LIM)=true:=a2d (by simp;omega);unfold qcd c2u;rw[show c6 b9f (l,0,c,([]:List Charge),())=_ from hw];simp only[l1,yac,g42 (show (l++[c]).length<1000000000 by simp;omega)];cases !(p8 (l++[c])==0)<;>rfl
def a5k (c:Circ) (l:List Charge) (n:Int):Circ:=⟨c.Today,c.Items,c.Patrons,c.Loans,c.Holds,l,c.Rules,c.Cals,c.Moves,c.NextHold,n,c.Local⟩
def d2h {c:Circ} (h:MidP c) {l:List Charge} (hl:l.length<1000000) (n:Int):MidP (a5k c l n):=by
 obtain ⟨⟨a1,a2,a3,a4,a5,a6,a7,a8,a9,a10,a11,a12,a13⟩,h2,h3,h4,h5,h6,h7,h8,h9,h10,h11⟩:=h;exact ⟨⟨a1,a2,a3,a4,by show l.length<_;omega,a6,a7,a8,a9,a10,a11,a12,a13⟩,h2,h3,h4,h5,h6,h7,h8,h9,h10,hl⟩
def f2k {l:List Charge} {x:Charge} (h:(c2u l x).2=0):(c2u l x).1=l++[x]∧p8 (l++[x])=0:=by
 unfold c2u at h ⊢;by_cases he:p8 (l++[x])=0
 ·simp only[he,yal,yak,yaa,and_self]
 ·have he2:(p8 (l++[x])==0)=false:=by simpa using he
  rw[he2]at h;exact absurd h he
def b7o {c:Circ} (h:MidP c) (vid item kind amount:Int):c77 (qga vid item kind amount ⟨c,0⟩) (qgf c vid item kind amount)
 (λd=>d=a5k c (c.Charges++[⟨c.NextCharge,vid,item,c.Today,kind,amount,0⟩]) (wr .i64 (c.NextCharge+1))∧p8 (c.Charges++[⟨c.NextCharge,vid,item,c.Today,kind,amount,0⟩])=0∧c.NextCharge≤99999):=by
 unfold qga qgf;simp only[yal,yak,yaa,i43 h.chN,i48 h.chN];cases hq:decide (99999<c.NextCharge) with
 |true=>exact .inr ⟨c,13,by decide,rfl,rfl,h.short⟩
 |false=>
  have hq:¬99999<c.NextCharge:=by simpa using hq
  simp only[yaa];have ho:=f2k (l:=c.Charges) (x:=⟨c.NextCharge,vid,item,c.Today,kind,amount,0⟩);generalize c2u c.Charges ⟨c.NextCharge,vid,item,c.Today,kind,amount,0⟩=q at ho ⊢;obtain ⟨l,e⟩:=q;by_cases he:e=0
  ·subst he;have:=ho rfl;exact .inl ⟨a5k c l (wr .i64 (c.NextCharge+1)),rfl,rfl,by rw[←this.1],this.2,by omega⟩
  ·have he2:(e==0)=false:=by simpa using he
   simp only[he2,yas,yac];exact .inr ⟨c,e,he,by simp only[qz,yal,yac],rfl,h.short⟩
def b3h {l:List Charge} (h:p8 l=0):l.length<1000000:=by have:=(b0i h).1;omega
end
section
open Go (IntKind)
def a8u (l:List Loan) (item:Int):List Loan×Loan×Int:=
 match l.find? (λn=>n.Item==item) with
 |some n=>(l.take (a68 (λn=>n.Item==item) l).toNat++l.drop ((a68 (λn=>n.Item==item) l).toNat+1),n,0)
 |none=>([],i4b,9)
def i5s {l:List Loan} {item:Int} (hl:l.length<100000000):qev l item=some (a8u l item):=by
 have hl2:l.length<1000000000:=by omega
 unfold qev a8u qan;dsimp only;rw[a6x hl2];rcases p7 (λx:Loan=>x.Item==item) l with ⟨h1,h2⟩|⟨i,x,h1,h2,h3,h4⟩
 ·rw[h2];rfl
 ·have hlt:=(zL h2)
  have hc:qcp l=some l:=by unfold qcp;rw[a5q hl2];rfl
  have hd:qc6 l (i:Int) ((i+1:Nat):Int)=some (l.take i++l.drop (i+1)):=by
   show a7h l (i:Int) ((i+1:Nat):Int)=_
   unfold a7h;have d1:decide ((0:Int)≤(i:Int))=true:=by rw[yad];omega
   have d2:decide ((i:Int)≤((i+1:Nat):Int))=true:=by rw[yad];omega
   have d3:decide (((i+1:Nat):Int)≤(l.length:Int))=true:=by rw[yad];omega
   have d4:decide (l.length≤1073741824)=true:=by rw[yad];omega
   simp only[d1,d2,d3,d4,ybo,yac,yaB]
  rw[h4,h1];unfold qf8;simp only[a4i,yaa,hc,wS i,hd,yaB]
def g52 {l:List Loan} {item:Int} (hl:l.length<100000000):qgm l item=some (a8u l item):=by
 have hl2:l.length<1000000000:=by omega
 unfold qgm a8u;rw[d50 hl2];rcases p7 (λx:Loan=>x.Item==item) l with ⟨h1,h2⟩|⟨i,x,h1,h2,h3,h4⟩
 ·rw[h1,h2];rfl
 ·have hlt:=(zL h2)
  have d1:decide ((0:Int)≤(i:Int))=true:=by rw[yad];omega
  have d2:decide ((i:Int)≤(l.length:Int))=true:=by rw[yad];omega
  have d3:decide (((i+1:Nat):Int)≤(l.length:Int))=true:=by rw[yad];omega
  have d4:decide ((0:Int)≤((i+1:Nat):Int))=true:=by rw[yad];omega
  have d5:decide ((0:Int)≤0)=true:=rfl;have d6:decide ((l.length:Int)≤(l.length:Int))=true:=by simp
  have t0:((l.take i).drop (0:Int).toNat)=l.take i:=by simp
  have t1:(l.take (l.length:Int).toNat)=l:=by simp
  have l1:decide (([]:List Loan).length+(l.take i).length≤LIM)=true:=a2d (by rw[yaH];simp;omega);have l2:decide (([]++l.take i).length+(l.drop (i+1)).length≤LIM)=true:=a2d (by rw[yaU,yaH,yaZ];omega);rw[h1,h4];simp only[a4i,yaa,d1,d2,d3,d4,d5,d6,ybo,yac,wS i,yaB,t0,t1,l1,l2,d9,h2,yaU,List.take_length];have l3:decide ((l.take i).length+(l.drop (i+1)).length≤LIM)=true:=a2d (by rw[yaH,yaZ];omega);rw[l3]
  try rfl
def f2w {l:List Loan} {item:Int} (hl:l.length<1000000000):(a8u l item).1.length<1000000000:=by
 unfold a8u;cases l.find? (λn=>n.Item==item) with
 |none=>simp
 |some n=>
  simp only[yaT,yaH,yaZ];omega
def c4z {c:Circ} (h:MidP c) {l:List Loan} (hl:l.length<1000000000):MidP (j6 c l):=by
 obtain ⟨⟨a1,a2,a3,a4,a5,a6,a7,a8,a9,a10,a11,a12,a13⟩,h2,h3,h4,h5,h6,h7,h8,h9,h10,h11⟩:=h;exact ⟨⟨a1,a2,hl,a4,a5,a6,a7,a8,a9,a10,a11,a12,a13⟩,h2,h3,h4,h5,h6,h7,h8,h9,h10,h11⟩
end
section
open Go (IntKind)
def c2o (p:Int→Bool) (f:Int):Nat→Int
 |0=>0
 |k+1=>c2o p f k+(bif p (f+k) then 1 else 0)
def c8o {p:Int→Bool} {f:Int}:∀k:Nat,0≤c2o p f k∧c2o p f k≤k:=by
 intro k
 induction k with
 |zero=>exact ⟨by simp[c2o],by simp[c2o]⟩
 |succ k ih=>
  simp only[c2o];cases p (f+k)<;>simp only[yac,yaa]<;>omega
def b3j {p:Int→Bool} {f:Int} {k:Nat}:c2o p f (k+1)=c2o p f k+(bif p (f+k) then 1 else 0):=rfl
def e18 {p:Int→Bool}:∀(k:Nat) (f:Int),c2o p f (k+1)=(bif p f then 1 else 0)+c2o p (f+1) k:=by
 intro k
 induction k with
 |zero=>intro f;simp[c2o]
 |succ k ih=>
  intro f;rw[b3j,ih f,b3j];rw[show f+((k+1:Nat):Int)=f+1+(k:Int) by omega];omega
def h5r {c:Calendar} (hc:CalOk c) {t:Int}:∀(k:Nat) (d n:Int),0≤d→d+k=(if 109572<t then 109572 else t)+1→0≤n→n+k<1000000000→o9 b5k (k+1) (t,n,d,c,())=some (n+c2o (a69 c) d k,()):=by
 intro k
 induction k with
 |zero=>
  intro d n h0 h1 h2 h3;have:decide (d≤(if 109572<t then 109572 else t))=false:=by rw[yaf];omega
  simp only[o9,b5k,this,yaa,c2o,Int.add_zero]
 |succ k ih=>
  intro d n h0 h1 h2 h3;have hd:decide (d≤(if 109572<t then 109572 else t))=true:=by rw[yad];omega
  have hb:d<200000:=by split at h1<;>omega
  rw[o9];simp only[b5k,hd,yac,d0r hc];rw[e18,a0l (n:=d+1) (by omega) (by omega),a0l (n:=n+1) (by omega) (by omega)];cases a69 c d with
  |true=>
   simp only[yac];rw[ih (d+1) (n+1) (by omega) (by omega) (by omega) (by omega)];rw[Int.add_assoc]
  |false=>
   simp only[yaa];rw[ih (d+1) n (by omega) (by omega) (by omega) (by omega),Int.zero_add]
def i4r {c:Calendar} (hc:CalOk c) (f t:Int):qb4 c f t=some (c2o (a69 c) (if f<0 then 0 else f) ((if 109572<t then 109572 else t)+1-(if f<0 then 0 else f)).toNat):=by
 unfold qb4;generalize hF:(if f<0 then 0 else f)=F;have hF0:0≤F:=by rw[←hF];split<;>omega
 have hT:(if 109572<t then 109572 else t)≤109572:=by split<;>omega
 by_cases hk:F≤(if 109572<t then 109572 else t)+1
 ·have:=h5r hc (t:=t) ((if 109572<t then 109572 else t)+1-F).toNat F 0 hF0 (by omega) (by omega) (by omega);rw[o8 _ (by rw[o4];omega) this,Int.zero_add]
 ·have h0:((if 109572<t then 109572 else t)+1-F).toNat=0:=by omega
  have hd:decide (F≤(if 109572<t then 109572 else t))=false:=by rw[yaf];omega
  have:o9 b5k 1 (t,0,F,c,())=some (0,()):=by simp only[o9,b5k,hd,yaa]
  rw[o8 _ (by rw[o4];omega) this,h0]
  try rfl
def upS (d w:Int):Int:=if d<w then 0 else (d-w) / 7+1
def b92 {d:Int} (h:rng 0 109572 d=true):qdr d=some (d.tmod 7):=by
 have e:qgi d=some (rng 0 109572 d):=by
  unfold qgi;simp -zeta only[s9]
  try rfl
 unfold qdr;rw[e,h]
 try rfl
def f1q {d w:Int} (h0 : -1≤d) (h1:d≤109572) (h2:0≤w) (h3:w<7):qe2 d w=some (upS d w):=by
 unfold qe2 upS;rw[b92 rfl];have e0:(0:Int).tmod 7=0:=rfl;simp only[e0];rw[a0l (n:=w-0) (by omega) (by omega),a0l (n:=w-0+7) (by omega) (by omega)];have e1:(w-0+7).tmod 7=w:=by rw[Int.tmod_eq_emod_of_nonneg (by omega)];omega
 rw[e1];by_cases hd:d<w
 ·simp only[hd,decide_true,yac,ybD]
 ·simp only[hd,decide_false,yaa,ybd];rw[a0l (n:=d-w) (by omega) (by omega),Int.tdiv_eq_ediv_of_nonneg (by omega),a0l (n:=(d-w) / 7) (by omega) (by omega),a0l (by omega) (by omega)]
def f98 {d w:Int} (h0:0≤d) (h2:0≤w) (h3:w<7):upS d w=upS (d-1) w+(if d % 7=w then 1 else 0):=by
 unfold upS;split<;>split<;>split<;>omega
def a8i {d w:Int} (h0 : -1≤d) (h1:d≤109572) (h2:0≤w) (h3:w<7):0≤upS d w∧upS d w≤20000:=by
 unfold upS;split<;>omega
def wk (c:Calendar):V7 Bool:=⟨a0y c.Week 0,a0y c.Week 1,a0y c.Week 2,a0y c.Week 3,a0y c.Week 4,a0y c.Week 5,a0y c.Week 6⟩
def a0g (c:Calendar) (f t:Int) (w:Nat):Int:=bif a0y c.Week w then upS t w-upS (f-1) w else 0
def f2l {b:Bool} {n a:Int} (hn : -1000000≤n) (hn2:n≤1000000) (ha : -100000≤a) (ha2:a≤100000) {α:Type} (k:Int→α):(bif b then k (wr .i64 (n+wr .i64 a)) else k n)=k (n+(bif b then a else 0)):=by
 cases b with
 |true=>simp only[yac];rw[a0l (n:=a) (by omega) (by omega),a0l (by omega) (by omega)]
 |false=>simp only[yaa,Int.add_zero]
def y9 {c:Calendar} {f t:Int} {w:Nat} (hf:0≤f) (hf2:f≤109573) (ht : -1≤t) (ht2:t≤109572) (hw:w<7) : -20000≤a0g c f t w∧a0g c f t w≤20000:=by
 unfold a0g;have a:=a8i ht ht2 (show 0≤(w:Int) by omega) (by omega);have b:=a8i (d:=f-1) (by omega) (by omega) (show 0≤(w:Int) by omega) (by omega);cases a0y c.Week w<;>simp only[yac,yaa]<;>omega
def c3u {c:Calendar} {f t:Int} (hf:0≤f) (hf2:f≤109573) (ht : -1≤t) (ht2:t≤109572):c6 c94 (f,t,0,wk c,0,c,wk c,()) =
 some (f,t,a0g c f t 0+a0g c f t 1+a0g c f t 2+a0g c f t 3+a0g c f t 4+a0g c f t 5+a0g c f t 6,c,wk c,()):=by
 have st:∀(w:Nat) (n:Int),w<7→-200000≤n→n≤200000→c94 (f,t,n,wk c,(w:Int),c,wk c,())=some (.inl (f,t,n+a0g c f t w,wk c,((w+1:Nat):Int),c,wk c,())):=by
  intro w n hw h1 h2;have u1:=f1q ht ht2 (show 0≤(w:Int) by omega) (by omega);have u2:=f1q (d:=f-1) (by omega) (by omega) (show 0≤(w:Int) by omega) (by omega);have b1:=a8i ht ht2 (show 0≤(w:Int) by omega) (by omega);have b2:=a8i (d:=f-1) (by omega) (by omega) (show 0≤(w:Int) by omega) (by omega);have hd:decide ((w:Int)<7)=true:=by rw[yad];omega
  have hw1:wr .i64 (f-1)=f-1:=a0l (by omega) (by omega);have hw2:=wS w;unfold a0g;simp -zeta only[c94,hd,yac,u1,hw1,u2,hw2];dsimp only;have ap:=λb=>f2l (b:=b) (n:=n) (a:=upS t w-upS (f-1) w) (by omega) (by omega) (by omega) (by omega) (λn7=>(some (.inl (f,t,n7,wk c,((w+1:Nat):Int),c,wk c,())):Option ((Int×Int×Int×(V7 Bool)×Int×Calendar×(V7 Bool)×Unit)⊕((Int×Int×Int×Calendar×(V7 Bool)×Unit)))))
  have hcs:w=0∨w=1∨w=2∨w=3∨w=4∨w=5∨w=6:=by omega
  rcases hcs with h|h|h|h|h|h|h<;>subst h<;>exact ap _
 have p0:=y9 (c:=c) hf hf2 ht ht2 (show 0<7 by omega);have p1:=y9 (c:=c) hf hf2 ht ht2 (show 1<7 by omega);have p2:=y9 (c:=c) hf hf2 ht ht2 (show 2<7 by omega);have p3:=y9 (c:=c) hf hf2 ht ht2 (show 3<7 by omega);have p4:=y9 (c:=c) hf hf2 ht ht2 (show 4<7 by omega);have p5:=y9 (c:=c) hf hf2 ht ht2 (show 5<7 by omega);have p6:=y9 (c:=c) hf hf2 ht ht2 (show 6<7 by omega);refine o8 8 (by rw[o4];omega) ?_;have s0:=st 0 0 (by omega) (by omega) (by omega);have s1:=st 1 (0+a0g c f t 0) (by omega) (by omega) (by omega);have s2:=st 2 (0+a0g c f t 0+a0g c f t 1) (by omega) (by omega) (by omega);have s3:=st 3 (0+a0g c f t 0+a0g c f t 1+a0g c f t 2) (by omega) (by omega) (by omega);have s4:=st 4 (0+a0g c f t 0+a0g c f t 1+a0g c f t 2+a0g c f t 3) (by omega) (by omega) (by omega);have s5:=st 5 (0+a0g c f t 0+a0g c f t 1+a0g c f t 2+a0g c f t 3+a0g c f t 4) (by omega) (by omega) (by omega);have s6:=st 6 (0+a0g c f t 0+a0g c f t 1+a0g c f t 2+a0g c f t 3+a0g c f t 4+a0g c f t 5) (by omega) (by omega) (by omega);rw[o9,show c94 (f,t,0,wk c,0,c,wk c,())=_ from s0];simp only;rw[o9,s1];simp only;rw[o9,s2];simp only;rw[o9,s3];simp only;rw[o9,s4];simp only;rw[o9,s5];simp only;rw[o9,s6];simp only;rw[o9];rw[Int.zero_add]
 try rfl
def b0a (c:Calendar) (f t:Int) (x:Int):Bool:=decide (f≤x)&&decide (x≤t)&&a0y c.Week (x.tmod 7).toNat
def i8v (c:Calendar) {α:Type} (k:Bool→α) (d:α) {r:Int} (h0:0≤r) (h1:r<7):(bif r==0 then k (wk c).x0 else bif r==1 then k (wk c).x1 else bif r==2 then k (wk c).x2 else bif r==3 then k (wk c).x3 else bif r==4 then k (wk c).x4 else bif r==5 then k (wk c).x5 else bif r==6 then k (wk c).x6 else d)=k (a0y c.Week r.toNat):=by
 have hcs:r=0∨r=1∨r=2∨r=3∨r=4∨r=5∨r=6:=by omega
 rcases hcs with h|h|h|h|h|h|h<;>subst h<;>rfl
def c0s {c:Calendar} {f t n:Int} {l:List Int} (hl:l.length<1000000000) (hf:0≤f) (ht:t≤109572) (hn : -1000000≤n) (hn2:n≤1000000) :
 c6 b8g (f,t,n,l,(l.length:Int),0,wk c,())=some (n-(l.filter (b0a c f t)).length,()):=by
 have h:=u0 (step:=b8g) (λ(i:Nat) (s:Int)=>-1000000-(i:Int)≤s∧s≤1000000) (λi s=>(f,t,s,l,(l.length:Int),(i:Int),wk c,())) l
  (λi x s=>.inl (bif b0a c f t x then s-1 else s)) (λs=>(s,())) (by rw[o4];omega)
  (λs _=>by simp only[b8g,dge,yaa])
  (λi x s hx hi=>by
   have hlt:=(zL hx)
   obtain ⟨b1,b2⟩:=hi;have hw:wr .i64 (s-1)=s-1:=a0l (by omega) (by omega);refine ⟨?_,λs' hs'=>?_⟩
   ·simp -zeta only[b8g,dlt hlt,d9,hx,yac,s9,wS i,hw];unfold b0a;cases hq:(decide (f≤x)&&decide (x≤t)) with
    |false=>rfl
    |true=>
     simp only[yae,yad]at hq;have hr:rng 0 109572 x=true:=by rw[a0a];omega
     have hm:=h9y (d:=x) (by omega);dsimp only;rw[b92 hr];simp only[yac,ya8];rw[i8v c (λv17=>(bif v17 then some (.inl (f,t,s-1,l,(l.length:Int),((i+1:Nat):Int),wk c,())) else some (.inl (f,t,s,l,(l.length:Int),((i+1:Nat):Int),wk c,())):Option ((Int×Int×Int×(List Int)×Int×Int×(V7 Bool)×Unit)⊕((Int×Unit))))) none hm.1 hm.2];cases a0y c.Week (x.tmod 7).toNat<;>rfl
   ·cases hs'
    cases b0a c f t x<;>simp only[yac,yaa]<;>omega) n (by omega)
 rw[a0k]at h;have key:∀(m:List Int) (s:Int),m.foldl (λs x=>bif b0a c f t x then s-1 else s) s=s-(m.filter (b0a c f t)).length:=by
  intro m
  induction m with
  |nil=>intro s;simp
  |cons x m ih=>
   intro s;rw[ybp,ih,ybq];cases b0a c f t x with
   |true=>simp only[yac,ybD,yaQ];omega
   |false=>simp
 rw[key]at h;exact h
def c84 (p r:Int→Bool):∀(l:List Int),(∀x∈l,¬(p x=true∧r x=true))→(l.filter (λx=>p x||r x)).length=(l.filter p).length+(l.filter r).length:=by
 intro l
 induction l with
 |nil=>intro _;rfl
 |cons x l ih=>
  intro h;have hx:=h x (yaK ..);have:=ih (λy hy=>h y (yaN _ hy));simp only[ybq];cases hp:p x<;>cases hr:r x<;>simp_all<;>omega
def e34 {d:Int} {q:Int→Bool}:∀{l:List Int},(∀(j i:Nat) (x y:Int),i<j→l[i]?=some x→l[j]?=some y→x<y)→(l.filter (λx=>x==d&&q x)).length=if (l.any (λx=>x==d)&&q d)=true then 1 else 0:=by
 intro l
 induction l with
 |nil=>intro _;rfl
 |cons x l ih=>
  intro h;have h2:∀(j i:Nat) (x y:Int),i<j→l[i]?=some x→l[j]?=some y→x<y:=λj i a b hij ha hb=>h (j+1) (i+1) a b (by omega) (by simpa using ha) (by simpa using hb)
  have ih:=ih h2;rw[ybq,ycb];by_cases e:x=d
  ·subst e;have hn:l.any (λy=>y==x)=false:=by
    rw[ybL];intro y hy he;obtain ⟨j,hj⟩:=yaw hy;have:=h (j+1) 0 x y (by omega) (by simp) (by simpa using hj);have:y=x:=by simpa using he
    omega
   rw[hn]at ih;simp only[yal,ya8,Bool.true_or,ybw]at ih ⊢;cases q x with
   |true=>simp only[ybD,yaQ];rw[ih];rfl
   |false=>simp only[yaz,ybd];exact ih
  ·have e2:(x==d)=false:=by simpa using e
   simp only[e2,ybw,ybg,yaz,ybd];exact ih
def f94 (c:Calendar) (f d:Int) (h0:0≤d):a0g c f d 0+a0g c f d 1+a0g c f d 2+a0g c f d 3+a0g c f d 4+a0g c f d 5+a0g c f d 6 =
 (a0g c f (d-1) 0+a0g c f (d-1) 1+a0g c f (d-1) 2+a0g c f (d-1) 3+a0g c f (d-1) 4+a0g c f (d-1) 5+a0g c f (d-1) 6)+(bif a0y c.Week (d.tmod 7).toNat then 1 else 0):=by
 have st:∀w:Nat,w<7→a0g c f d w=a0g c f (d-1) w+(bif a0y c.Week w then (if d % 7=w then 1 else 0) else 0):=by
  intro w hw;unfold a0g;have:=f98 (d:=d) (w:=w) h0 (by omega) (by omega);cases a0y c.Week w<;>simp only[yac,yaa]<;>omega
 rw[st 0 (by omega),st 1 (by omega),st 2 (by omega),st 3 (by omega),st 4 (by omega),st 5 (by omega),st 6 (by omega)];have e:(d.tmod 7).toNat=(d % 7).toNat:=by rw[Int.tmod_eq_emod_of_nonneg h0]
 rw[e];have hcs:d % 7=0∨d % 7=1∨d % 7=2∨d % 7=3∨d % 7=4∨d % 7=5∨d % 7=6:=by omega
 have z:∀b:Bool,(bif b then (0:Int) else 0)=0:=by intro b;cases b<;>rfl
 rcases hcs with h|h|h|h|h|h|h<;>rw[h]<;>simp[z]<;>omega
def e33 {c:Calendar} (hc:CalOk c) {f:Int} (hf:0≤f):∀k:Nat,f+k≤109573→
 a0g c f (f+k-1) 0+a0g c f (f+k-1) 1+a0g c f (f+k-1) 2+a0g c f (f+k-1) 3+a0g c f (f+k-1) 4+a0g c f (f+k-1) 5+a0g c f (f+k-1) 6-(c.Closed.filter (b0a c f (f+k-1))).length=c2o (a69 c) f k:=by
 intro k
 induction k with
 |zero=>
  intro _;have z:∀w:Nat,a0g c f (f+((0:Nat):Int)-1) w=0:=by
   intro w;unfold a0g;rw[show f+((0:Nat):Int)-1=f-1 by omega];cases a0y c.Week w<;>simp
  have e:c.Closed.filter (b0a c f (f+((0:Nat):Int)-1))=[]:=by
   rw[List.filter_eq_nil_iff];intro x _;unfold b0a;simp only[yae,yad];omega
  rw[z,z,z,z,z,z,z,e]
  try rfl
 |succ k ih=>
  intro hk;have ih:=ih (by omega);rw[b3j,←ih];have ed:f+((k+1:Nat):Int)-1=f+(k:Int):=by omega
  rw[ed];rw[f94 c f (f+k) (by omega)];have e1:(c.Closed.filter (b0a c f (f+k))).length=(c.Closed.filter (b0a c f (f+k-1))).length+(c.Closed.filter (λx=>x==f+k&&a0y c.Week (x.tmod 7).toNat)).length:=by
   rw[←c84]
   ·congr 1;apply ycd;intro x _;unfold b0a;by_cases h1:f≤x
    ·by_cases h2:x=f+k
     ·subst h2;have a:decide (f≤f+(k:Int))=true:=by rw[yad];omega
      have b:decide (f+(k:Int)≤f+(k:Int))=true:=by rw[yad];omega
      simp only[a,b,yal,ya8];cases decide (f+(k:Int)≤f+(k:Int)-1)<;>simp
     ·have a:(x==f+(k:Int))=false:=by simpa using h2
      have b:decide (x≤f+(k:Int))=decide (x≤f+(k:Int)-1):=by rw[decide_eq_decide];omega
      rw[a,b];simp
    ·have a:decide (f≤x)=false:=by rw[yaf];exact h1
     have b:(x==f+(k:Int))=false:=by
      have:¬x=f+(k:Int):=by omega
      simpa using this
     rw[a,b]
     try rfl
   ·intro x _;unfold b0a;simp only[yae,yad,ya6];omega
  rw[e1,e34 (b3z hc.inc)];have hr:rng 0 109572 (f+(k:Int))=true:=by rw[a0a];omega
  unfold a69;rw[hr];cases c.Closed.any (λx=>x==f+(k:Int))<;>cases a0y c.Week ((f+(k:Int)).tmod 7).toNat<;>simp<;>omega
def i79 {c:Calendar} (hc:CalOk c) (f t:Int):q9 c f t=some (c2o (a69 c) (if f<0 then 0 else f) ((if 109572<t then 109572 else t)+1-(if f<0 then 0 else f)).toNat):=by
 unfold q9;generalize hF:(if f<0 then 0 else f)=F;generalize hT:(if 109572<t then 109572 else t)=T;have hF0:0≤F:=by rw[←hF];split<;>omega
 have hT0:T≤109572:=by rw[←hT];split<;>omega
 by_cases hk:T<F
 ·have h0:(T+1-F).toNat=0:=by omega
  simp only[hk,decide_true,yac,h0,c2o]
 ·simp only[hk,decide_false,yaa,g47];rw[show c6 c94 (F,T,0,(⟨a0y c.Week 0,a0y c.Week 1,a0y c.Week 2,a0y c.Week 3,a0y c.Week 4,a0y c.Week 5,a0y c.Week 6⟩:V7 Bool),0,c,(⟨a0y c.Week 0,a0y c.Week 1,a0y c.Week 2,a0y c.Week 3,a0y c.Week 4,a0y c.Week 5,a0y c.Week 6⟩:V7 Bool),())=_ from c3u (c:=c) hF0 (by omega) (by omega) hT0];simp only;have p0:=y9 (c:=c) (f:=F) (t:=T) hF0 (by omega) (by omega) hT0 (show 0<7 by omega);have p1:=y9 (c:=c) (f:=F) (t:=T) hF0 (by omega) (by omega) hT0 (show 1<7 by omega);have p2:=y9 (c:=c) (f:=F) (t:=T) hF0 (by omega) (by omega) hT0 (show 2<7 by omega);have p3:=y9 (c:=c) (f:=F) (t:=T) hF0 (by omega) (by omega) hT0 (show 3<7 by omega);have p4:=y9 (c:=c) (f:=F) (t:=T) hF0 (by omega) (by omega) hT0 (show 4<7 by omega);have p5:=y9 (c:=c) (f:=F) (t:=T) hF0 (by omega) (by omega) hT0 (show 5<7 by omega);have p6:=y9 (c:=c) (f:=F) (t:=T) hF0 (by omega) (by omega) hT0 (show 6<7 by omega);rw[c0s hc.len hF0 hT0 (by omega) (by omega)];simp only;have:=e33 hc hF0 (T+1-F).toNat (by omega);rw[show F+((T+1-F).toNat:Int)-1=T by omega]at this;rw[this]
end
section
open Go (IntKind)
def h35 {c:Calendar} (hc:CalOk c) {r:Rule} (hr:a5w r=true) (due back:Int):∃v,qdx r c due back=some v∧qgo r c due back=some v∧0≤v:=by
 have ec:∀n:Int,qeu n=some (rng 0 109572 n):=λn=>by
  unfold qeu;simp -zeta only[s9]
  try rfl
 unfold qdx qgo;simp -zeta only[i57 hc.len,c64 hc.len,i79 hc,i4r hc,ec,e7p,a0x];dsimp only;cases (!(a0o c==0)||!(rng 0 109572 due))||!(rng 0 109572 back) with
 |true=>exact ⟨0,rfl,rfl,by omega⟩
 |false=>
  simp only[yaa];have hb:=c8o (p:=a69 c) (f:=if wr .i64 (due+1)<0 then 0 else wr .i64 (due+1)) ((if 109572<back then 109572 else back)+1-(if wr .i64 (due+1)<0 then 0 else wr .i64 (due+1))).toNat;have hk:((if 109572<back then 109572 else back)+1-(if wr .i64 (due+1)<0 then 0 else wr .i64 (due+1))).toNat≤109573:=by
   have h1:(if 109572<back then 109572 else back)≤109572:=by split<;>omega
   have h2:0≤(if wr .i64 (due+1)<0 then 0 else wr .i64 (due+1)):=by split<;>omega
   omega
  generalize c2o (a69 c) _ _=n at hb ⊢;generalize ((if 109572<back then 109572 else back)+1-(if wr .i64 (due+1)<0 then 0 else wr .i64 (due+1))).toNat=k at hb hk;cases decide (n≤r.Grace) with
  |true=>exact ⟨0,rfl,rfl,by omega⟩
  |false=>
   simp only[yaa];refine ⟨_,rfl,rfl,?_⟩;unfold a5w at hr;simp only[yae,a0a]at hr;obtain ⟨⟨⟨⟨⟨_,⟨hf,_⟩,hm⟩,_⟩,_⟩,_⟩,_⟩:=hr;have hp:0≤n*r.Fine:=Int.mul_nonneg hb.1 hf.1;have hq:n*r.Fine≤109573*1000:=Int.mul_le_mul (by omega) hf.2 hf.1 (by omega);rw[a0l (by omega) (by omega)];split<;>omega
def b56 (p item kind:Int) (x:Charge):Bool:=(x.Patron==p&&x.Item==item)&&(kind==0||x.Kind==kind)
def g5f {l:List Charge} {p item kind:Int} (hl:l.length<1000000000):∃v,qcj l p item kind=some (l.filter (λx=>!(b56 p item kind x)),v):=by
 have hq:∀x:Charge,qdq x p item kind=some (b56 p item kind x):=λx=>by
  unfold qdq b56;simp -zeta only[s9,a0x]
  try rfl
 have h:=u0 (step:=b8j (λ(g:Unit×Int×Int×Int×Unit) x0=>qdq x0 g.2.1 g.2.2.1 g.2.2.2.1)) (λ(i:Nat) (s:Int×Int×List Charge)=>s.2.2.length≤i)
  (λi s=>(((),(p,item,kind,())),s.1,s.2.1,l,(l.length:Int),(i:Int),s.2.2,())) l
  (λi x s=>.inl (bif b56 p item kind x then (wr .i64 (s.1+x.Paid),wr .i64 (s.2.1+1),s.2.2) else (s.1,s.2.1,s.2.2++[x]))) (λs=>(s.1,s.2.1,s.2.2,())) (by rw[o4];omega)
  (λs _=>by simp only[b8j,dge,yaa])
  (λi x s hx hi=>by
   have hlt:=(zL hx)
   have l1:∀z:Charge,decide (s.2.2.length+([z]:List Charge).length≤LIM)=true:=λz=>a2d (by simp;omega)
   refine ⟨?_,λs' hs'=>?_⟩
   ·simp only[b8j,dlt hlt,d9,hx,yac,hq,l1,wS i];cases b56 p item kind x<;>rfl
   ·cases hs'
    cases b56 p item kind x<;>simp<;>omega) (0,0,[]) (by simp)
 rw[a0k]at h;have key:∀(m:List Charge) (s:Int×Int×List Charge),∃a b,m.foldl (λs x=>bif b56 p item kind x then (wr .i64 (s.1+x.Paid),wr .i64 (s.2.1+1),s.2.2) else (s.1,s.2.1,s.2.2++[x])) s=(a,b,s.2.2++m.filter (λx=>!(b56 p item kind x))):=by
  intro m
  induction m with
  |nil=>intro s;exact ⟨s.1,s.2.1,by simp⟩
  |cons x m ih=>
   intro s;rw[ybp,ybq];cases b56 p item kind x with
   |true=>
    obtain ⟨a,b,e⟩:=ih (wr .i64 (s.1+x.Paid),wr .i64 (s.2.1+1),s.2.2);exact ⟨a,b,by simp only[yac];rw[e];simp⟩
   |false=>
    obtain ⟨a,b,e⟩:=ih (s.1,s.2.1,s.2.2++[x]);exact ⟨a,b,by simp only[yaa];rw[e];simp⟩
 obtain ⟨a,b,e⟩:=key l (0,0,[]);rw[e]at h;refine ⟨a,?_⟩;unfold qcj qa2;rw[show c6 (b8j (λ(g:Unit×Int×Int×Int×Unit) x0=>qdq x0 g.2.1 g.2.2.1 g.2.2.2.1)) (((),(p,item,kind,())),0,0,l,(l.length:Int),0,([]:List Charge),())=_ from h]
 try rfl
def g5d {l:List Charge} {p item kind:Int} (hl:l.length<1000000):∃v,qbz l p item kind=some (l.filter (λx=>!(b56 p item kind x)),v):=by
 have h:=u0 (step:=b9b) (λ(i:Nat) (s:Int×List Charge)=>s.2.length≤i)
  (λi s=>(l,p,item,kind,s.1,(i:Int),s.2,())) l
  (λi x s=>.inl (bif b56 p item kind x then (wr .i64 (s.1+x.Paid),s.2) else (s.1,s.2++[x]))) (λs=>(s.1,s.2,())) (by rw[o4];omega)
  (λs _=>by simp only[b9b,dge,yaa])
  (λi x s hx hi=>by
   have hlt:=(zL hx)
   have l1:∀z:Charge,decide (s.2.length+([z]:List Charge).length≤LIM)=true:=λz=>a2d (by simp;omega)
   refine ⟨?_,λs' hs'=>?_⟩
   ·simp -zeta only[b9b,dlt hlt,d9,hx,yac,s9,a0x,l1,wS i];dsimp only;unfold b56;cases ((x.Patron==p&&x.Item==item)&&(kind==0||x.Kind==kind))<;>rfl
   ·cases hs'
    cases b56 p item kind x<;>simp<;>omega) (0,[]) (by simp)
 rw[a0k]at h;have key:∀(m:List Charge) (s:Int×List Charge),∃a,m.foldl (λs x=>bif b56 p item kind x then (wr .i64 (s.1+x.Paid),s.2) else (s.1,s.2++[x])) s=(a,s.2++m.filter (λx=>!(b56 p item kind x))):=by
  intro m
  induction m with
  |nil=>intro s;exact ⟨s.1,by simp⟩
  |cons x m ih=>
   intro s;rw[ybp,ybq];cases b56 p item kind x with
   |true=>
    obtain ⟨a,e⟩:=ih (wr .i64 (s.1+x.Paid),s.2);exact ⟨a,by simp only[yac];rw[e];simp⟩
   |false=>
    obtain ⟨a,e⟩:=ih (s.1,s.2++[x]);exact ⟨a,by simp only[yaa];rw[e];simp⟩
 obtain ⟨a,e⟩:=key l (0,[]);rw[e]at h;refine ⟨a,?_⟩;unfold qbz;rw[show c6 b9b (l,p,item,kind,0,0,([]:List Charge),())=_ from h]
 try rfl
def f5e {c:Circ} (h:Short c) {l:List Charge} (hl:l.length<1000000000) (n:Int):Short (a5k c l n):=by
 obtain ⟨a1,a2,a3,a4,a5,a6,a7,a8,a9,a10,a11,a12,a13⟩:=h;exact ⟨a1,a2,a3,a4,hl,a6,a7,a8,a9,a10,a11,a12,a13⟩
def a9o (c:Circ) (i:Nat) (x:Item) (branch:Int) (u:Custody) (l:List Loan):Circ:=j6 (a0e c i x ⟨c.Today,x.ID,4,branch,0⟩ u) l
def c7w {c:Circ} (h:MidP c) (hln:c.Loans.length<100000000) {i:Nat} {x:Item} (hx:c.Items[i]?=some x) {n:Loan} (hn:c.Loans.find? (λn=>n.Item==x.ID)=some n) {branch:Int} (hb:rng 1 4 branch=true) :
 c77 (qd1 (i:Int) branch ⟨c,0⟩) (qgd c x.ID branch) (λd=>MidP d∧∃u ch nc,s8 x.Custody ⟨c.Today,x.ID,4,branch,0⟩=(u,0)∧d=a5k (a9o c i x branch u (a8u c.Loans x.ID).1) ch nc):=by
 unfold qd1 qgd;simp only[d9,hx];rcases a95 h hx 4 branch 0 with ⟨u,ha,m1,m2,hm2⟩|⟨e,he,m1,m2⟩
 ·rw[m1,m2];have hat:=a8r hm2 (a8d hx ⟨c.Today,x.ID,4,branch,0⟩ u);have hx2:=a8d hx ⟨c.Today,x.ID,4,branch,0⟩ u;have hbk:a8u c.Loans x.ID=((a8u c.Loans x.ID).1,n,0):=by unfold a8u;rw[hn]
  have bl:=f2w (item:=x.ID) h.short.loans;have hL:(a0e c i x ⟨c.Today,x.ID,4,branch,0⟩ u).Loans=c.Loans:=rfl;simp only[yal,yak,yaa,hL,i5s hln,g52 hln];rw[hbk];simp only[yal,yak,yaa,a9n];have hm3:=c4z hm2 bl;show c77 _ _ (λd=>MidP d∧∃u ch nc,s8 x.Custody ⟨c.Today,x.ID,4,branch,0⟩=(u,0)∧d=a5k (a9o c i x branch u (a8u c.Loans x.ID).1) ch nc)
  generalize hl:(a8u c.Loans x.ID).1=l at hm3 bl;have hat3:qn (j6 (a0e c i x ⟨c.Today,x.ID,4,branch,0⟩ u) l) x.ID=some (i:Int):=a8r (x:=a09 u x) hm3 hx2;have hc3:a9o c i x branch u l=j6 (a0e c i x ⟨c.Today,x.ID,4,branch,0⟩ u) l:=rfl;rw[show (⟨(a0e c i x ⟨c.Today,x.ID,4,branch,0⟩ u).Today,(a0e c i x ⟨c.Today,x.ID,4,branch,0⟩ u).Items,(a0e c i x ⟨c.Today,x.ID,4,branch,0⟩ u).Patrons,l,(a0e c i x ⟨c.Today,x.ID,4,branch,0⟩ u).Holds,(a0e c i x ⟨c.Today,x.ID,4,branch,0⟩ u).Charges,(a0e c i x ⟨c.Today,x.ID,4,branch,0⟩ u).Rules,(a0e c i x ⟨c.Today,x.ID,4,branch,0⟩ u).Cals,(a0e c i x ⟨c.Today,x.ID,4,branch,0⟩ u).Moves,(a0e c i x ⟨c.Today,x.ID,4,branch,0⟩ u).NextHold,(a0e c i x ⟨c.Today,x.ID,4,branch,0⟩ u).NextCharge,(a0e c i x ⟨c.Today,x.ID,4,branch,0⟩ u).Local⟩:Circ)=j6 (a0e c i x ⟨c.Today,x.ID,4,branch,0⟩ u) l from rfl];rw[hat3];simp only[d9,hx2];have hru:qdd (j6 (a0e c i x ⟨c.Today,x.ID,4,branch,0⟩ u) l) n.Patron (a09 u x)=qdd (j6 (a0e c i x ⟨c.Today,x.ID,4,branch,0⟩ u) l) n.Patron x:=rfl;rw[hru,c18 hm3.short];obtain ⟨r,b,hr,hrm⟩:=b59 (c:=j6 (a0e c i x ⟨c.Today,x.ID,4,branch,0⟩ u) l) (p:=n.Patron) (x:=x) hm3.short;have hT:(a0e c i x ⟨c.Today,x.ID,4,branch,0⟩ u).Today=(j6 (a0e c i x ⟨c.Today,x.ID,4,branch,0⟩ u) l).Today:=rfl;rw[hr,hT];rw[←hc3]at hm3 hrm ⊢;have fin:∀d:Circ,MidP d→(∃ch nc,d=a5k (a9o c i x branch u l) ch nc)→c77 (match qcj d.Charges n.Patron x.ID 2 with
   |some (r19,r20)=>some ((),(⟨⟨d.Today,d.Items,d.Patrons,d.Loans,d.Holds,r19,d.Rules,d.Cals,d.Moves,d.NextHold,d.NextCharge,d.Local⟩,0⟩:Circ_desk))
   |none=>none) (match qbz d.Charges n.Patron x.ID 2 with
   |some (r21,r22)=>some ({d with Charges:=r21},0)
   |none=>none) (λd=>MidP d∧∃u ch nc,s8 x.Custody ⟨c.Today,x.ID,4,branch,0⟩=(u,0)∧d=a5k (a9o c i x branch u l) ch nc):=by
   intro d hd hw;obtain ⟨v1,f1⟩:=g5f (p:=n.Patron) (item:=x.ID) (kind:=2) hd.short.charges;obtain ⟨v2,f2⟩:=g5d (p:=n.Patron) (item:=x.ID) (kind:=2) hd.chN;have hfl:=yaV (λy=>!(b56 n.Patron x.ID 2 y)) d.Charges;have:=hd.chN;rw[f1,f2];obtain ⟨ch,nc,rfl⟩:=hw;exact .inl ⟨_,rfl,rfl,d2h hd (by omega) nc,u,_,nc,ha,rfl⟩
  have f0:=fin (a9o c i x branch u l) hm3 ⟨(a9o c i x branch u l).Charges,(a9o c i x branch u l).NextCharge,rfl⟩;cases b with
  |false=>exact f0
  |true=>
   obtain ⟨v,lv1,lv2,lv0⟩:=h35 (hm3.cal branch) (hm3.rules r (hrm rfl)) n.Due (a9o c i x branch u l).Today;simp only[yac,c67 hb,e7y hb,lv1,lv2];by_cases hv:v=0
   ·subst hv;exact f0
   ·have hv2:(v==0)=false:=by simpa using hv
    have hv3:decide (0<v)=true:=by rw[yad];omega
    simp only[hv2,hv3,yas,yac];rcases b7o hm3 n.Patron x.ID 1 v with ⟨d,q1,q2,hd,hd2,-⟩|⟨d,e,he,q1,q2,hsd⟩
    ·rw[q1,q2];have hmd:MidP d:=by rw[hd];exact d2h hm3 (b3h hd2) _
     exact fin d hmd ⟨_,_,hd⟩
    ·obtain ⟨v1,f1⟩:=g5f (p:=n.Patron) (item:=x.ID) (kind:=2) hsd.charges;have hfl:=yaV (λy=>!(b56 n.Patron x.ID 2 y)) d.Charges;have:=hsd.charges;have he2:(e==0)=false:=by simpa using he
     rw[q1,q2];simp only[he2,yas,yac,f1];exact .inr ⟨a5k d (d.Charges.filter (λy=>!(b56 n.Patron x.ID 2 y))) d.NextCharge,e,he,rfl,rfl,f5e hsd (by omega) _⟩
 ·have he2:(e==0)=false:=by simpa using he
  rw[m1,m2];simp only[he2,yas,yac];exact .inr ⟨c,e,he,rfl,rfl,h.short⟩
end
section
open Go (IntKind)
def c0h (i item:Int) (d:Circ_desk):Option (Circ×Int×Int):=
 match qaq d.c item with
 |some (o,ok)=>
  match (bif ok&&o.State==2 then qd4 i o d else qf9 i d) with
  |some (_,v)=>(match qaq v.c item with
   |some (r,_)=>(match qcm r.ID v with
    |some ((a,b,e),_)=>some (a,b,e)
    |none=>none)
   |none=>none)
  |none=>none
 |none=>none
def e8b (item e:Int) (c:Circ):Option (Circ×Int×Int):=
 bif !(e==0) then some (z8,0,e)
 else match qat c item with
  |some (o,ok)=>(match (bif ok then qeb c item o else qgl c item) with
   |some (d,f)=>(bif !(f==0) then some (z8,0,f) else match qat d item with
    |some (r,_)=>some (d,r.ID,0)
    |none=>none)
   |none=>none)
  |none=>none
def e0e (i item:Int) (a:Option (Unit×Circ_desk)):Option (Circ×Int×Int):=match a with|some (_,v)=>c0h i item v|none=>none
def d63 (item:Int) (a:Option (Circ×Int)):Option (Circ×Int×Int):=match a with|some (c,e)=>e8b item e c|none=>none
def b3i {c:Circ} (hs:Short c) (i item e:Int) (he:e≠0):c0h i item ⟨c,e⟩=some (z8,0,e):=by
 unfold c0h;simp only[a98 hs.holds,b61 c i e _ he,c0y c i e he];cases ((s7 c item).2&&(s7 c item).1.State==2)<;>
  simp only[yac,yaa,a98 hs.holds,a78 c _ e he]
def a1r (u:Custody):a3h u=(u.State==4||u.State==9||u.State==10):=by
 unfold a3h;cases u.State==4<;>cases u.State==9<;>rfl
def i5o {c:Circ} (hs:Short c) {i:Nat} {x:Item} (hf:a68 (λy=>y.ID==x.ID) c.Items=(i:Int)) (hx:c.Items[i]?=some x) (branch:Int) :
 qee c x.ID branch=(bif a3h x.Custody then e0e i x.ID (qd1 i branch ⟨c,0⟩) else bif x.Custody.State==8 then e0e i x.ID (qbw i 4 branch 0 ⟨c,0⟩)
  else bif x.Custody.State==11 then e0e i x.ID (qbw i 14 branch 0 ⟨c,0⟩) else bif x.Custody.State==6 then e0e i x.ID (qbw i 7 branch 0 ⟨c,0⟩) else c0h i x.ID ⟨c,12⟩):=by
 have leaf:∀v23:Circ_desk,(match qaq v23.c x.ID with
  |some (r25,r26)=>
   let k41:Bool→Option (Circ×Int×Int):=λv27=>
    let k:Circ_desk→Option (Circ×Int×Int):=λv32=>
     match qaq v32.c x.ID with
     |some (r34,r35)=>(match qcm r34.ID v32 with
      |some ((r37,r38,r39),v40)=>some (r37,r38,r39)
      |none=>none)
     |none=>none
    bif v27 then (match qd4 (i:Int) r25 v23 with|some (_,v29)=>k v29|none=>none)
    else (match qf9 (i:Int) v23 with|some (_,v31)=>k v31|none=>none)
   bif r26 then k41 (r25.State==2) else k41 false
  |none=>none)=c0h i x.ID v23:=by
  intro v;unfold c0h;cases qaq v.c x.ID with
  |none=>rfl
  |some q=>
   obtain ⟨o,ok⟩:=q;dsimp only;cases ok with
   |false=>rfl
   |true=>cases o.State==2<;>rfl
 have leaf2:∀a:Option (Unit×Circ_desk),e0e i x.ID a=e0e i x.ID a:=λ_=>rfl
 unfold qee;simp -zeta only[qdl,a7l hs,hf,a4i,yaa,d9,hx];rw[a1r];have tb:∀(a:Option (Unit×Circ_desk)) (K:Circ_desk→Option (Circ×Int×Int)),(∀v,K v=c0h i x.ID v)→(match a with|some (_,v)=>K v|none=>none)=e0e i x.ID a:=by
  intro a K hK;unfold e0e;cases a with
  |none=>rfl
  |some p=>exact hK _
 cases x.Custody.State==4 with
 |true=>exact tb _ _ leaf
 |false=>
  cases x.Custody.State==9 with
  |true=>exact tb _ _ leaf
  |false=>
   cases x.Custody.State==10 with
   |true=>exact tb _ _ leaf
   |false=>
    cases x.Custody.State==8 with
    |true=>exact tb _ _ leaf
    |false=>
     cases x.Custody.State==11 with
     |true=>exact tb _ _ leaf
     |false=>
      cases x.Custody.State==6 with
      |true=>exact tb _ _ leaf
      |false=>exact leaf _
def g5x {c:Circ} (hs:Short c) {i:Nat} {x:Item} (hf:qn c x.ID=some (i:Int)) (hx:c.Items[i]?=some x) (branch:Int) :
 qf4 c x.ID branch=(bif a3h x.Custody then (bif decide (branch<1)||decide (4<branch) then some (z8,0,1) else d63 x.ID (qgd c x.ID branch)) else bif x.Custody.State==8 then d63 x.ID (q8 c x.ID 4 branch 0)
  else bif x.Custody.State==11 then d63 x.ID (q8 c x.ID 14 branch 0) else bif x.Custody.State==6 then d63 x.ID (q8 c x.ID 7 branch 0) else e8b x.ID 12 c):=by
 have leaf:∀(e21:Int) (c22:Circ),(bif !(e21==0) then (some (z8,0,e21):Option (Circ×Int×Int))
  else match qat c22 x.ID with
   |some (r24,r25)=>
    let k37:Int→Circ→Option (Circ×Int×Int):=λe32 c33=>
     bif !(e32==0) then some (z8,0,e32)
     else match qat c33 x.ID with
      |some (r35,r36)=>some (c33,r35.ID,0)
      |none=>none
    bif r25 then (match qeb c22 x.ID r24 with|some (r27,r28)=>k37 r28 r27|none=>none)
    else (match qgl c22 x.ID with|some (r30,r31)=>k37 r31 r30|none=>none)
   |none=>none)=e8b x.ID e21 c22:=by
  intro e d;unfold e8b;cases !(e==0) with
  |true=>rfl
  |false=>
   simp only[yaa];cases qat d x.ID with
   |none=>rfl
   |some q=>
    obtain ⟨o,ok⟩:=q;cases ok<;>rfl
 have tb:∀(a:Option (Circ×Int)) (K:Int→Circ→Option (Circ×Int×Int)),(∀e v,K e v=e8b x.ID e v)→(match a with|some (v,e)=>K e v|none=>none)=d63 x.ID a:=by
  intro a K hK;unfold d63;cases a with
  |none=>rfl
  |some p=>exact hK _ _
 unfold qf4;simp -zeta only[hf,a4i,yaa,d9,hx,e7l];cases a3h x.Custody with
 |true=>
  cases decide (branch<1) with
  |true=>rfl
  |false=>
   cases decide (4<branch) with
   |true=>rfl
   |false=>exact tb _ _ leaf
 |false=>
  cases x.Custody.State==8 with
  |true=>exact tb _ _ leaf
  |false=>
   cases x.Custody.State==11 with
   |true=>exact tb _ _ leaf
   |false=>
    cases x.Custody.State==6 with
    |true=>exact tb _ _ leaf
    |false=>exact leaf 12 c
def e1h {i:Nat} {item:Int} {a:Option (Unit×Circ_desk)} {b:Option (Circ×Int)} {Q:Circ→Prop} (hs:c77 a b Q)
 (hQ:∀d,Q d→MidP d∧∃y,d.Items[i]?=some y∧y.ID=item∧((s7 d item).2=true→(s7 d item).1.State=2)):b1d (e0e i item a) (d63 item b):=by
 rcases hs with ⟨d,rfl,rfl,hq⟩|⟨d,e,he,rfl,rfl,hsd⟩
 ·obtain ⟨hd,y,hy,rfl,hC⟩:=hQ d hq;unfold e0e d63 c0h e8b;simp only[yal,yak,yaa,a98 hd.short.holds,b5d hd.short.holds];have fin:∀(a:Option (Unit×Circ_desk)) (b:Option (Circ×Int)),c77 a b (λd=>MidP d∧Frame d d)→True:=λ_ _ _=>trivial
  cases hok:(s7 d y.ID).2 with
  |true=>
   have h2:((s7 d y.ID).1.State==2)=true:=by simpa using hC hok
   simp only[h2,ybo,yac];rcases e8a hd hy (s7 d y.ID).1 with ⟨d2,a1,a2,hd2,-⟩|⟨d2,e,he,a1,a2,hsd⟩
   ·rw[a1,a2];simp only[a98 hd2.short.holds,b5d hd2.short.holds,yal,yak,yaa,c88];exact ⟨_,_,_,rfl,rfl,hd2.short⟩
   ·have he2:(e==0)=false:=by simpa using he
    rw[a1,a2];simp only[a98 hsd.holds,a78 d2 _ e he,he2,yas,yac];exact w8
  |false=>
   simp only[ybw,yaa];rcases f2u hd hy with ⟨d2,a1,a2,hd2,-⟩|⟨d2,e,he,a1,a2,hsd⟩
   ·rw[a1,a2];simp only[a98 hd2.short.holds,b5d hd2.short.holds,yal,yak,yaa,c88];exact ⟨_,_,_,rfl,rfl,hd2.short⟩
   ·have he2:(e==0)=false:=by simpa using he
    rw[a1,a2];simp only[a98 hsd.holds,a78 d2 _ e he,he2,yas,yac];exact w8
 ·have he2:(e==0)=false:=by simpa using he
  unfold e0e d63;simp only[b3i hsd _ _ e he];unfold e8b;simp only[he2,yas,yac];exact w8
def d60 {u:Custody} {day item kind branch who:Int} (h:(decide (branch<1)||decide (4<branch))=true):s8 u ⟨day,item,kind,branch,who⟩=(⟨0,0,0,0⟩,1):=by
 have hw:a9a ⟨day,item,kind,branch,who⟩=false:=by
  unfold a9a;simp only[ybr,yad]at h;rcases h with h|h
  ·have:decide (1≤branch)=false:=by rw[yaf];omega
   simp[this]
  ·have:decide (branch≤4)=false:=by rw[yaf];omega
   simp[this]
 unfold s8;rw[hw];simp
def d7g {c:Circ} (h:FitP c) {x:Item} (hx:x∈c.Items) (hs:¬x.Custody.State=5) {o:Hold} (ho:o∈c.Holds) (hg:o.Got=x.ID):o.State=2∧x.Custody.State=6:=by
 have hsh:=a3c h.holds ho;have hid:=h3w h hx;have h1:¬o.State=1:=by
  intro e;unfold t7 at hsh;have h2:=a0v hsh (by decide);rw[h2]at hsh;simp only[yaa]at hsh;have h3:=a0v hsh (by decide);rw[h3]at hsh;simp only[yaa]at hsh;have h4:=a0v hsh (by decide);simp only[yai]at h4;have e1:(o.State==1)=true:=by simpa using e
  have e2:decide (0<o.Got)=true:=by rw[yad,hg];omega
  rw[e1,e2]at h4;exact absurd h4.1 (by decide)
 have hG:=h.holdG o ho;unfold a3n at hG;have hfind:c.Items.find? (λy=>y.ID==o.Got)=some x:=by
  rw[hg];exact a27 (key:=λy:Item=>y.ID) (a3e h.items) hx
 rw[hfind]at hG;have e1:(o.State==1)=false:=by simpa using h1
 rw[e1]at hG;simp only[yae,ybg,yan,ya1,yai,yay,ya6,ya0,ne_eq]at hG;obtain ⟨_,⟨_,q3⟩,q2⟩:=hG;rcases b72 hsh with e|e|e
 ·exact absurd e h1
 ·refine ⟨e,?_⟩;rcases q2 with q2|q2
  ·exact absurd e q2
  ·exact q2.1.1
 ·rcases q3 with q3|q3
  ·exact absurd e q3
  ·exact absurd q3.1.1 hs
def a5p {c:Circ} {item:Int} (h:(s7 c item).2=true):(s7 c item).1∈c.Holds∧(s7 c item).1.Got=item:=by
 unfold s7 at h ⊢;cases hq:c.Holds.find? (λh=>h.Got==item) with
 |none=>rw[hq]at h;cases h
 |some o=>exact ⟨yaW hq,by have:=ybs hq;simpa using this⟩
def c0d {c d:Circ} {item:Int} (h:d.Holds=c.Holds):s7 d item=s7 c item:=by unfold s7;rw[h]
def b7m {c:Circ} (m:MidP c) (h:FitP c) (hln:c.Loans.length<100000000) {item branch:Int}:b1d (qee c item branch) (qf4 c item branch):=by
 rcases a79 m item with ⟨h1,h2,-⟩|⟨i,x,h1,h2,hx,hid,-⟩
 ·unfold qee qf4;simp -zeta only[qdl,a7l m.short];rw[h1,h2];exact w8
 ·subst hid;rw[i5o m.short h1 hx,g5x m.short h2 hx];have hmem:=yag hx;have hC:∀d:Circ,d.Holds=c.Holds→¬x.Custody.State=5→((s7 d x.ID).2=true→(s7 d x.ID).1.State=2):=by
   intro d hd h5 hk;rw[c0d hd]at hk ⊢;have:=a5p hk;exact (d7g h hmem h5 this.1 this.2).1
  have mv:∀kind:Int,¬x.Custody.State=5→b1d (e0e i x.ID (qbw i kind branch 0 ⟨c,0⟩)) (d63 x.ID (q8 c x.ID kind branch 0)):=by
   intro kind h5;refine e1h (Q:=λd=>∃u,d=a0e c i x ⟨c.Today,x.ID,kind,branch,0⟩ u∧MidP d) ?_ ?_
   ·rcases a95 m hx kind branch 0 with ⟨u,ha,m1,m2,hm2⟩|⟨e,he,m1,m2⟩
    ·exact .inl ⟨_,m1,m2,u,rfl,hm2⟩
    ·exact .inr ⟨c,e,he,m1,m2,m.short⟩
   ·rintro d ⟨u,rfl,hd⟩;exact ⟨hd,a09 u x,a8d hx _ u,rfl,hC _ rfl h5⟩
  cases hp:a3h x.Custody with
  |true=>
   simp only[yac];have h5:¬x.Custody.State=5:=by
    intro e;rw[a1r,e]at hp;cases hp
   have hl:=h.itemG x hmem;rw[hp]at hl;unfold a3u at hl;cases hb:(decide (branch<1)||decide (4<branch)) with
   |true=>
    simp only[yac];have dm:=a7m (kind:=4) (branch:=branch) (who:=0) m.short (by have:=m.moves;omega) hx;rw[d60 hb]at dm;have e1:qd1 (i:Int) branch ⟨c,0⟩=some ((),⟨c,1⟩):=by
     unfold qd1;simp only[d9,hx];rw[dm]
     try rfl
    rw[e1];show b1d (c0h i x.ID ⟨c,1⟩) _
    rw[b3i m.short _ _ 1 (by decide)];exact w8
   |false=>
    simp only[yaa];have hbr:rng 1 4 branch=true:=by
     rw[a0a];simp only[yai,yaf]at hb;omega
    cases hn:c.Loans.find? (λn=>n.Item==x.ID) with
    |none=>rw[hn]at hl;cases hl
    |some n=>
     refine e1h (c7w m hln hx hn hbr) ?_;rintro d ⟨hd,u,ch,nc,-,rfl⟩;exact ⟨hd,a09 u x,a8d hx ⟨c.Today,x.ID,4,branch,0⟩ u,rfl,hC _ rfl h5⟩
  |false=>
   simp only[yaa];cases h8:x.Custody.State==8 with
   |true=>exact mv 4 (by have:x.Custody.State=8:=(by simpa using h8);omega)
   |false=>
    simp only[yaa];cases h11:x.Custody.State==11 with
    |true=>exact mv 14 (by have:x.Custody.State=11:=(by simpa using h11);omega)
    |false=>
     simp only[yaa];cases h6:x.Custody.State==6 with
     |true=>exact mv 7 (by have:x.Custody.State=6:=(by simpa using h6);omega)
     |false=>
      simp only[yaa];rw[b3i m.short _ _ 12 (by decide)];exact w8
end
section
open Go (IntKind)
def h49 {c:Circ} (h:MidP c) (r:Int):(c.Holds.filter (a0i r c.Today)).length<40:=by
 have e:c.Holds.filter (a0i r c.Today)=(c.Holds.filter (λo=>o.Record==r)).filter (a0i r c.Today):=by
  rw[ybV];apply ycd;intro o _;unfold a0i;cases o.Record==r<;>simp
 rw[e];have:=yaV (a0i r c.Today) (c.Holds.filter (λo=>o.Record==r));have:=h.few r;omega
def f9c {c:Circ} (h:MidP c) (x:Item) (branch:Int):qbd c.Holds x branch c.Today c.Local=some (b41 branch c.Local x (o7 (c.Holds.filter (a0i x.Record c.Today))) 0):=
 e7d h.holdsN (h49 h x.Record) (λo ho=>(h.rank o ho).1)
end
section
open Go (IntKind)
def a6t (c:Circ) (n:Int):Circ:=⟨n,c.Items,c.Patrons,c.Loans,c.Holds,c.Charges,c.Rules,c.Cals,c.Moves,c.NextHold,c.NextCharge,c.Local⟩
end
section
open Go (IntKind)
def b1p (m:Move) (item:Int):∀(l:List Move) (i:Nat) (c:Custody),
 a0n i (l++[m]) item c=(match a0n i l item c with
  |.inl c'=>bif m.Item==item then (bif (s8 c' m).2==0 then .inl (s8 c' m).1 else .inr (((i+l.length:Nat):Int),(s8 c' m).2)) else .inl c'
  |.inr p=>.inr p):=by
 intro l
 induction l with
 |nil=>
  intro i c;simp only[yaU,a0n,ybh,ya9]
 |cons x l ih=>
  intro i c;simp only[ybA,a0n];rw[ih,ih];have e:i+1+l.length=i+(x::l).length:=by simp;omega
  rw[e];cases x.Item==item with
  |false=>rfl
  |true=>
   simp only[yac];cases (s8 c x).2==0<;>rfl
def c7g {branch:Int} {l:List Move} {m:Move} {item:Int} (h:(m.Item==item)=false) (hr:(a00 branch l item).2.2=0):a00 branch (l++[m]) item=a00 branch l item:=by
 unfold a00 at *;rw[b1p,h];cases decide (branch<1)||decide (4<branch) with
 |true=>rfl
 |false=>cases a0n 0 l item (b13 branch)<;>rfl
def d0z {branch:Int} {l:List Move} {m:Move} {item:Int} {u:Custody} (h:m.Item=item) (hr:(a00 branch l item).2.2=0) (ha:s8 (a00 branch l item).1 m=(u,0)):a00 branch (l++[m]) item=(u,-1,0):=by
 unfold a00 at *;rw[b1p,show (m.Item==item)=true by simpa using h];cases hb:(decide (branch<1)||decide (4<branch)) with
 |true=>rw[hb]at hr;cases hr
 |false=>
  rw[hb]at hr ha;simp only[yaa]at hr ha ⊢;cases hf:a0n 0 l item (b13 branch) with
  |inr p=>
   obtain ⟨i,e⟩:=p;rw[hf]at hr ha;simp only at hr ha;subst hr;exact absurd hf (by
    have key:∀(l:List Move) (i:Nat) (c:Custody) (j:Int),a0n i l item c≠.inr (j,0):=by
     intro l
     induction l with
     |nil=>intro i c j h;cases h
     |cons x l ih=>
      intro i c j h;unfold a0n at h;cases hx:x.Item==item with
      |false=>rw[hx]at h;exact ih _ _ _ h
      |true=>
       rw[hx]at h;simp only[yac]at h;cases hz:(s8 c x).2==0 with
       |true=>rw[hz]at h;exact ih _ _ _ h
       |false=>
        rw[hz]at h;simp only[yaa]at h;have h2:=Sum.inr.inj h;have h3:(s8 c x).2=0:=(Prod.mk.inj h2).2;rw[h3]at hz;cases hz
    exact key _ _ _ _)
  |inl c'=>
   rw[hf]at ha;simp only at ha ⊢;rw[ha]
   try rfl
def b9z (x:Item) (u:Custody) (z:Item):Item:=bif z.ID==x.ID then a09 u z else z
def d6i {l:List Item} {i:Nat} {x:Item} {u:Custody} (hi:∀(i:Nat) (x:Item) (j:Nat) (y:Item),l[i]?=some x→l[j]?=some y→x.ID=y.ID→i=j) (hx:l[i]?=some x):l.set i (a09 u x)=l.map (b9z x u):=by
 apply List.ext_getElem?;intro j;rw[yaO];by_cases e:i=j
 ·subst e;rw[ybx (zL hx),hx];unfold b9z;simp
 ·rw[List.getElem?_set_ne e];cases hj:l[j]? with
  |none=>rfl
  |some y=>
   have:(y.ID==x.ID)=false:=by
    rw[ya0];intro q;exact e (hi i x j y hx hj q.symm)
   show some y=some (b9z x u y)
   unfold b9z;rw[this];rfl
def c2g (x:Item) (u:Custody) (z:Item):(b9z x u z).ID=z.ID:=by unfold b9z;cases z.ID==x.ID<;>rfl
def d90 (x:Item) (u:Custody) (z:Item):a0f (b9z x u z)=a0f z:=by unfold b9z;cases z.ID==x.ID<;>rfl
def d1b (x:Item) (u:Custody) (z:Item):(b9z x u z).Branch=z.Branch:=by unfold b9z;cases z.ID==x.ID<;>rfl
def c38 (x:Item) (u:Custody) (id:Int) (l:List Item):(l.map (b9z x u)).find? (λz=>z.ID==id)=(l.find? (λz=>z.ID==id)).map (b9z x u):=by
 rw[List.find?_map];congr 2;funext z;show ((b9z x u z).ID==id)=_
 rw[c2g]
def e66 {X Y:Type} (g:X→Y) (f:Y→Bool) (l:List X) (i:Nat):w7 (l.map g) i f=w7 l i (λz=>f (g z)):=by
 unfold w7;cases i with
 |zero=>rfl
 |succ j=>
  simp only;rw[yaO];cases l[j]?<;>rfl
def d75 {c:Circ} (h:a1h c=true) (hi:∀(i:Nat) (x:Item) (j:Nat) (y:Item),c.Items[i]?=some x→c.Items[j]?=some y→x.ID=y.ID→i=j) {i:Nat} {x:Item} (hx:c.Items[i]?=some x) {m:Move} {u:Custody}
 (hm:m.Item=x.ID) (ha:s8 x.Custody m=(u,0)) (hl:c.Moves.length<2000):a1h (a0e c i x m u)=true:=by
 have hall:=λ(y:Item) (hy:y∈c.Items)=>a7s h hy
 have hmem:=yag hx;unfold a1h at h ⊢;simp only[yae]at h ⊢;obtain ⟨h1,h2,h3,h4⟩:=h;have hit:(a0e c i x m u).Items=c.Items.map (b9z x u):=d6i hi hx;have hmv:(a0e c i x m u).Moves=c.Moves++[m]:=rfl;rw[hit,hmv];refine ⟨?_,?_,?_,?_⟩
 ·rw[ybm,yaT];simp only[yan,yai,yaf]at h1 ⊢;refine ⟨h1.1,?_⟩;simp;omega
 ·rw[a4c]at h2 ⊢;intro k y hk;rw[yaO]at hk;cases hz:c.Items[k]? with
  |none=>rw[hz]at hk;cases hk
  |some z=>
   rw[hz]at hk;cases hk
   have:=h2 k z hz;rw[d90,e66,c2g];simp only[c2g];exact this
 ·unfold c1x at h3 ⊢;rw[hmv,hit,List.all_append];simp only[yae,yaj]at h3 ⊢;refine ⟨λw hw=>?_,λw hw=>?_⟩
  ·rw[c38,Option.isSome_map];exact h3 w hw
  ·have:w=m:=by simpa using hw
   subst this;rw[c38,Option.isSome_map,hm,List.find?_isSome];exact ⟨x,hmem,by simp⟩
 ·rw[yaj];intro y hy;obtain ⟨z,hz,rfl⟩:=ybe.1 hy;have hr:=hall z hz;unfold a1e at hr ⊢;simp only[yan,yai,yay,ya6]at hr ⊢;obtain ⟨r1,r2⟩:=hr;have r2:=a2c.1 r2;rw[hmv,d1b,c2g];cases hq:z.ID==x.ID with
  |true=>
   have hid:z.ID=x.ID:=by simpa using hq
   have hzx:z=x:=by
    obtain ⟨j,hj⟩:=List.mem_iff_getElem?.1 hz;have:=hi j z i x hj hx hid;subst this;rw[hx]at hj;cases hj;rfl
   subst hzx;have:=d0z (branch:=z.Branch) (l:=c.Moves) (item:=z.ID) hm r1 (by rw[r2];exact ha);rw[this];refine ⟨rfl,?_⟩;rw[a2c];unfold b9z;rw[hq];rfl
  |false=>
   have hmz:(m.Item==z.ID)=false:=by
    rw[hm,ya0];rw[ya0]at hq;exact λe=>hq e.symm
   rw[c7g hmz r1];refine ⟨r1,?_⟩;rw[a2c,r2];unfold b9z;rw[hq];rfl
end
section
open Go (IntKind)
def h9v {X:Type} (key:X→Int) {l:List X}:(∀i x,l[i]?=some x→w7 l i (λy=>decide (key x≤key y))=false)↔l.Pairwise (λa b=>key a<key b):=by
 constructor
 ·intro h;rw[ya2];intro i j hi hj hij;exact a2i (key:=key) h j i l[i] l[j] hij (yab hi) (yab hj)
 ·intro h i x hx;cases i with
  |zero=>rfl
  |succ j=>
   unfold w7;simp only;have hi:=(yaA.1 hx)
   have hj:j<l.length:=by have:=hi.1;omega
   rw[yab hj];have:=(ya2.1 h) j (j+1) hj hi.1 (by omega);rw[hi.2]at this;simp only[yaf];omega
def i7z {X:Type} (key:X→Int) (sh:X→Int) {l:List X}:a0j (λi x=>bif w7 l i (λy=>decide (key x≤key y)) then 7 else sh x) 0 l=0↔(∀x∈l,sh x=0)∧l.Pairwise (λa b=>key a<key b):=by
 rw[a6h,←h9v key];constructor
 ·intro h;have h2:∀i x,l[i]?=some x→w7 l i (λy=>decide (key x≤key y))=false:=λi x hx=>by
   have:=h i x hx;rw[yaI]at this;exact a0v this (by decide)
  refine ⟨λx hx=>?_,h2⟩;obtain ⟨i,hi⟩:=yaw hx;have:=h i x hi;rw[yaI,h2 i x hi]at this;exact this
 ·rintro ⟨h1,h2⟩ i x hx;rw[yaI,h2 i x hx];exact h1 x (yag hx)
def c8h {n:Nat} {m:Int} {e:Int}:(bif decide (m<(n:Int)) then (13:Int) else e)=0↔(n:Int)≤m∧e=0:=by
 by_cases h:m<(n:Int)
 ·rw[decide_eq_true h];constructor
  ·intro h;cases h
  ·rintro ⟨h2,-⟩;omega
 ·rw[decide_eq_false h];exact ⟨λe=>⟨by omega,e⟩,λe=>e.2⟩
def c4x (x:Loan):Int:=bif decide (x.Item<1)||decide (9999<x.Item)||decide (x.Patron<1)||decide (9999<x.Patron)||decide (x.Out<0)||decide (109572<x.Out)||decide (x.Due<0)||decide (109572<x.Due)||decide (x.Due<x.Out)||decide (x.Renewals<0)||decide (10<x.Renewals) then 2 else 0
def b1j {l:List Loan}:o5 l=0↔(l.length:Int)≤64∧(∀x∈l,c4x x=0)∧l.Pairwise (λa b=>a.Item<b.Item):=by
 unfold o5;rw[c8h];exact and_congr Iff.rfl (i7z (λx:Loan=>x.Item) c4x)
def c0g {l:List Charge}:p8 l=0↔(l.length:Int)≤128∧(∀x∈l,a30 x=0)∧l.Pairwise (λa b=>a.ID<b.ID):=by
 unfold p8;rw[c8h];exact and_congr Iff.rfl (i7z (λx:Charge=>x.ID) a30)
def c9j (l:List Hold):a1g l=λi x=>bif w7 l i (λy=>decide (x.ID≤y.ID)) then 7 else t7 x:=by
 funext i x;rw[a4y]
def d6x {l:List Hold}:a3d l=true↔l.Pairwise (λa b=>a0w b a=false):=by
 unfold a3d;rw[a4c,ya2];constructor
 ·intro h i j hi hj hij;have:=h j l[j] (yab hj);rw[yaI,yaj]at this;have h2:=this l[i] (by rw[List.mem_take_iff_getElem];exact ⟨i,by omega,rfl⟩);simpa using h2
 ·intro h i x hx;rw[yaI,yaj];intro y hy;rw[List.mem_take_iff_getElem]at hy;obtain ⟨j,hj,rfl⟩:=hy;obtain ⟨hi,rfl⟩:=yaA.1 hx;have:=h j i (by omega) hi (by omega);simpa using this
def b1h {l:List Hold}:y5 l=0↔(l.length:Int)≤64∧((∀x∈l,t7 x=0)∧l.Pairwise (λa b=>a.ID<b.ID))∧l.Pairwise (λa b=>a0w b a=false):=by
 unfold y5;rw[c8h,←d6x,←i7z (λx:Hold=>x.ID) t7,←c9j];refine and_congr Iff.rfl ?_;by_cases e:a0j (a1g l) 0 l=0
 ·rw[e];cases a3d l<;>simp
 ·have h2:(a0j (a1g l) 0 l==0)=false:=by simpa using e
  rw[h2];exact ⟨λh=>absurd h e,λh=>absurd h.1 e⟩
def c0b {b:Bool} {n m:Int} (hn:n≠0):(bif b then n else m)=0↔b=false∧m=0:=by
 cases b with
 |true=>exact ⟨λh=>absurd h hn,λh=>by cases h.1⟩
 |false=>exact ⟨λh=>⟨rfl,h⟩,λh=>h.2⟩
def h28 {p:Prop} [Decidable p] {n m:Int}:(decide p=!(n==m))↔(p↔¬n=m):=by
 by_cases h:p<;>by_cases k:n=m<;>simp[h,k]
def h26 {p:Prop} [Decidable p] {n m:Int}:(decide p=(n==m))↔(p↔n=m):=by
 by_cases h:p<;>by_cases k:n=m<;>simp[h,k]
def g63 {h:Hold}:t7 h=0↔((1≤h.ID∧h.ID≤99999)∧(1≤h.Patron∧h.Patron≤9999)∧(1≤h.Record∧h.Record≤9999)∧(h.Item=0∨(1≤h.Item∧h.Item≤9999))∧(1≤h.Pickup∧h.Pickup≤4)∧(0≤h.Placed∧h.Placed≤109572)∧
 (h.Got=0∨(1≤h.Got∧h.Got≤9999))∧(0≤h.Until∧h.Until≤109572)∧(0≤h.Asleep∧h.Asleep≤109572)∧(0≤h.Rank∧h.Rank≤9))∧(1≤h.State∧h.State≤3)∧(0<h.Got↔¬h.State=1)∧(0<h.Until↔h.State=3):=by
 unfold t7;rw[c0b (by decide),c0b (by decide),c0b (by decide)];simp only[yai,yaf,yay,a0a,ya1,ya6,h28,h26,and_true];constructor
 ·rintro ⟨h1,h2,h3⟩;exact ⟨by omega,by omega,h3⟩
 ·rintro ⟨h1,h2,h3⟩;exact ⟨by omega,by omega,h3⟩
def a9w {h:Hold} (e:t7 h=0):(1≤h.ID∧h.ID≤99999)∧(1≤h.Record∧h.Record≤9999)∧(1≤h.Pickup∧h.Pickup≤4)∧(h.State=1∨h.State=2∨h.State=3)∧(h.State=1→h.Got=0)∧(h.State≠1→1≤h.Got)∧(1≤h.Patron∧h.Patron≤9999):=by
 rw[g63]at e;obtain ⟨⟨a1,a2,a3,a4,a5,a6,a7,a8,a9,a10⟩,b,c,d⟩:=e;refine ⟨a1,a3,a5,by omega,λq=>?_,λq=>?_,a2⟩
 ·by_cases g:0<h.Got
  ·exact absurd q (c.1 g)
  ·omega
 ·exact c.2 q
end
section
open Go (IntKind)
def i8k (c:Custody) (m:Move):Custody:=
 bif a0z m.Kind==2 then ⟨a0z m.Kind,m.Branch,0,0⟩
 else bif a0z m.Kind==4||(a0z m.Kind==5||a0z m.Kind==8) then ⟨a0z m.Kind,c.Branch,m.Who,0⟩
 else bif a0z m.Kind==6 then ⟨a0z m.Kind,c.Branch,m.Who,m.Branch⟩
 else bif a0z m.Kind==9||a0z m.Kind==10 then ⟨a0z m.Kind,c.Branch,c.Who,0⟩
 else ⟨a0z m.Kind,c.Branch,0,0⟩
structure AppP (c:Custody) (m:Move) (u:Custody):Prop where
 res:u=i8k c m
 right:a9b c=true
 within:a9a m=true
 allow:a64 c.State m.Kind=true
 same:m.Kind=3→c.State=5→m.Who=c.Who
 fits:c2a c m=true
def e09 {c:Custody} {m:Move} {u:Custody} (h:s8 c m=(u,0)):AppP c m u:=by
 unfold s8 at h;cases e1:(!(a9b c)||!(a9a m)) with
 |true=>rw[e1]at h;cases h
 |false=>
  have e0:=e1;simp only[yai,yay]at e0;rw[e1]at h;simp only[yaa]at h;cases e2:!(a64 c.State m.Kind) with
  |true=>rw[e2]at h;cases h
  |false=>
   rw[e2]at h;simp only[yaa]at h;cases e3:(m.Kind==3&&c.State==5&&!(m.Who==c.Who)) with
   |true=>rw[e3]at h;cases h
   |false=>
    rw[e3]at h;simp only[yaa]at h;cases e4:!(c2a c m) with
    |true=>rw[e4]at h;cases h
    |false=>
     rw[e4]at h;simp only[yaa]at h;have hr:u=i8k c m:=by
      unfold i8k;generalize a0z m.Kind=k at h ⊢;cases k2:k==2 with
      |true=>rw[k2]at h;cases h;rfl
      |false=>
       rw[k2]at h;simp only[yaa]at h ⊢;cases k4:k==4||(k==5||k==8) with
       |true=>rw[k4]at h;cases h;rfl
       |false=>
        rw[k4]at h;simp only[yaa]at h ⊢;cases k6:k==6 with
        |true=>rw[k6]at h;cases h;rfl
        |false=>
         rw[k6]at h;simp only[yaa]at h ⊢;cases k9:k==9||k==10 with
         |true=>rw[k9]at h;cases h;rfl
         |false=>rw[k9]at h;cases h;rfl
     refine ⟨hr,e0.1,e0.2,by simpa using e2,λa b=>?_,by simpa using e4⟩;simp only[ya1,ya0,yay,ya6,ne_eq]at e3;rcases e3 with (q|q)|q
     ·exact absurd a q
     ·exact absurd b q
     ·exact q
def f2n {s k:Int} (h:a64 s k=true):s∈d0h k:=by
 unfold a64 at h;rw[List.any_eq_true]at h;obtain ⟨x,hx,e⟩:=h;have:x=s:=by simpa using e
 exact this▸hx
def g0d (u:Custody) (h:Hold):Prop:=(h.State=3→u.State=5∧u.Branch=h.Pickup∧u.Who=h.Patron)∧(h.State=2→u.State=6∧u.To=h.Pickup∧u.Who=h.Patron)
structure Val (it:Int) (c:Circ):Prop where
 nums:a4a c=true
 patrons:a1a c.Patrons=0
 loans:o5 c.Loans=0
 holds:y5 c.Holds=0
 charges:p8 c.Charges=0
 rules:a2y c.Rules=0
 cals:a3k c=true
 chG:∀x∈c.Charges,a01 c x=true
 items:a1h c=true
 loanP:∀n∈c.Loans,(a3g c.Patrons n.Patron).2=true
 loanI:∀n∈c.Loans,∃x∈c.Items,x.ID=n.Item∧(n.Item≠it→a3h x.Custody=true∧x.Custody.Who=n.Patron)
 itemL:∀x∈c.Items,x.ID≠it→a3h x.Custody=true→∃n∈c.Loans,n.Item=x.ID
 holdP:∀h∈c.Holds,(a3g c.Patrons h.Patron).2=true∧h.ID<c.NextHold
 holdI:∀h∈c.Holds,h.State≠1→∃x∈c.Items,x.ID=h.Got∧x.Record=h.Record∧(h.Got≠it→g0d x.Custody h)
 itemH:∀x∈c.Items,x.ID≠it→x.Custody.State=5→∃h∈c.Holds,h.Got=x.ID∧h.State=3
def a04 {c:Circ} (h:a1h c=true) {x y:Item} (hx:x∈c.Items) (hy:y∈c.Items) (e:x.ID=y.ID):x=y:=by
 have h1:=a27 (key:=λy:Item=>y.ID) (a3e h) hx;have h2:=a27 (key:=λy:Item=>y.ID) (a3e h) hy;rw[e,h2]at h1;cases h1;rfl
def b34 {c:Circ} (h:a1h c=true) {x:Item} (hx:x∈c.Items) {id:Int} (e:x.ID=id):c.Items.find? (λy=>y.ID==id)=some x:=by
 subst e;exact a27 (key:=λy:Item=>y.ID) (a3e h) hx
def a4m {c:Circ} (h:a1h c=true) {x:Item} (hx:x∈c.Items):1≤x.ID∧x.ID≤9999∧1≤x.Record∧(1≤x.Branch∧x.Branch≤4)∧x.Call.length≤200:=by
 unfold a1h at h;simp only[yae]at h;obtain ⟨i,hi⟩:=yaw hx;have:=(a4c.1 h.2.1) i x hi;rw[yaI]at this;simp only[yan,yai,yay]at this;have h2:=this.1;unfold a0f at h2;simp only[yae,a0a,yad]at h2;omega
def i69 {c:Circ} (h:a5g c=true):Val 0 c:=by
 have f:=i82 h;have hch:∀x∈c.Charges,a01 c x=true:=by
  unfold a5g at h;simp only[yae,yaj]at h;exact h.2.2.2.1
 have hcal:a3k c=true:=by
  unfold a5g at h;simp only[yae]at h;exact h.2.2.1
 refine ⟨f.nums,f.patrons,f.loans,f.holds,f.charges,f.rules,hcal,hch,f.items,λn hn=>?_,λn hn=>?_,λx hx _ hw=>?_,λo ho=>?_,λo ho h1=>?_,λx hx _ h5=>?_⟩
 ·obtain ⟨x,p,-,-,-,hp,-⟩:=b0v f hn;rw[hp]
 ·obtain ⟨x,p,-,hx,hi,-,-,hw,hwho⟩:=b0v f hn;exact ⟨x,hx,hi,λ_=>⟨hw,hwho⟩⟩
 ·have:=f.itemG x hx;rw[hw]at this;unfold a3u at this;cases hq:c.Loans.find? (λn=>n.Item==x.ID) with
  |none=>rw[hq]at this;cases this
  |some n=>exact ⟨n,yaW hq,by have:=ybs hq;simpa using this⟩
 ·have:=f.holdG o ho;unfold a3n at this;simp only[yae,yan,yai,yay,yaf]at this;exact ⟨this.1.1,by have:=this.1.2;omega⟩
 ·have hg:=f.holdG o ho;unfold a3n at hg;rw[show (o.State==1)=false by simpa using h1]at hg;simp only[yae,ybg]at hg;have hg:=hg.2;cases hq:c.Items.find? (λx=>x.ID==o.Got) with
  |none=>rw[hq]at hg;cases hg
  |some x=>
   rw[hq]at hg;refine ⟨x,yaW hq,by have:=ybs hq;simpa using this,?_,λ_=>?_⟩
   ·simp only[yae,yb6,ya6]at hg;exact hg.1.1
   ·simp only[yae,yb6,ya6,yan,ya1,yai,yay,ya0,ne_eq]at hg;obtain ⟨⟨-,g3⟩,g2⟩:=hg;refine ⟨λe=>?_,λe=>?_⟩
    ·rcases g3 with g3|g3
     ·exact absurd e g3
     ·exact ⟨g3.1.1,g3.1.2,g3.2⟩
    ·rcases g2 with g2|g2
     ·exact absurd e g2
     ·exact ⟨g2.1.1,g2.1.2,g2.2⟩
 ·have hg:=f.readyG x hx;unfold a1p at hg;rw[h5]at hg;simp only[yal,yak,ybg,yan,yai,yay,ya6]at hg;have:=a5p hg.1;exact ⟨_,this.1,this.2,hg.2⟩
def f1u {c:Circ} (v:Val 0 c):a5g c=true:=by
 have hid:=λx hx=>a4m (x:=x) v.items hx
 unfold a5g;simp only[yae,yaj];refine ⟨v.nums,?_,v.cals,v.chG,by rw[a7r];exact v.items,?_,?_⟩
 ·unfold a3o;rw[v.patrons,v.loans,v.holds,v.charges,v.rules];rfl
 ·unfold a2e;simp only[yae,yaj,ya6];refine ⟨λn hn=>?_,λx hx=>?_⟩
  ·obtain ⟨x,hx,hi,hw⟩:=v.loanI n hn;have:=(hid x hx).1;have hw:=hw (by omega);unfold a3p;rw[b34 v.items hx hi];simp only[v.loanP n hn,hw.1,hw.2];simp
  ·have:=(hid x hx).1;cases hw:a3h x.Custody with
   |true=>
    obtain ⟨n,hn,e⟩:=v.itemL x hx (by omega) hw;unfold a3u;cases hq:c.Loans.find? (λn=>n.Item==x.ID) with
    |none=>exact absurd (ybF.1 hq n hn) (by simpa using e)
    |some m=>rfl
   |false=>
    unfold a3u;cases hq:c.Loans.find? (λn=>n.Item==x.ID) with
    |none=>rfl
    |some m=>
     have hm:=yaW hq;have he:m.Item=x.ID:=by have:=ybs hq;simpa using this
     obtain ⟨y,hy,hi,hy2⟩:=v.loanI m hm;have:=a04 v.items hy hx (hi.trans he);subst this;rw[(hy2 (by omega)).1]at hw;cases hw
 ·unfold a4l;simp only[yae,yaj];refine ⟨λo ho=>?_,λx hx=>?_⟩
  ·unfold a3n;obtain ⟨p1,p2⟩:=v.holdP o ho;rw[p1,show decide (c.NextHold≤o.ID)=false by rw[yaf];omega];by_cases h1:o.State=1
   ·rw[show (o.State==1)=true by simpa using h1];rfl
   ·obtain ⟨x,hx,hg,hr,ha⟩:=v.holdI o ho h1;have:=(hid x hx).1;obtain ⟨a3,a2⟩:=ha (by omega);rw[show (o.State==1)=false by simpa using h1,b34 v.items hx hg];simp only[hr,yal,yak,yas,ya8,Bool.or_false,ybg];by_cases e3:o.State=3
    ·obtain ⟨q1,q2,q3⟩:=a3 e3;simp[e3,q1,q2,q3]
    ·by_cases e2:o.State=2
     ·obtain ⟨q1,q2,q3⟩:=a2 e2;simp[e2,q1,q2,q3]
     ·simp[e2,e3]
  ·unfold a1p;have:=(hid x hx).1;by_cases h5:x.Custody.State=5
   ·rw[show (x.Custody.State==5)=true by simpa using h5];obtain ⟨o,ho,hg,h3⟩:=v.itemH x hx (by omega) h5;unfold s7;cases hq:c.Holds.find? (λh=>h.Got==x.ID) with
    |none=>exact absurd (ybF.1 hq o ho) (by simpa using hg)
    |some p=>
     have hp:=yaW hq;have hpg:p.Got=x.ID:=by have:=ybs hq;simpa using this
     have hn:=a9w (a3c v.holds hp);have hp1:p.State≠1:=λe=>by have:=hn.2.2.2.2.1 e;omega
     obtain ⟨y,hy,hyg,-,ha⟩:=v.holdI p hp hp1;have:=a04 v.items hy hx (hyg.trans hpg);subst this;have ha:=(ha (by omega)).2;have h3:p.State=3:=by
      rcases hn.2.2.2.1 with e|e|e
      ·exact absurd e hp1
      ·have:=(ha e).1;omega
      ·exact e
     simp[h3]
   ·rw[show (x.Custody.State==5)=false by simpa using h5];rfl
def Val.weak {c:Circ} (v:Val 0 c) (it:Int):Val it c:=by
 have hid:=λx hx=>a4m (x:=x) v.items hx
 refine ⟨v.nums,v.patrons,v.loans,v.holds,v.charges,v.rules,v.cals,v.chG,v.items,v.loanP,λn hn=>?_,λx hx _ hw=>?_,v.holdP,λo ho h1=>?_,λx hx _ h5=>?_⟩
 ·obtain ⟨x,hx,hi,hw⟩:=v.loanI n hn;have:=(hid x hx).1;exact ⟨x,hx,hi,λ_=>hw (by omega)⟩
 ·have:=(hid x hx).1;exact v.itemL x hx (by omega) hw
 ·obtain ⟨x,hx,hg,hr,ha⟩:=v.holdI o ho h1;have:=(hid x hx).1;exact ⟨x,hx,hg,hr,λ_=>ha (by omega)⟩
 ·have:=(hid x hx).1;exact v.itemH x hx (by omega) h5
def Val.close {it:Int} {c:Circ} (v:Val it c) {x:Item} (hx:x∈c.Items) (hi:x.ID=it)
 (h1:∀n∈c.Loans,n.Item=it→a3h x.Custody=true∧x.Custody.Who=n.Patron) (h2:a3h x.Custody=true→∃n∈c.Loans,n.Item=it)
 (h3:∀h∈c.Holds,h.State≠1→h.Got=it→g0d x.Custody h) (h4:x.Custody.State=5→∃h∈c.Holds,h.Got=it∧h.State=3):Val 0 c:=by
 refine ⟨v.nums,v.patrons,v.loans,v.holds,v.charges,v.rules,v.cals,v.chG,v.items,v.loanP,λn hn=>?_,λy hy _ hw=>?_,v.holdP,λo ho hs1=>?_,λy hy _ h5=>?_⟩
 ·obtain ⟨y,hy,hiy,hw⟩:=v.loanI n hn;refine ⟨y,hy,hiy,λ_=>?_⟩;by_cases e:n.Item=it
  ·have:=a04 v.items hy hx (by omega);subst this;exact h1 n hn e
  ·exact hw e
 ·by_cases e:y.ID=it
  ·have:=a04 v.items hy hx (by omega);subst this;obtain ⟨n,hn,e2⟩:=h2 hw;exact ⟨n,hn,by omega⟩
  ·exact v.itemL y hy e hw
 ·obtain ⟨y,hy,hg,hr,ha⟩:=v.holdI o ho hs1;refine ⟨y,hy,hg,hr,λ_=>?_⟩;by_cases e:o.Got=it
  ·have:=a04 v.items hy hx (by omega);subst this;exact h3 o ho hs1 e
  ·exact ha e
 ·by_cases e:y.ID=it
  ·have:=a04 v.items hy hx (by omega);subst this;obtain ⟨n,hn,e2,e3⟩:=h4 h5;exact ⟨n,hn,by omega,e3⟩
  ·exact v.itemH y hy e h5
end
section
open Go (IntKind)
def b0r {c:Circ} (h:a1h c=true):∀(i:Nat) (x:Item) (j:Nat) (y:Item),c.Items[i]?=some x→c.Items[j]?=some y→x.ID=y.ID→i=j:=by
 intro i x j y hx hy e;have hs:=a3e h;rcases ycc i j with hl|hl|hl
 ·have:=a2i (key:=λy:Item=>y.ID) hs j i x y hl hx hy;omega
 ·exact hl
 ·have:=a2i (key:=λy:Item=>y.ID) hs i j y x hl hy hx;omega
def a6y {c:Circ} (h:a1h c=true) {i:Nat} {x:Item} (hx:c.Items[i]?=some x) {m:Move} {u:Custody} {y:Item}:y∈(a0e c i x m u).Items↔(y∈c.Items∧y.ID≠x.ID)∨y=a09 u x:=by
 have hit:(a0e c i x m u).Items=c.Items.map (b9z x u):=d6i (b0r h) hx;rw[hit,ybe];constructor
 ·rintro ⟨z,hz,rfl⟩;unfold b9z;by_cases e:z.ID=x.ID
  ·have:=a04 h hz (yag hx) e;subst this;right;simp
  ·left;rw[show (z.ID==x.ID)=false by simpa using e];exact ⟨hz,e⟩
 ·rintro (⟨hy,e⟩|rfl)
  ·refine ⟨y,hy,?_⟩;unfold b9z;rw[show (y.ID==x.ID)=false by simpa using e];rfl
  ·refine ⟨x,yag hx,?_⟩;unfold b9z;simp
def Val.move {c:Circ} {i:Nat} {x:Item} (v:Val x.ID c) (hx:c.Items[i]?=some x) {m:Move} {u:Custody} (hm:m.Item=x.ID) (ha:s8 x.Custody m=(u,0)) (hl:c.Moves.length<2000):Val x.ID (a0e c i x m u):=by
 have mm:=λy=>a6y (y:=y) v.items hx (m:=m) (u:=u)
 refine ⟨v.nums,v.patrons,v.loans,v.holds,v.charges,v.rules,v.cals,v.chG,d75 v.items (b0r v.items) hx hm ha hl,v.loanP,λn hn=>?_,λy hy hne hw=>?_,v.holdP,λo ho h1=>?_,λy hy hne h5=>?_⟩
 ·obtain ⟨y,hy,hi,hw⟩:=v.loanI n hn;by_cases e:y.ID=x.ID
  ·exact ⟨a09 u x,(mm _).2 (.inr rfl),e.symm.trans hi,λq=>absurd (hi.symm.trans e) q⟩
  ·exact ⟨y,(mm _).2 (.inl ⟨hy,e⟩),hi,hw⟩
 ·rcases (mm y).1 hy with ⟨hy,_⟩|rfl
  ·exact v.itemL y hy hne hw
  ·exact absurd rfl hne
 ·obtain ⟨y,hy,hg,hr,ha⟩:=v.holdI o ho h1;by_cases e:y.ID=x.ID
  ·have:=a04 v.items hy (yag hx) e;subst this;exact ⟨a09 u y,(mm _).2 (.inr rfl),hg,hr,λq=>absurd hg.symm q⟩
  ·exact ⟨y,(mm _).2 (.inl ⟨hy,e⟩),hg,hr,ha⟩
 ·rcases (mm y).1 hy with ⟨hy,_⟩|rfl
  ·exact v.itemH y hy hne h5
  ·exact absurd rfl hne
def a6k {l:List Hold} (h:y5 l=0) {o p:Hold} (ho:o∈l) (hp:p∈l) (e:o.ID=p.ID):o=p:=c1h (a0m h) ho hp e
def c7v (l:List Hold) (id:Int) (o:Hold):List Hold:=l.map (λz=>bif z.ID==id then o else z)
def a5u {l:List Hold} {o p z:Hold} (ho:o∈l):z∈c7v l o.ID p↔(z∈l∧z.ID≠o.ID)∨z=p:=by
 unfold c7v;rw[ybe];constructor
 ·rintro ⟨y,hy,rfl⟩;by_cases e:y.ID=o.ID
  ·right;rw[show (y.ID==o.ID)=true by simpa using e];rfl
  ·left;rw[show (y.ID==o.ID)=false by simpa using e];exact ⟨hy,e⟩
 ·rintro (⟨hz,e⟩|rfl)
  ·exact ⟨z,hz,by rw[show (z.ID==o.ID)=false by simpa using e];rfl⟩
  ·exact ⟨o,ho,by rw[show (o.ID==o.ID)=true by simp];rfl⟩
def f95 {l:List Hold} (h:y5 l=0) {o p:Hold} (ho:o∈l) (k1:p.ID=o.ID) (k2:p.Patron=o.Patron) (k3:p.Record=o.Record) (hs:t7 p=0) (hg:∀z∈l,0<p.Got→z.Got=p.Got→z.ID=o.ID):y5 (c7v l o.ID p)=0:=by
 rw[b1h]at h ⊢;obtain ⟨h1,⟨h2,h3⟩,h4⟩:=h;refine ⟨by unfold c7v;rw[ybm];exact h1,⟨λz hz=>?_,?_⟩,?_⟩
 ·rcases (a5u ho).1 hz with ⟨hz,_⟩|rfl
  ·exact h2 z hz
  ·exact hs
 ·unfold c7v;rw[List.pairwise_map];have key:∀z:Hold,(bif z.ID==o.ID then p else z).ID=z.ID:=by
   intro z;by_cases e:z.ID=o.ID
   ·rw[show (z.ID==o.ID)=true by simpa using e,yac,k1,e]
   ·rw[show (z.ID==o.ID)=false by simpa using e];rfl
  refine h3.imp (λ{a b} q=>?_);rw[key,key];exact q
 ·unfold c7v;rw[List.pairwise_map];refine (h3.and h4).imp_of_mem (λ{a b} ha hb q=>?_);obtain ⟨q1,q2⟩:=q;have one:∀z∈l,z.ID=o.ID→z=o:=λz hz e=>c1h (d1e.2 h3) hz ho e
  unfold a0w at q2 ⊢;simp only[yai,ya1,ya0,ne_eq,yaf]at q2 ⊢;by_cases ea:a.ID=o.ID
  ·have:=one a ha ea;subst this;have eb:¬b.ID=a.ID:=by omega
   rw[show (b.ID==a.ID)=false by simpa using eb,show (a.ID==a.ID)=true by simp];simp only[yac,yaa,k2,k3];refine ⟨q2.1,?_⟩;by_cases e:b.Got=p.Got
   ·left;intro hpos;exact eb (hg b hb (by omega) e)
   ·exact .inr e
  ·by_cases eb:b.ID=o.ID
   ·have:=one b hb eb;subst this;rw[show (a.ID==b.ID)=false by simpa using ea,show (b.ID==b.ID)=true by simp];simp only[yac,yaa,k2,k3];refine ⟨q2.1,?_⟩;by_cases e:p.Got=a.Got
    ·left;intro hpos;exact ea (hg a ha hpos e.symm)
    ·exact .inr e
   ·rw[show (a.ID==o.ID)=false by simpa using ea,show (b.ID==o.ID)=false by simpa using eb];exact q2
def Val.swap {it:Int} {c:Circ} (v:Val it c) {o p:Hold} (ho:o∈c.Holds) (k1:p.ID=o.ID) (k2:p.Patron=o.Patron) (k3:p.Record=o.Record) (hs:t7 p=0) (hg:∀z∈c.Holds,0<p.Got→z.Got=p.Got→z.ID=o.ID)
 (old:o.State≠3∨o.Got=it) (new:p.State≠1→p.Got=it∧∃x∈c.Items,x.ID=it∧x.Record=o.Record):Val it (u6 c (c7v c.Holds o.ID p)):=by
 refine ⟨v.nums,v.patrons,v.loans,f95 v.holds ho k1 k2 k3 hs hg,v.charges,v.rules,v.cals,v.chG,v.items,v.loanP,v.loanI,v.itemL,λz hz=>?_,λz hz h1=>?_,λy hy hne h5=>?_⟩
 ·rcases (a5u ho).1 hz with ⟨hz,_⟩|rfl
  ·exact v.holdP z hz
  ·have:=v.holdP o ho;exact ⟨by rw[k2];exact this.1,by rw[k1];exact this.2⟩
 ·rcases (a5u ho).1 hz with ⟨hz,_⟩|rfl
  ·exact v.holdI z hz h1
  ·obtain ⟨e,x,hx,hi,hr⟩:=new h1;exact ⟨x,hx,by rw[hi,e],by rw[hr,k3],λq=>absurd e q⟩
 ·obtain ⟨z,hz,e,e3⟩:=v.itemH y hy hne h5;refine ⟨z,(a5u ho).2 (.inl ⟨hz,λq=>?_⟩),e,e3⟩;have:=a6k v.holds hz ho q;subst this;rcases old with q|q
  ·exact q e3
  ·exact hne (e.symm.trans q)
def d7z {l:List Hold} (h:y5 l=0) (p:Hold→Bool):y5 (l.filter p)=0:=by
 rw[b1h]at h ⊢;have:=yaV p l;exact ⟨by omega,⟨λx hx=>h.2.1.1 x (yaD.1 hx).1,h.2.1.2.filter p⟩,h.2.2.filter p⟩
def Val.remove {it:Int} {c:Circ} (v:Val it c) {o:Hold} (ho:o∈c.Holds) (old:o.State≠3∨o.Got=it):Val it (u6 c (c.Holds.filter (λx=>!(x.ID==o.ID)))):=by
 refine ⟨v.nums,v.patrons,v.loans,d7z v.holds _,v.charges,v.rules,v.cals,v.chG,v.items,v.loanP,v.loanI,v.itemL,λz hz=>v.holdP z (yaD.1 hz).1,λz hz=>v.holdI z (yaD.1 hz).1,λy hy hne h5=>?_⟩;obtain ⟨z,hz,e,e3⟩:=v.itemH y hy hne h5;refine ⟨z,yaD.2 ⟨hz,?_⟩,e,e3⟩;rw[yan,ya0];intro q;have:=a6k v.holds hz ho q;subst this;rcases old with q|q
 ·exact q e3
 ·exact hne (e.symm.trans q)
def Val.setLoans {it:Int} {c:Circ} (v:Val it c) {l:List Loan} (he:o5 l=0) (h1:∀n∈l,(a3g c.Patrons n.Patron).2=true∧((∃n0∈c.Loans,n0.Item=n.Item∧n0.Patron=n.Patron)∨(n.Item=it∧∃x∈c.Items,x.ID=it)))
 (h2:∀n0∈c.Loans,n0.Item≠it→∃n∈l,n.Item=n0.Item):Val it (j6 c l):=by
 refine ⟨v.nums,v.patrons,he,v.holds,v.charges,v.rules,v.cals,v.chG,v.items,λn hn=>(h1 n hn).1,λn hn=>?_,λx hx hne hw=>?_,v.holdP,v.holdI,v.itemH⟩
 ·rcases (h1 n hn).2 with ⟨n0,hn0,e1,e2⟩|⟨e,x,hx,hi⟩
  ·obtain ⟨x,hx,hi,hw⟩:=v.loanI n0 hn0;exact ⟨x,hx,by rw[hi,e1],λq=>by have:=hw (by rw[e1];exact q);rw[e2]at this;exact this⟩
  ·exact ⟨x,hx,by rw[hi,e],λq=>absurd e q⟩
 ·obtain ⟨n,hn,e⟩:=v.itemL x hx hne hw;obtain ⟨m,hm,e2⟩:=h2 n hn (by rw[e];exact hne);exact ⟨m,hm,e2.trans e⟩
def b0y {c:Circ} (h:a4a c=true):(0≤c.Today∧c.Today≤109572)∧(1≤c.NextHold∧c.NextHold≤100000)∧(1≤c.NextCharge∧c.NextCharge≤100000):=by
 unfold a4a at h;simp only[yan,yai,yaf]at h;omega
def c90 {c:Circ} (h:(0≤c.Today∧c.Today≤109572)∧(1≤c.NextHold∧c.NextHold≤100000)∧(1≤c.NextCharge∧c.NextCharge≤100000)):a4a c=true:=by
 unfold a4a;simp only[yan,yai,yaf];omega
def c3r {c:Circ} {x:Charge} (h:a01 c x=true):(a3g c.Patrons x.Patron).2=true∧x.ID<c.NextCharge:=by
 unfold a01 at h;simp only[yan,yai,yay,yaf]at h;exact ⟨h.1,by omega⟩
def e14 {c:Circ} {x:Charge} (h:(a3g c.Patrons x.Patron).2=true) (h2:x.ID<c.NextCharge):a01 c x=true:=by
 unfold a01;simp only[yan,yai,yay,yaf];exact ⟨h,by omega⟩
def Val.setCharges {it:Int} {c:Circ} (v:Val it c) {l:List Charge} {n:Int} (he:p8 l=0) (hn:c.NextCharge≤n∧n≤100000) (h1:∀x∈l,(a3g c.Patrons x.Patron).2=true∧x.ID<n):Val it (a5k c l n):=by
 have hv:=b0y v.nums;exact ⟨c90 ⟨hv.1,hv.2.1,(by omega:1≤n),hn.2⟩,v.patrons,v.loans,v.holds,he,v.rules,v.cals,λx hx=>e14 (h1 x hx).1 (h1 x hx).2,v.items,v.loanP,v.loanI,v.itemL,v.holdP,v.holdI,v.itemH⟩
def Val.setToday {it:Int} {c:Circ} (v:Val it c) {t:Int} (h:0≤t∧t≤109572):Val it (a6t c t):=by
 have hv:=b0y v.nums;exact ⟨c90 ⟨h,hv.2⟩,v.patrons,v.loans,v.holds,v.charges,v.rules,v.cals,v.chG,v.items,v.loanP,v.loanI,v.itemL,v.holdP,v.holdI,v.itemH⟩
end
section
open Go (IntKind)
def a5e {c d:Circ} (h:MidP c) {i:Nat} {x:Item} (hx:c.Items[i]?=some x) {kind branch who:Int} (e:q8 c x.ID kind branch who=some (d,0)) :
 ∃u,s8 x.Custody ⟨c.Today,x.ID,kind,branch,who⟩=(u,0)∧c.Moves.length<2000∧d=a0e c i x ⟨c.Today,x.ID,kind,branch,who⟩ u∧MidP d:=by
 have hmv:=h.moves;rcases a95 h hx kind branch who with ⟨u,ha,-,m2,hm2⟩|⟨e',he,-,m2⟩
 ·rw[m2]at e;cases e
  have rm:=h5n (kind:=kind) (branch:=branch) (who:=who) h.short (by omega) (a8r h hx) hx rfl;rw[m2,ha]at rm;refine ⟨u,ha,?_,rfl,hm2⟩;by_cases hl:c.Moves.length<2000
  ·exact hl
  ·have e1:b0x c 0=13:=by
    unfold b0x;rw[show decide (2000≤(c.Moves.length:Int))=true by rw[yad];omega];rfl
   rw[e1]at rm;have q:(0:Int)=13:=congrArg Prod.snd (ybi rm);exact absurd q (by decide)
 ·rw[m2]at e;cases e
  exact absurd rfl he
def c77.b {a:Option (Unit×Circ_desk)} {b:Option (Circ×Int)} {Q:Circ→Prop} (h:c77 a b Q) {d:Circ} (e:b=some (d,0)):Q d:=by
 rcases h with ⟨d',-,h2,h3⟩|⟨d',e',he,-,h2,-⟩
 ·rw[e]at h2;cases h2
  exact h3
 ·rw[e]at h2;cases h2
  exact absurd rfl he
def Rdy (c d:Circ) (i:Nat) (x:Item) (o:Hold):Prop:=∃u l un,s8 x.Custody ⟨c.Today,x.ID,5,x.Custody.Branch,o.Patron⟩=(u,0)∧c.Moves.length<2000∧a3l c.Holds o.ID x.ID 3 un=(l,0)∧d=u6 (a0e c i x ⟨c.Today,x.ID,5,x.Custody.Branch,o.Patron⟩ u) l
def c7e {c d:Circ} (h:MidP c) {i:Nat} {x:Item} (hx:c.Items[i]?=some x) {o:Hold} (e:qeb c x.ID o=some (d,0)):Rdy c d i x o:=by
 obtain ⟨r,b,hr,_⟩:=b59 (p:=o.Patron) (x:=x) h.short;have hb:=h.branch x (yag hx);unfold qeb at e;simp -zeta only[a8r h hx,d9,hx,hr]at e;have key:∀days:Int,(match q8 c x.ID 5 x.Custody.Branch o.Patron with
  |some (r6,r7)=>bif !(r7==0) then some (z8,r7) else
   match qm r6 x.Custody.Branch with
   |some r9=>(match qb3 r9 r6.Today days with
    |some (r11,r12)=>bif !(r12==0) then some (z8,r12) else
     match qbk r6.Holds o.ID x.ID 3 r11 with
     |some (r14,r15)=>bif !(r15==0) then some (z8,r15) else some ({r6 with Holds:=r14},0)
     |none=>none
    |none=>none)
   |none=>none
  |none=>none)=some (d,0)→Rdy c d i x o:=by
  intro days e;cases hm:q8 c x.ID 5 x.Custody.Branch o.Patron with
  |none=>rw[hm]at e;cases e
  |some p=>
   obtain ⟨c2,e2⟩:=p;rw[hm]at e;dsimp only at e;by_cases he2:e2=0
   ·subst he2;obtain ⟨u,ha,hl,rfl,hm2⟩:=a5e h hx hm;simp only[yal,yak,yaa,e7y hb]at e;obtain ⟨dd,ee,hq⟩:=b0t (hm2.cal x.Custody.Branch) (a0e c i x ⟨c.Today,x.ID,5,x.Custody.Branch,o.Patron⟩ u).Today days;rw[hq]at e;dsimp only at e;by_cases hee:ee=0
    ·subst hee;simp only[yal,yak,yaa,d52 hm2.short.holds hm2.sorted]at e;generalize hc:a3l (a0e c i x ⟨c.Today,x.ID,5,x.Custody.Branch,o.Patron⟩ u).Holds o.ID x.ID 3 dd=q at e;obtain ⟨l,e3⟩:=q;dsimp only at e;by_cases he3:e3=0
     ·subst he3;simp only[yal,yak,yaa]at e;cases e
      exact ⟨u,l,dd,ha,hl,hc,rfl⟩
     ·rw[show (e3==0)=false by simpa using he3]at e;simp only[yas,yac]at e;cases e
      exact absurd rfl he3
    ·rw[show (ee==0)=false by simpa using hee]at e;simp only[yas,yac]at e;cases e
     exact absurd rfl hee
   ·rw[show (e2==0)=false by simpa using he2]at e;simp only[yas,yac]at e;cases e
    exact absurd rfl he2
 cases b with
 |true=>exact key _ e
 |false=>exact key _ e
inductive Aw (c d:Circ) (i:Nat) (x:Item):Prop
 |stay (h0:qed c x=some 0) (h3:x.Custody.State=3) (hd:d=c)
 |move (h0:qed c x=some 0) (kind branch:Int) (hk:kind=6∨kind=2) (u:Custody) (ha:s8 x.Custody ⟨c.Today,x.ID,kind,branch,0⟩=(u,0)) (hl:c.Moves.length<2000) (hd:d=a0e c i x ⟨c.Today,x.ID,kind,branch,0⟩ u)
 |ready (o:Hold) (ho:o∈c.Holds) (hw:a0i x.Record c.Today o=true) (hp:o.Pickup=x.Custody.Branch) (hr:Rdy c d i x o)
 |send (o:Hold) (ho:o∈c.Holds) (hw:a0i x.Record c.Today o=true) (u:Custody) (l:List Hold) (ha:s8 x.Custody ⟨c.Today,x.ID,6,o.Pickup,o.Patron⟩=(u,0)) (hl:c.Moves.length<2000) (hc:a3l c.Holds o.ID x.ID 2 0=(l,0))
  (hd:d=u6 (a0e c i x ⟨c.Today,x.ID,6,o.Pickup,o.Patron⟩ u) l)
def f2t {c d:Circ} (h:MidP c) {i:Nat} {x:Item} (hx:c.Items[i]?=some x) (e:qgl c x.ID=some (d,0)):Aw c d i x:=by
 obtain ⟨v,p1,p2,g1,g2⟩:=d5w h hx;unfold qgl at e;simp -zeta only[a8r h hx,d9,hx,p2,b8o h.short.holds]at e;dsimp only at e;by_cases hv:v=0
 ·subst hv;simp only[yal,yac]at e;have mv:∀kind branch:Int,(kind=6∨kind=2)→(match q8 c x.ID kind branch 0 with|some (r5,r6)=>some (r5,r6)|none=>none)=some (d,0)→Aw c d i x:=by
   intro kind branch hk e;cases hm:q8 c x.ID kind branch 0 with
   |none=>rw[hm]at e;cases e
   |some p=>
    obtain ⟨c2,e2⟩:=p;rw[hm]at e;cases e
    obtain ⟨u,ha,hl,hd,-⟩:=a5e h hx hm;exact .move p1 kind branch hk u ha hl hd
  cases hb:x.Branch==x.Custody.Branch with
  |false=>
   rw[hb]at e;exact mv 6 _ (.inl rfl) e
  |true=>
   rw[hb]at e;simp only[yak,yaa]at e;cases h3:x.Custody.State==3 with
   |true=>
    rw[h3]at e;cases e
    exact .stay p1 (by simpa using h3) rfl
   |false=>
    rw[h3]at e;exact mv 2 _ (.inr rfl) e
 ·obtain ⟨o,ho,hoi,hg,hw⟩:=g2 hv;rw[show (v==0)=false by simpa using hv,hg]at e;simp only[yaa]at e;cases hpk:o.Pickup==x.Custody.Branch with
  |true=>
   rw[hpk]at e;simp only[yac]at e;cases hm:qeb c x.ID o with
   |none=>rw[hm]at e;cases e
   |some p=>
    obtain ⟨c2,e2⟩:=p;rw[hm]at e;cases e
    exact .ready o ho hw (by simpa using hpk) (c7e h hx hm)
  |false=>
   rw[hpk]at e;simp only[yaa]at e;cases hm:q8 c x.ID 6 o.Pickup o.Patron with
   |none=>rw[hm]at e;cases e
   |some p=>
    obtain ⟨c2,e2⟩:=p;rw[hm]at e;dsimp only at e;by_cases he2:e2=0
    ·subst he2;obtain ⟨u,ha,hl,rfl,hm2⟩:=a5e h hx hm;simp only[yal,yak,yaa,d52 hm2.short.holds hm2.sorted]at e;generalize hc:a3l (a0e c i x ⟨c.Today,x.ID,6,o.Pickup,o.Patron⟩ u).Holds v x.ID 2 0=q at e;obtain ⟨l,e3⟩:=q;dsimp only at e;by_cases he3:e3=0
     ·subst he3;simp only[yal,yak,yaa]at e;cases e
      exact .send o ho hw u l ha hl (by rw[hoi];exact hc) rfl
     ·rw[show (e3==0)=false by simpa using he3]at e;simp only[yas,yac]at e;cases e
      exact absurd rfl he3
    ·rw[show (e2==0)=false by simpa using he2]at e;simp only[yas,yac]at e;cases e
     exact absurd rfl he2
end
section
open Go (IntKind)
def a9l {l m:List Hold} (hs:∀i x,l[i]?=some x→w7 l i (λy=>decide (x.ID≤y.ID))=false) {id it st un:Int} (h:a3l l id it st un=(m,0)) :
 ∃o∈l,o.ID=id∧(1≤it∧it≤9999)∧((st=3∧1≤un∧un≤109572)∨(st=2∧un=0))∧(o.State=1∨(o.State=2∧o.Got=it∧st=3))∧(∀p∈l,p.Got=it→p.ID=id)∧m=c7v l o.ID (h3r o it st un):=by
 unfold a3l at h;rcases p7 (λx:Hold=>x.ID==id) l with ⟨h1,h2⟩|⟨i,x,h1,h2,h3,h4⟩
 ·rw[h2]at h;cases h
 ·rw[h4]at h;simp only at h;have hid:x.ID=id:=by simpa using h3
  cases hq:(!(rng 1 9999 it)||!(okS st un)) with
  |true=>rw[hq]at h;cases h
  |false=>
   rw[hq]at h;simp only[yaa]at h;cases hq2:(!(x.State==1)&&((!(x.State==2)||!(x.Got==it))||!(st==3))) with
   |true=>rw[hq2]at h;cases h
   |false=>
    rw[hq2]at h;simp only[yaa]at h;cases hq3:l.any (λo=>o.Got==it&&!(o.ID==id)) with
    |true=>rw[hq3]at h;cases h
    |false=>
     rw[hq3]at h;simp only[yaa,h1,yaB,ya7,and_true]at h;subst h;simp only[yai,yay,a0a]at hq;refine ⟨x,yag h2,hid,hq.1,?_,?_,λp hp e=>?_,?_⟩
     ·have:=hq.2;unfold okS at this;simp only[ybr,yae,ya6,a0a]at this;rcases this with q|q
      ·exact .inl ⟨q.1,q.2.1,q.2.2⟩
      ·exact .inr q
     ·simp only[ya1,yai,yay,ya6]at hq2;rcases hq2 with q|q
      ·exact .inl q
      ·exact .inr ⟨q.1.1,q.1.2,q.2⟩
     ·rw[ybL]at hq3;have:=hq3 p hp;simp only[yae,ya6,yan,ya0,ne_eq,not_and,Decidable.not_not]at this;exact this e
     ·exact (b8e hs h2 (y:=h3r x it st un) rfl).symm
def e4q {o:Hold} (h:t7 o=0) {it st un:Int} (h1:1≤it∧it≤9999) (h2:(st=3∧1≤un∧un≤109572)∨(st=2∧un=0)):t7 (h3r o it st un)=0:=by
 rw[g63]at h ⊢;obtain ⟨⟨a1,a2,a3,a4,a5,a6,a7,a8,a9,a10⟩,b,c,d⟩:=h;have e1:1≤st∧st≤3:=by omega
 have e2:¬st=1:=by omega
 have e3:0≤un∧un≤109572:=by omega
 have e4:0<un↔st=3:=by omega
 exact ⟨⟨a1,a2,a3,a4,a5,a6,.inr h1,e3,a9,a10⟩,e1,⟨λ_=>e2,λ_=>(by have:=h1.1;show 0<it;omega)⟩,e4⟩
def Val.catch {it:Int} {c:Circ} (v:Val it c) {id st un:Int} {l:List Hold} (h:a3l c.Holds id it st un=(l,0)) {x:Item} (hx:x∈c.Items) (hi:x.ID=it) (hr:∀o∈c.Holds,o.ID=id→x.Record=o.Record):Val it (u6 c l):=by
 obtain ⟨o,ho,hid,h1,h2,h3,h4,rfl⟩:=a9l (a0m v.holds) h;refine v.swap ho rfl rfl rfl (e4q (a3c v.holds ho) h1 h2) (λz hz _ e=>(h4 z hz e).trans hid.symm) (.inl (by omega)) (λ_=>⟨rfl,x,hx,hi,hr o ho hid⟩)
def d6p (c:Circ) (it:Int):Prop:=∀n∈c.Loans,n.Item≠it
def e0f (c:Circ) (it:Int):Prop:=∀h∈c.Holds,h.State≠1→h.Got≠it
def e79 {c d:Circ} {i:Nat} {x:Item} {o:Hold} (v:Val x.ID c) (hx:c.Items[i]?=some x) (hl:d6p c x.ID) (ho:o∈c.Holds) (hrec:x.Record=o.Record) (hp:o.Pickup=x.Custody.Branch)
 (hf:∀h∈c.Holds,h.State≠1→h.Got=x.ID→h.ID=o.ID) (r:Rdy c d i x o):Val 0 d:=by
 obtain ⟨u,l,un,ha,hlen,hc,rfl⟩:=r;have v2:=v.move hx rfl ha hlen;have hm:a09 u x∈(a0e c i x ⟨c.Today,x.ID,5,x.Custody.Branch,o.Patron⟩ u).Items:=(a6y v.items hx).2 (.inr rfl);have v3:=v2.catch hc hm rfl (λp hp e=>by rw[a6k v.holds hp ho e];exact hrec);have hu:u=⟨5,x.Custody.Branch,o.Patron,0⟩:=(e09 ha).res;obtain ⟨p,hpm,hid,h1,h2,h3,h4,rfl⟩:=a9l (a0m v.holds) hc;have:=a6k v.holds hpm ho hid;subst this;refine v3.close hm rfl (λn hn e=>absurd e (hl n hn)) (λh=>?_) (λh hh hs1 hg=>?_) (λ_=>⟨h3r p x.ID 3 un,(a5u hpm).2 (.inr rfl),rfl,rfl⟩)
 ·rw[show (a09 u x).Custody=u from rfl,hu]at h;cases h
 ·rw[show (a09 u x).Custody=u from rfl,hu];rcases (a5u hpm).1 hh with ⟨hh,hne⟩|rfl
  ·exact absurd (hf h hh hs1 hg) hne
  ·exact ⟨λ_=>⟨rfl,hp.symm,rfl⟩,λe=>absurd (show (3:Int)=2 from e) (by decide)⟩
def c2l {r t:Int} {o:Hold} (h:a0i r t o=true):o.Record=r∧o.State=1∧o.Asleep≤t:=by
 unfold a0i at h;simp only[yae,ya6,yad]at h;exact ⟨h.1.1,h.1.2,h.2⟩
def i1s {c d:Circ} {i:Nat} {x:Item} (v:Val x.ID c) (hx:c.Items[i]?=some x) (hl:d6p c x.ID) (hf:e0f c x.ID) (r:Aw c d i x):Val 0 d:=by
 have hm0:=yag hx;cases r with
 |stay _ h3 hd=>
  subst hd;refine v.close hm0 rfl (λn hn e=>absurd e (hl n hn)) (λh=>?_) (λh hh hs1 hg=>absurd hg (hf h hh hs1)) (λh=>by omega);unfold a3h at h;rw[h3]at h;cases h
 |move _ kind branch hk u ha hlen hd=>
  subst hd;have v2:=v.move hx rfl ha hlen;have hm:a09 u x∈(a0e c i x ⟨c.Today,x.ID,kind,branch,0⟩ u).Items:=(a6y v.items hx).2 (.inr rfl);have hu:=(e09 ha).res;have hs:u.State=6∨u.State=3:=by
   rcases hk with rfl|rfl
   ·left;rw[hu];rfl
   ·right;rw[hu];rfl
  refine v2.close hm rfl (λn hn e=>absurd e (hl n hn)) (λh=>?_) (λh hh hs1 hg=>absurd hg (hf h hh hs1)) (λh=>?_)
  ·rw[show (a09 u x).Custody=u from rfl,a1r]at h;rcases hs with e|e<;>rw[e]at h<;>cases h
  ·rw[show (a09 u x).Custody=u from rfl]at h;omega
 |ready o ho hw hp hr=>exact e79 v hx hl ho (c2l hw).1.symm hp (λh hh hs1 hg=>absurd hg (hf h hh hs1)) hr
 |send o ho hw u l ha hlen hc hd=>
  subst hd;have v2:=v.move hx rfl ha hlen;have hm:a09 u x∈(a0e c i x ⟨c.Today,x.ID,6,o.Pickup,o.Patron⟩ u).Items:=(a6y v.items hx).2 (.inr rfl);have v3:=v2.catch hc hm rfl (λp hp e=>by rw[a6k v.holds hp ho e];exact (c2l hw).1.symm);have hu:u=⟨6,x.Custody.Branch,o.Patron,o.Pickup⟩:=(e09 ha).res;obtain ⟨p,hpm,hid,h1,h2,h3,h4,rfl⟩:=a9l (a0m v.holds) hc;have:=a6k v.holds hpm ho hid;subst this;refine v3.close hm rfl (λn hn e=>absurd e (hl n hn)) (λh=>?_) (λh hh hs1 hg=>?_) (λh=>?_)
  ·rw[show (a09 u x).Custody=u from rfl,hu]at h;cases h
  ·rw[show (a09 u x).Custody=u from rfl,hu];rcases (a5u hpm).1 hh with ⟨hh,hne⟩|rfl
   ·exact absurd hg (hf h hh hs1)
   ·exact ⟨λe=>absurd (show (2:Int)=3 from e) (by decide),λ_=>⟨rfl,rfl,rfl⟩⟩
  ·rw[show (a09 u x).Custody=u from rfl,hu]at h;cases h
def b2u (c:Circ) (x:Item):Prop:=∀o∈c.Holds,a0i x.Record c.Today o=true→(o.Item==0||o.Item==x.ID)=false
def b4z (b:Int) (v:Bool) (x:Item) (h:Hold) (f:Int):((h.Item==0||h.Item==x.ID)=false∧b7b b v x h f=.inl f)∨((h.Item==0||h.Item==x.ID)=true∧(b7b b v x h f=.inr h.ID∨b7b b v x h f=.inl (bif f==0 then h.ID else f))):=by
 unfold b7b;cases h.Item==0<;>cases h.Item==x.ID<;>cases (!v||h.Pickup==b)<;>simp
def f9j {b:Int} {v:Bool} {x:Item}:∀{q:List Hold} {f:Int},(∀h∈q,h.ID≠0)→f≠0→b41 b v x q f≠0:=by
 intro q
 induction q with
 |nil=>intro f _ hf;exact hf
 |cons h q ih=>
  intro f hq hf;have hq2:=λy hy=>hq y (yaN _ hy)
  unfold b41;rcases b4z b v x h f with ⟨-,e⟩|⟨-,e|e⟩
  ·rw[e];exact ih hq2 hf
  ·rw[e];exact hq h (yaK ..)
  ·rw[e];have h0:(f==0)=false:=by simpa using hf
   rw[h0];exact ih hq2 hf
def d8t {b:Int} {v:Bool} {x:Item}:∀{q:List Hold},(∀h∈q,h.ID≠0)→(b41 b v x q 0=0↔∀h∈q,(h.Item==0||h.Item==x.ID)=false):=by
 intro q
 induction q with
 |nil=>intro _;exact ⟨λ_ h hh=>(by cases hh),λ_=>rfl⟩
 |cons h q ih=>
  intro hq;have hq2:=λy hy=>hq y (yaN _ hy)
  have h1:=hq h (yaK ..);unfold b41;rcases b4z b v x h 0 with ⟨k,e⟩|⟨k,e|e⟩
  ·rw[e];constructor
   ·intro p y hy;rcases yaM.1 hy with rfl|hy
    ·exact k
    ·exact (ih hq2).1 p y hy
   ·intro p;exact (ih hq2).2 (λy hy=>p y (yaN _ hy))
  ·rw[e];constructor
   ·intro p;exact absurd p h1
   ·intro p;have:=p h (yaK ..);rw[k]at this;cases this
  ·rw[e];constructor
   ·intro p;exact absurd p (f9j hq2 h1)
   ·intro p;have:=p h (yaK ..);rw[k]at this;cases this
def d8l {q:List Hold} {o:Hold} (h:o∈q) (hr:rng 0 9 o.Rank=true):o∈o7 q:=by
 rw[a0a]at hr;have k:∀n:Int,o.Rank=n→o∈rk n q:=λn e=>yaD.2 ⟨h,by simpa using e⟩
 have:o.Rank=0∨o.Rank=1∨o.Rank=2∨o.Rank=3∨o.Rank=4∨o.Rank=5∨o.Rank=6∨o.Rank=7∨o.Rank=8∨o.Rank=9:=by omega
 unfold o7;simp only[yat];rcases this with e|e|e|e|e|e|e|e|e|e<;>simp[k _ e]
def e62 {c:Circ} (h:MidP c) (x:Item) (branch:Int):∃v,qbd c.Holds x branch c.Today c.Local=some v∧(v=0↔b2u c x):=by
 refine ⟨_,f9c h x branch,?_⟩;have hm:∀o∈o7 (c.Holds.filter (a0i x.Record c.Today)),o∈c.Holds∧a0i x.Record c.Today o=true:=λo ho=>yaD.1 (a3y ho)
 rw[d8t (λo ho=>(h.rank o (hm o ho).1).2)];constructor
 ·intro p o ho hw;exact p o (d8l (yaD.2 ⟨ho,hw⟩) (h.rank o ho).1)
 ·intro p o ho;exact p o (hm o ho).1 (hm o ho).2
def f9n {c:Circ} (h:MidP c) {x:Item} (e:qed c x=some 0):b2u c x:=by
 obtain ⟨v,hv,hz⟩:=e62 h x x.Custody.Branch;unfold qed at e;rw[hv]at e;cases e
 exact hz.1 rfl
end
section
open Go (IntKind)
def d6q (d c:Circ):Prop:=d.Today=c.Today∧∀o∈d.Holds,o.State=1→o∈c.Holds
def d6q.refl (c:Circ):d6q c c:=⟨rfl,λ_ h _=>h⟩
def d6q.trans {a b c:Circ} (h:d6q a b) (k:d6q b c):d6q a c:=⟨h.1.trans k.1,λo ho hs=>k.2 o (h.2 o ho hs) hs⟩
def b2u.less {c d:Circ} {x y:Item} (h:b2u c x) (l:d6q d c) (e1:y.ID=x.ID) (e2:y.Record=x.Record):b2u d y:=by
 intro o ho hw;rw[l.1,e2]at hw;rw[e1];exact h o (l.2 o ho (c2l hw).2.1) hw
structure Stp (c d:Circ):Prop where
 pats:d.Patrons=c.Patrons
 cals:d.Cals=c.Cals
 rules:d.Rules=c.Rules
 moves:∃m,d.Moves=c.Moves++m
def Stp.refl (c:Circ):Stp c c:=⟨rfl,rfl,rfl,[],by simp⟩
def Stp.trans {a b c:Circ} (h:Stp a b) (k:Stp b c):Stp a c:=by
 obtain ⟨m,e⟩:=h.moves;obtain ⟨n,f⟩:=k.moves;exact ⟨k.pats.trans h.pats,k.cals.trans h.cals,k.rules.trans h.rules,m++n,by rw[f,e,yaX]⟩
def a5d {c:Circ} {i:Nat} {x:Item} {m:Move} {u:Custody}:Stp c (a0e c i x m u):=⟨rfl,rfl,rfl,[m],rfl⟩
def a9y {c:Circ} {l:List Hold}:Stp c (u6 c l):=⟨rfl,rfl,rfl,[],by simp[u6]⟩
def b39 {c:Circ} {l:List Loan}:Stp c (j6 c l):=⟨rfl,rfl,rfl,[],by simp[j6]⟩
def i2e {c:Circ} {l:List Charge} {n:Int}:Stp c (a5k c l n):=⟨rfl,rfl,rfl,[],by simp[a5k]⟩
def f2f (it:Int) (c:Circ):Prop:=∀y∈c.Items,y.ID≠it→y.Custody.State=3→b2u c y
def d1n (c:Circ):Prop:=∀y∈c.Items,y.Custody.State=3→b2u c y
def b0f {c:Circ} (hs:y5 c.Holds=0) {id it st un:Int} {l:List Hold} (h:a3l c.Holds id it st un=(l,0)):d6q (u6 c l) c:=by
 obtain ⟨o,ho,hid,h1,h2,h3,h4,rfl⟩:=a9l (a0m hs) h;refine ⟨rfl,λz hz e=>?_⟩;rcases (a5u ho).1 hz with ⟨hz,_⟩|rfl
 ·exact hz
 ·have e:st=1:=e;omega
structure AwF (c d:Circ) (i:Nat) (x:Item):Prop where
 items:∃u,d.Items=c.Items.set i (a09 u x)∧(u.State=3→qed c x=some 0)
 stp:Stp c d
 less:d6q d c
def f2s {c d:Circ} {i:Nat} {x:Item} (hs:y5 c.Holds=0) (hx:c.Items[i]?=some x) (r:Aw c d i x):AwF c d i x:=by
 cases r with
 |stay h0 h3 hd=>subst hd;exact ⟨⟨x.Custody,(d6h hx).symm,λ_=>h0⟩,.refl _,.refl _⟩
 |move h0 kind branch hk u ha hlen hd=>subst hd;exact ⟨⟨u,rfl,λ_=>h0⟩,a5d,⟨rfl,λo ho _=>ho⟩⟩
 |ready o ho hw hp hr=>
  obtain ⟨u,l,un,ha,hlen,hc,rfl⟩:=hr;have hl:=b0f (c:=a0e c i x ⟨c.Today,x.ID,5,x.Custody.Branch,o.Patron⟩ u) hs hc;refine ⟨⟨u,rfl,λe=>?_⟩,a5d.trans a9y,hl.trans ⟨rfl,λo ho _=>ho⟩⟩;rw[show u=⟨5,x.Custody.Branch,o.Patron,0⟩ from (e09 ha).res]at e;exact absurd (show (5:Int)=3 from e) (by decide)
 |send o ho hw u l ha hlen hc hd=>
  subst hd;have hl:=b0f (c:=a0e c i x ⟨c.Today,x.ID,6,o.Pickup,o.Patron⟩ u) hs hc;refine ⟨⟨u,rfl,λe=>?_⟩,a5d.trans a9y,hl.trans ⟨rfl,λo ho _=>ho⟩⟩;rw[show u=⟨6,x.Custody.Branch,o.Patron,o.Pickup⟩ from (e09 ha).res]at e;exact absurd (show (6:Int)=3 from e) (by decide)
def a82 {c:Circ} (h:a1h c=true) {i:Nat} {x:Item} (hx:c.Items[i]?=some x) {u:Custody} {y:Item}:y∈c.Items.set i (a09 u x)↔(y∈c.Items∧y.ID≠x.ID)∨y=a09 u x:=a6y (m:=⟨0,0,0,0,0⟩) h hx
def g7g {c d:Circ} {i:Nat} {x:Item} (hi:a1h c=true) (m:MidP c) (hx:c.Items[i]?=some x) (f:AwF c d i x) (h:f2f x.ID c):d1n d:=by
 obtain ⟨u,e,hu⟩:=f.items;intro y hy h3;rw[e,a82 hi hx]at hy;rcases hy with ⟨hy,hne⟩|rfl
 ·exact (h y hy hne h3).less f.less rfl rfl
 ·exact (f9n m (hu h3)).less f.less rfl rfl
def Val.lfree {c:Circ} (v:Val 0 c) {x:Item} (hx:x∈c.Items) (h:a3h x.Custody=false):d6p c x.ID:=by
 intro n hn e;obtain ⟨y,hy,hi,hw⟩:=v.loanI n hn;have:=a04 v.items hy hx (hi.trans e);subst this;have:=a4m v.items hy;rw[(hw (by omega)).1]at h;cases h
def Val.hfree {c:Circ} (v:Val 0 c) {x:Item} (hx:x∈c.Items) (h5:x.Custody.State≠5) (h6:x.Custody.State≠6):e0f c x.ID:=by
 intro o ho hs1 e;obtain ⟨y,hy,hi,-,hw⟩:=v.holdI o ho hs1;have:=a04 v.items hy hx (hi.trans e);subst this;have:=a4m v.items hy;have hw:=hw (by omega);rcases (a9w (a3c v.holds ho)).2.2.2.1 with q|q|q
 ·exact hs1 q
 ·exact h6 (hw.2 q).1
 ·exact h5 (hw.1 q).1
def d1n.x {c:Circ} (h:d1n c) (it:Int):f2f it c:=λy hy _ h3=>h y hy h3
end
section
open Go (IntKind)
def h3t {X:Type} {p:X→Bool} {x z:X} {l:List X} (h:z=x∨z∈l):z∈b1i p x l:=by
 cases hf:l.findIdx? p with
 |none=>
  rw[b31 hf];simp only[yat,yba];rcases h with h|h
  ·exact .inr h
  ·exact .inl h
 |some k=>
  rw[(b32 hf).1];simp only[yat,yaM];rcases h with h|h
  ·exact .inr (.inl h)
  ·rw[←ya4 k l,yat]at h;rcases h with h|h
   ·exact .inl h
   ·exact .inr (.inr h)
def h5l {l m:List Loan} {n:Loan} (h:f2d l n=(m,0)):o5 m=0∧(∀z,z∈m↔z=n∨z∈l)∧∀z∈l,z.Item≠n.Item:=by
 unfold f2d at h;rw[c1d]at h;cases ha:l.any (λx=>x.Item==n.Item) with
 |true=>rw[ha]at h;cases h
 |false=>
  rw[ha]at h;simp only[yaa]at h;by_cases he:o5 (b1i (λx=>decide (n.Item<x.Item)) n l)=0
  ·rw[he]at h;cases h
   refine ⟨he,λz=>⟨f59,h3t⟩,λz hz e=>?_⟩;rw[ybL]at ha;exact ha z hz (by simpa using e)
  ·rw[show (o5 (b1i (λx=>decide (n.Item<x.Item)) n l)==0)=false by simpa using he]at h;simp only[yas,yac,ya7]at h;exact absurd h.2 he
def i9j {X:Type} (key:X→Int) {l:List X} (hs:l.Pairwise (λa b=>key a<key b)) {i:Nat} {x:X} (hx:l[i]?=some x):l.take i++l.drop (i+1)=l.filter (λy=>!(key y==key x)):=by
 have hlt:=(yaA.1 hx)
 have e:l=l.take i++x::l.drop (i+1):=by
  rw[←hlt.2,←yby hlt.1,ya4]
 have hs2:=hs;rw[e,List.pairwise_append,List.pairwise_cons]at hs2;obtain ⟨-,⟨h2,-⟩,h3⟩:=hs2;have e1:(l.take i).filter (λy=>!(key y==key x))=l.take i:=List.filter_eq_self.2 (λa ha=>by
  have:=h3 a ha x (yaK ..);have:¬key a=key x:=by omega
  simpa using this)
 have e2:(l.drop (i+1)).filter (λy=>!(key y==key x))=l.drop (i+1):=List.filter_eq_self.2 (λa ha=>by
  have:=h2 a ha;have:¬key a=key x:=by omega
  simpa using this)
 have e3:l.filter (λy=>!(key y==key x))=(l.take i++x::l.drop (i+1)).filter (λy=>!(key y==key x)):=by rw[←e]
 rw[e3,List.filter_append,ybq,e1,e2];simp
def f2v {l m:List Loan} {n:Loan} {item:Int} (hs:o5 l=0) (h:a8u l item=(m,n,0)):n∈l∧n.Item=item∧o5 m=0∧∀z,z∈m↔z∈l∧z.Item≠item:=by
 have hp:=b1j.1 hs;unfold a8u at h;rcases p7 (λx:Loan=>x.Item==item) l with ⟨h1,h2⟩|⟨i,x,h1,h2,h3,h4⟩
 ·rw[h2]at h;cases h
 ·rw[h4,h1]at h;simp only[yaB,ya7,and_true]at h;obtain ⟨e,rfl⟩:=h;have hi:x.Item=item:=by simpa using h3
  rw[i9j (λn:Loan=>n.Item) hp.2.2 h2]at e;have hm:∀z,z∈m↔z∈l∧z.Item≠item:=by
   intro z;rw[←e,yaD,hi];simp
  refine ⟨yag h2,hi,?_,hm⟩;rw[b1j];have:=yaV (λy:Loan=>!(y.Item==x.Item)) l;rw[←e];exact ⟨by omega,λz hz=>hp.2.1 z (yaD.1 hz).1,hp.2.2.filter _⟩
def h9r {X:Type} {l:List X} {i:Nat} {x y:X} (hx:l[i]?=some x) (R:X→X→Prop) (hr:∀z,R z z) (h1:R y x) (h2:R x y):(∀z∈l.set i y,∃w∈l,R z w)∧∀w∈l,∃z∈l.set i y,R w z:=by
 have hlt:=(zL hx)
 refine ⟨λz hz=>?_,λw hw=>?_⟩
 ·rcases List.mem_or_eq_of_mem_set hz with hz|rfl
  ·exact ⟨z,hz,hr z⟩
  ·exact ⟨x,yag hx,h1⟩
 ·obtain ⟨j,hj⟩:=yaw hw;by_cases e:j=i
  ·subst e;rw[hx]at hj;cases hj
   exact ⟨y,yag (ybx hlt),h2⟩
  ·exact ⟨w,yag (by rw[List.getElem?_set_ne (λq=>e q.symm)];exact hj),hr w⟩
def e0i (a b:Loan):Prop:=a.Item=b.Item∧a.Patron=b.Patron
def e8d {l m:List Loan} {item due:Int} (h:a7x l item due=(m,0)):o5 m=0∧(∀z∈m,∃w∈l,e0i z w)∧∀w∈l,∃z∈m,e0i w z:=by
 unfold a7x at h;rcases p7 (λx:Loan=>x.Item==item) l with ⟨h1,h2⟩|⟨i,x,h1,h2,h3,h4⟩
 ·rw[h2]at h;cases h
 ·rw[h4,h1]at h;simp only[yaB]at h;cases hr:x.Recalled with
  |true=>rw[hr]at h;cases h
  |false=>
   rw[hr]at h;simp only[yaa]at h;unfold i6z at h;by_cases he:o5 (l.set i ⟨x.Item,x.Patron,x.Out,due,wr .i64 (x.Renewals+1),false⟩)=0
   ·rw[he]at h;cases h
    have:=h9r h2 e0i (λz=>⟨rfl,rfl⟩) (y:=⟨x.Item,x.Patron,x.Out,due,wr .i64 (x.Renewals+1),false⟩) ⟨rfl,rfl⟩ ⟨rfl,rfl⟩;exact ⟨he,this⟩
   ·rw[show (o5 (l.set i ⟨x.Item,x.Patron,x.Out,due,wr .i64 (x.Renewals+1),false⟩)==0)=false by simpa using he]at h;simp only[yas,yac,ya7]at h;exact absurd h.2 he
def b6y {l:List Charge} (h:p8 l=0) (p:Charge→Bool):p8 (l.filter p)=0:=by
 rw[c0g]at h ⊢;have:=yaV p l;exact ⟨by omega,λx hx=>h.2.1 x (yaD.1 hx).1,h.2.2.filter p⟩
end
section
open Go (IntKind)
def i7u {f:Int} {X:Option (Circ×Int)} {d:Circ} (e:(bif !(f==0) then some (z8,f) else X)=some (d,0)):f=0∧X=some (d,0):=by
 by_cases hf:f=0
 ·subst hf;exact ⟨rfl,e⟩
 ·rw[show (f==0)=false by simpa using hf]at e;cases e
  exact absurd rfl hf
def d61 {f:Int} {X:Option (Circ×Int×Int)} {d:Circ} {n:Int} (e:(bif !(f==0) then some (z8,0,f) else X)=some (d,n,0)):f=0∧X=some (d,n,0):=by
 by_cases hf:f=0
 ·subst hf;exact ⟨rfl,e⟩
 ·rw[show (f==0)=false by simpa using hf]at e;cases e
  exact absurd rfl hf
structure Res (c d:Circ):Prop where
 val:Val 0 d
 stp:Stp c d
 idle:d1n c→d1n d
def c9y {c d:Circ} (h:MidP c) {i:Nat} {x:Item} (hx:c.Items[i]?=some x) {kind branch who:Int} (e:q8 c x.ID kind branch who=some (d,0)):x.Custody.State∈d0h kind:=by
 obtain ⟨u,ha,-⟩:=a5e h hx e;exact f2n (e09 ha).allow
def f9e {x:Item} (h:x.Custody.State≠4) (h2:x.Custody.State≠9) (h3:x.Custody.State≠10):a3h x.Custody=false:=by
 rw[a1r];simp[h,h2,h3]
def e6i {c:Circ} (v:Val 0 c) {l:List Loan} (h:o5 l=0∧(∀z∈l,∃w∈c.Loans,e0i z w)∧∀w∈c.Loans,∃z∈l,e0i w z):Res c (j6 c l):=by
 refine ⟨v.setLoans h.1 (λn hn=>?_) (λn hn _=>?_),b39,λk=>k⟩
 ·obtain ⟨w,hw,e1,e2⟩:=h.2.1 n hn;exact ⟨by rw[e2];exact v.loanP w hw,.inl ⟨w,hw,e1.symm,e2.symm⟩⟩
 ·obtain ⟨z,hz,e1,e2⟩:=h.2.2 n hn;exact ⟨z,hz,e1.symm⟩
def e8e {c d:Circ} {n:Int} (v:Val 0 c) (m:MidP c) {item:Int} (e:qb1 c item=some (d,n,0)):Res c d:=by
 unfold qb1 at e;rw[e7o m.short.loans]at e;generalize a3u c.Loans item=q at e;obtain ⟨n0,ok⟩:=q;dsimp only at e;cases ok with
 |false=>cases e
 |true=>
  simp only[yak,yaa]at e;rcases a79 m item with ⟨-,h2,-⟩|⟨i,x,-,h2,hx,hid,-⟩
  ·rw[h2]at e;cases e
  ·rw[h2]at e;simp only[d9,hx]at e;cases h4:!(x.Custody.State==4) with
   |true=>rw[h4]at e;cases e
   |false=>
    rw[h4]at e;simp only[yaa]at e;cases hb:qeq c n0.Patron with
    |none=>rw[hb]at e;cases e
    |some b=>
     rw[hb]at e;cases b with
     |true=>cases e
     |false=>
      dsimp only at e;simp only[yaa]at e;rw[show c6 a60 (item,0,c,ZN,n0,x,())=_ from b5h m.short]at e;cases hw:a6c c x with
      |true=>rw[hw]at e;cases e
      |false=>
       rw[hw]at e;dsimp only[cond_false]at e;cases hr:qdd c n0.Patron x with
       |none=>rw[hr]at e;cases e
       |some rb=>
        obtain ⟨r,b⟩:=rb;rw[hr]at e;cases b with
        |false=>cases e
        |true=>
         dsimp only at e;simp only[yak,yaa,a5v m.short.patrons]at e;cases hc:qm c x.Custody.Branch with
         |none=>rw[hc]at e;cases e
         |some cal=>
          rw[hc]at e;dsimp only at e;rcases q1:qf2 r cal n0 c.Today (a3g c.Patrons n0.Patron).1.Until with _|⟨due,f⟩
          ·rw[q1]at e;cases e
          rw[q1]at e;dsimp only at e;have hz:=d61 e;clear e;obtain ⟨rfl,e⟩:=hz;rw[g5v m.short.loans]at e;rcases q2:a7x c.Loans item due with ⟨l,f⟩;rw[q2]at e;dsimp only at e;have hz:=d61 e;clear e;obtain ⟨rfl,e⟩:=hz;cases e
          exact e6i v (e8d q2)
end
section
open Go (IntKind)
def d8s {u:Custody} (h:u.State=4∨u.State=9∨u.State=10):a3h u=true:=by
 rw[a1r];rcases h with h|h|h<;>simp[h]
def Res.trans {a b c:Circ} (h:Res a b) (k:Res b c):Res a c:=⟨k.val,h.stp.trans k.stp,λq=>k.idle (h.idle q)⟩
def c8n {c d:Circ} {it:Int} (v:Val it c) (m:MidP c) {p item kind amount:Int} (hp:(a3g c.Patrons p).2=true) (e:qgf c p item kind amount=some (d,0)):Val it d∧MidP d∧∃ch nc,d=a5k c ch nc:=by
 obtain ⟨hd,he,hn⟩:=(b7o m p item kind amount).b e;have hv:=b0y v.nums;rw[a0l (by omega) (by omega)]at hd;subst hd;refine ⟨v.setCharges he ⟨by omega,by omega⟩ (λx hx=>?_),d2h m (b3h he) _,_,_,rfl⟩;rcases yat.1 hx with hx|hx
 ·have:=c3r (v.chG x hx);exact ⟨this.1,by omega⟩
 ·have:x=⟨c.NextCharge,p,item,c.Today,kind,amount,0⟩:=by simpa using hx
  subst this;exact ⟨hp,by show c.NextCharge<c.NextCharge+1;omega⟩
def e4p {l:List Hold} (h:y5 l=0) {o p:Hold} (ho:o∈l) (hp:p∈l) (hg:0<o.Got) (e:o.Got=p.Got):o=p:=by
 obtain ⟨i,hi⟩:=yaw ho;obtain ⟨j,hj⟩:=yaw hp;have h4:=(b1h.1 h).2.2;rw[ya2]at h4;obtain ⟨hil,rfl⟩:=yaA.1 hi;obtain ⟨hjl,rfl⟩:=yaA.1 hj;rcases ycc i j with q|q|q
 ·have:=h4 i j hil hjl q;unfold a0w at this;simp only[yai,ya1,yaf,ya0,ne_eq]at this;rcases this.2 with w|w
  ·omega
  ·exact absurd e.symm w
 ·subst q;rfl
 ·have:=h4 j i hjl hil q;unfold a0w at this;simp only[yai,ya1,yaf,ya0,ne_eq]at this;rcases this.2 with w|w
  ·omega
  ·exact absurd e w
end
section
open Go (IntKind)
def e6x:∀{A B:List Int},A.Nodup→(∀a∈A,a∈B)→A.length≤B.length:=by
 intro A
 induction A with
 |nil=>intro B _ _;simp
 |cons a A ih=>
  intro B hn hs;rw[List.nodup_cons]at hn;have ha:=hs a (yaK ..);have:=ih (B:=B.erase a) hn.2 (λb hb=>by
   have h1:b≠a:=λe=>hn.1 (e▸hb)
   exact (List.mem_erase_of_ne h1).2 (hs b (yaN _ hb)))
  rw[List.length_erase_of_mem ha]at this;have hp:=List.length_pos_of_mem ha;simp only[yaQ];omega
def f1t {c:Circ} {it:Int} (v:Val it c) (r:Int):(c.Holds.filter (λo=>o.Record==r)).length≤c.Patrons.length:=by
 have hp:=(b1h.1 v.holds).2.2;have h1:((c.Holds.filter (λo=>o.Record==r)).map (λo=>o.Patron)).Nodup:=by
  rw[List.nodup_iff_pairwise_ne,List.pairwise_map];refine (hp.filter _).imp_of_mem (λ{a b} ha hb q=>?_);have ha:=(yaD.1 ha).2;have hb:=(yaD.1 hb).2;simp only[ya6]at ha hb;unfold a0w at q;simp only[yai,ya1,ya0,ne_eq]at q;rcases q.1 with w|w
  ·exact λe=>w e.symm
  ·exact absurd (hb.trans ha.symm) w
 have h2:=e6x h1 (B:=c.Patrons.map (λp=>p.ID)) (λa ha=>by
  obtain ⟨o,ho,rfl⟩:=ybe.1 ha;have:=(v.holdP o (yaD.1 ho).1).1;unfold a3g at this;cases hq:c.Patrons.find? (λp=>p.ID==o.Patron) with
  |none=>rw[hq]at this;cases this
  |some p=>exact ybe.2 ⟨p,yaW hq,by have:=ybs hq;simpa using this⟩)
 rw[ybm,ybm]at h2;exact h2
def b35 {c:Circ} (h:a1h c=true):c.Items.length≤64∧c.Moves.length≤2000:=by
 unfold a1h at h;simp only[yae,yan,yai,yaf]at h;omega
structure Inv (c:Circ):Prop where
 val:Val 0 c
 short:Short c
 pats:c.Patrons.length≤32
def i3x {c d:Circ} (s:Short c) (hp:c.Patrons.length≤32) (v:Val 0 d) (t:Stp c d):Inv d:=by
 obtain ⟨a1,a2,a3,a4,a5,a6,a7,a8,a9,a10,a11,a12,a13⟩:=s;have h1:=b35 v.items;have h2:=(b1j.1 v.loans).1;have h3:=(b1h.1 v.holds).1;have h4:=(c0g.1 v.charges).1;refine ⟨v,⟨by omega,by rw[t.pats];exact a2,by omega,by omega,by omega,by rw[t.rules];exact a6,by omega,λx hx=>by have:=(a4m v.items hx).2.2.2.2;omega,by rw[t.pats];exact a9,by rw[t.cals];exact a10,by rw[t.cals];exact a11,by rw[t.cals];exact a12,by rw[t.cals];exact a13⟩,by rw[t.pats];exact hp⟩
def Inv.fit {c:Circ} (h:Inv c):FitP c:=i82 (f1u h.val)
def Inv.mid {c:Circ} (h:Inv c):MidP c:=by
 have f:=h.fit;have h1:=b35 h.val.items;have h2:=(b1h.1 h.val.holds).1;have h4:=(c0g.1 h.val.charges).1;exact ⟨h.short,by omega,by omega,a0m f.holds,λo ho=>a6j f ho,λr=>by have:=f1t h.val r;have:=h.pats;omega,a8v f,λr hr=>c2c f hr,λx hx=>b0p f hx,b0r h.val.items,by omega⟩
def Inv.w {c:Circ} (h:Inv c):MidW c:=by
 have h1:=b35 h.val.items;have h2:=(b1j.1 h.val.loans).1;have h3:=(b1h.1 h.val.holds).1;exact ⟨h.short,by omega,by omega,by omega,λr=>by have:=f1t h.val r;have:=h.pats;omega⟩
def Inv.of {c d:Circ} (h:Inv c) (v:Val 0 d) (t:Stp c d):Inv d:=i3x h.short h.pats v t
def c9e {c:Circ} (p:Hold→Bool):d6q (u6 c (c.Holds.filter p)) c:=⟨rfl,λo ho _=>(yaD.1 ho).1⟩
def d1n.less {c d:Circ} (h:d1n c) (hi:d.Items=c.Items) (l:d6q d c):d1n d:=λy hy h3=>(h y (by rw[←hi];exact hy) h3).less l rfl rfl
end
section
open Go (IntKind)
def c1w {c:Circ} (s:Short c) {item patron branch due:Int} (e:qfu c item patron branch=some (due,0)):(a3g c.Patrons patron).2=true:=by
 unfold qfu at e;rw[a5v s.patrons,c2b s.items]at e;dsimp only at e;cases hg:(a3g c.Patrons patron).2 with
 |true=>rfl
 |false=>
  rw[hg]at e;cases hq:decide (a68 (λx=>x.ID==item) c.Items<0)<;>rw[hq]at e<;>cases e
def b3c {c:Circ} {item:Int} (h:(s7 c item).2=false):∀o∈c.Holds,o.Got≠item:=by
 intro o ho e;unfold s7 at h;cases hq:c.Holds.find? (λh=>h.Got==item) with
 |none=>exact absurd (ybF.1 hq o ho) (by simpa using e)
 |some p=>rw[hq]at h;cases h
def f6e {c d:Circ} {n:Int} (I:Inv c) {item patron branch:Int} (e:qb9 c item patron branch=some (d,n,0)):Res c d:=by
 have v:=I.val;have m:=I.mid;have hlp:=(b1j.1 v.loans).1;have hhp:=(b1h.1 v.holds).1;unfold qb9 at e;rcases e0:qfu c item patron branch with _|⟨due,f⟩
 ·rw[e0]at e;cases e
 rw[e0]at e;dsimp only at e;have hz:=d61 e;clear e;obtain ⟨rfl,e⟩:=hz;have hk:=c1w m.short e0;rcases a79 m item with ⟨-,h2,-⟩|⟨i,x,-,h2,hx,rfl,-⟩
 ·rw[h2]at e;cases e
 rw[h2]at e;simp only[d9,hx]at e;rcases e1:q8 c x.ID 3 branch patron with _|⟨c1,f⟩
 ·rw[e1]at e;cases e
 rw[e1]at e;dsimp only at e;have hz:=d61 e;clear e;obtain ⟨rfl,e⟩:=hz;have hm0:=yag hx;have hid:=a4m v.items hm0;have hst:x.Custody.State∈([3,5]:List Int):=c9y m hx e1;have hst:x.Custody.State=3∨x.Custody.State=5:=by simpa using hst
 obtain ⟨u,ha,hlen,hc1,m1⟩:=a5e m hx e1;have hu:u.State=4∧u.Who=patron:=by rw[(e09 ha).res];exact ⟨rfl,rfl⟩
 have v1:=(v.weak x.ID).move hx rfl ha hlen;have hlf:=v.lfree hm0 (f9e (by omega) (by omega) (by omega));have hm1:a09 u x∈(a0e c i x ⟨c.Today,x.ID,3,branch,patron⟩ u).Items:=(a6y v.items hx).2 (.inr rfl);have st1:Stp c (a0e c i x ⟨c.Today,x.ID,3,branch,patron⟩ u):=a5d;have hidle:d1n c→d1n (a0e c i x ⟨c.Today,x.ID,3,branch,patron⟩ u):=λh y hy h3=>by
  rcases (a6y v.items hx).1 hy with ⟨hy,_⟩|rfl
  ·exact h y hy h3
  ·rw[show (a09 u x).Custody=u from rfl]at h3;omega
 rw[←hc1]at v1 hm1 st1 hidle;have hL:c1.Loans=c.Loans:=by rw[hc1];rfl
 have hH:c1.Holds=c.Holds:=by rw[hc1];rfl
 have hP:c1.Patrons=c.Patrons:=by rw[hc1];rfl
 clear hc1;rw[g5c (by rw[hL];omega)]at e;dsimp only at e;rcases hout:f2d c1.Loans ⟨x.ID,patron,c1.Today,due,0,false⟩ with ⟨l,f⟩;rw[hout]at e;dsimp only at e;have hz:=d61 e;clear e;obtain ⟨rfl,e⟩:=hz;obtain ⟨o1,o2,o3⟩:=h5l hout;have v2:=v1.setLoans (l:=l) o1 (λz hz=>by
  rcases (o2 z).1 hz with rfl|hz
  ·exact ⟨by rw[hP];exact hk,.inr ⟨rfl,a09 u x,hm1,rfl⟩⟩
  ·exact ⟨v1.loanP z hz,.inl ⟨z,hz,rfl,rfl⟩⟩) (λz hz _=>⟨z,(o2 z).2 (.inr hz),rfl⟩)
 have hc2:{c1 with Loans:=l}=j6 c1 l:=rfl;simp only[hc2]at e;have hH2:(j6 c1 l).Holds=c.Holds:=hH;have hI2:(j6 c1 l).Items=c1.Items:=rfl;have hL2:(j6 c1 l).Loans=l:=rfl;have st2:Stp c (j6 c1 l):=st1.trans b39;have hid2:d1n c→d1n (j6 c1 l):=hidle;generalize j6 c1 l=c2 at e v2 hH2 hI2 hL2 st2 hid2;have fin:∀d:Circ,d.Items=c1.Items→d.Loans=l→Val x.ID d→e0f d x.ID→Stp c2 d→d6q d c2→Res c d:=by
  intro d qI qL vd hf st hless;refine ⟨vd.close (x:=a09 u x) (by rw[qI];exact hm1) rfl (λz hz hzi=>?_) (λ_=>⟨⟨x.ID,patron,c1.Today,due,0,false⟩,by rw[qL];exact (o2 _).2 (.inl rfl),rfl⟩) (λh hh hs1 hg=>absurd hg (hf h hh hs1)) (λh=>?_),st2.trans st,λh=>(hid2 h).less (qI.trans hI2.symm) hless⟩
  ·rw[qL]at hz;rcases (o2 z).1 hz with rfl|hz
   ·exact ⟨d8s (u:=u) (.inl hu.1),hu.2⟩
   ·exact absurd hzi (hlf z (by rw[←hL];exact hz))
  ·rw[show (a09 u x).Custody=u from rfl]at h;omega
 have hs2:c2.Holds.length<1000000:=by rw[hH2];omega
 rw[b5d (by omega)]at e;dsimp only at e;have cut:∀o∈c2.Holds,(o.State≠3∨o.Got=x.ID)→(∀p∈c2.Holds,p.State≠1→p.Got=x.ID→p.ID=o.ID)→(match qbn c2.Holds o.ID with
  |some (r23,r24,r25)=>bif !(r25==0) then some (z8,0,r25) else some (u6 c2 r23,due,0)
  |none=>none)=some (d,n,0)→Res c d:=by
  intro o ho hoq hall e;rw[g5b (by omega),c8m (a0m v2.holds) ho]at e;dsimp only at e;simp only[yal,yak,yaa]at e;cases e
  refine fin _ hI2 hL2 (v2.remove ho hoq) (λp hp hs1 hpg=>?_) a9y (c9e _);have hp2:=yaD.1 hp;have:=hall p hp2.1 hs1 hpg;have q:=hp2.2;rw[this]at q;simp at q
 cases hcg:(s7 c2 x.ID).2 with
 |true=>
  have hcm:=a5p hcg;rw[hcg]at e;have hw:c6 a2g (patron,due,true,0,c2,z8,x,(s7 c2 x.ID).1,())=some (due,true,c2,z8,(s7 c2 x.ID).1,()):=by
   refine o8 1 (by rw[o4];omega) ?_;simp only[o9,a2g];cases decide ((0:Int)<(c2.Holds.length:Int))<;>rfl
  rw[show c6 a2g (patron,due,true,0,c2,ZN,x,(s7 c2 x.ID).1,())=_ from hw]at e;dsimp only at e;simp only[yac]at e;exact cut _ hcm.1 (.inr hcm.2) (λp hp hs1 hpg=>by rw[e4p v2.holds hcm.1 hp (by rw[hcm.2];omega) (hcm.2.trans hpg.symm)]) e
 |false=>
  have hno:=b3c hcg;rw[hcg]at e;have hw:=b5m (c:=c2) (v:=z8) (patron:=patron) (due:=due) (x:=x) hs2 c2.Holds.length 0 (s7 c2 x.ID).1 (by omega);have hw2:c6 a2g (patron,due,false,0,c2,z8,x,(s7 c2 x.ID).1,())=_:=o8 (c2.Holds.length+2) (by rw[o4];omega) hw;rw[ybX]at hw2;rw[show c6 a2g (patron,due,false,0,c2,ZN,x,(s7 c2 x.ID).1,())=_ from hw2]at e;dsimp only at e;unfold c9s at e;cases hf:c2.Holds.find? (b38 patron x) with
  |none=>
   rw[hf]at e;dsimp only at e;simp only[yaa]at e;have hcc:u6 c2 c2.Holds=c2:=rfl;have e:some (u6 c2 c2.Holds,due,(0:Int))=some (d,n,0):=e;rw[hcc]at e;cases e
   exact fin _ hI2 hL2 v2 (λp hp _ hpg=>hno p hp hpg) (.refl _) (.refl _)
  |some o=>
   rw[hf]at e;dsimp only at e;simp only[yac]at e;have hoq:=ybs hf;unfold b38 at hoq;simp only[yae,ya6]at hoq;exact cut _ (yaW hf) (.inl (by omega)) (λp hp _ hpg=>absurd hpg (hno p hp)) e
structure Ret (c d:Circ) (i:Nat) (x:Item) (branch:Int):Prop where
 val:Val x.ID d
 mid:MidP d
 items:d.Items=c.Items.set i (a09 ⟨2,branch,0,0⟩ x)
 free:d6p d x.ID
 holds:d.Holds=c.Holds
 today:d.Today=c.Today
 stp:Stp c d
def c7l {c d:Circ} (I:Inv c) {i:Nat} {x:Item} (hx:c.Items[i]?=some x) {branch:Int} (e:qgd c x.ID branch=some (d,0)):Ret c d i x branch:=by
 have v:=I.val;have m:=I.mid;have hlp:=(b1j.1 v.loans).1;unfold qgd at e;rcases e1:q8 c x.ID 4 branch 0 with _|⟨c1,f⟩
 ·rw[e1]at e;cases e
 rw[e1]at e;dsimp only at e;have hz:=i7u e;clear e;obtain ⟨rfl,e⟩:=hz;obtain ⟨u,ha,hlen,hc1,m1⟩:=a5e m hx e1;have hu:u=⟨2,branch,0,0⟩:=(e09 ha).res;subst hu;have v1:=(v.weak x.ID).move hx rfl ha hlen;have st1:Stp c (a0e c i x ⟨c.Today,x.ID,4,branch,0⟩ ⟨2,branch,0,0⟩):=a5d;have hx1:=a8d hx ⟨c.Today,x.ID,4,branch,0⟩ ⟨2,branch,0,0⟩;rw[←hc1]at v1 st1 hx1;have hL:c1.Loans=c.Loans:=by rw[hc1];rfl
 have hH:c1.Holds=c.Holds:=by rw[hc1];rfl
 have hI:c1.Items=c.Items.set i (a09 ⟨2,branch,0,0⟩ x):=by rw[hc1];rfl
 have hT:c1.Today=c.Today:=by rw[hc1];rfl
 clear hc1;rw[g52 (by rw[hL];omega)]at e;rcases hb:a8u c1.Loans x.ID with ⟨l,n,f⟩;rw[hb]at e;dsimp only at e;have hz:=i7u e;clear e;obtain ⟨rfl,e⟩:=hz;obtain ⟨b1,b2,b3,b4⟩:=f2v v1.loans hb;have v2:=v1.setLoans b3 (λz hz=>⟨v1.loanP z ((b4 z).1 hz).1,.inl ⟨z,((b4 z).1 hz).1,rfl,rfl⟩⟩) (λz hz hne=>⟨z,(b4 z).2 ⟨hz,hne⟩,rfl⟩);have m2:=c4z m1 (l:=l) (by have:=(b1j.1 b3).1;omega);have hat:=a8r (c:=j6 c1 l) (x:=a09 ⟨2,branch,0,0⟩ x) m2 hx1;have hc2:{c1 with Loans:=l}=j6 c1 l:=rfl;simp -zeta only[hc2]at e;rw[show qn (j6 c1 l) x.ID=_ from hat]at e;simp -zeta only[d9,hx1]at e;have hpn:(a3g (j6 c1 l).Patrons n.Patron).2=true:=v1.loanP n b1;have hfr:d6p (j6 c1 l) x.ID:=λz hz=>((b4 z).1 hz).2
 have hI2:(j6 c1 l).Items=c1.Items:=rfl;have hH2:(j6 c1 l).Holds=c1.Holds:=rfl;have hT2:(j6 c1 l).Today=c1.Today:=rfl;have st2:Stp c (j6 c1 l):=st1.trans b39;have rf:∀c3:Circ,Val x.ID c3→MidP c3→(∃ch nc,c3=a5k (j6 c1 l) ch nc)→(match qbz c3.Charges n.Patron x.ID 2 with
  |some (r21,r22)=>some ({c3 with Charges:=r21},(0:Int))
  |none=>none)=some (d,0)→Ret c d i x branch:=by
  intro c3 v3 m3 h3 e;obtain ⟨w,hw⟩:=g5d (p:=n.Patron) (item:=x.ID) (kind:=2) m3.chN;rw[hw]at e;cases e
  have hfl:=yaV (λy=>!(b56 n.Patron x.ID 2 y)) c3.Charges;have hch:=m3.chN;have v4:=v3.setCharges (b6y v3.charges (λy=>!(b56 n.Patron x.ID 2 y))) ⟨Int.le_refl _,(b0y v3.nums).2.2.2⟩ (λy hy=>c3r (v3.chG y (yaD.1 hy).1));have m4:=d2h m3 (l:=c3.Charges.filter (λy=>!(b56 n.Patron x.ID 2 y))) (by omega) c3.NextCharge;obtain ⟨ch,nc,rfl⟩:=h3;exact ⟨v4,m4,hI2.trans hI,hfr,hH2.trans hH,hT2.trans hT,st2.trans (i2e (l:=(a5k (j6 c1 l) ch nc).Charges.filter (λy=>!(b56 n.Patron x.ID 2 y))) (n:=nc))⟩
 have core:∀fine:Int,(bif decide (0<fine) then (match qgf (j6 c1 l) n.Patron x.ID 1 fine with
  |some (r17,r18)=>bif !(r18==0) then some (z8,r18) else (match qbz r17.Charges n.Patron x.ID 2 with
   |some (r21,r22)=>some ({r17 with Charges:=r21},(0:Int))
   |none=>none)
  |none=>none)
  else (match qbz (j6 c1 l).Charges n.Patron x.ID 2 with
   |some (r21,r22)=>some ((⟨(j6 c1 l).Today,(j6 c1 l).Items,(j6 c1 l).Patrons,(j6 c1 l).Loans,(j6 c1 l).Holds,r21,(j6 c1 l).Rules,(j6 c1 l).Cals,(j6 c1 l).Moves,(j6 c1 l).NextHold,(j6 c1 l).NextCharge,(j6 c1 l).Local⟩:Circ),(0:Int))
   |none=>none))=some (d,0)→Ret c d i x branch:=by
  intro fine e;cases hf:decide (0<fine) with
  |false=>
   rw[hf]at e;exact rf (j6 c1 l) v2 m2 ⟨(j6 c1 l).Charges,(j6 c1 l).NextCharge,rfl⟩ e
  |true=>
   rw[hf]at e;simp only[yac]at e;rcases e3:qgf (j6 c1 l) n.Patron x.ID 1 fine with _|⟨c3,f⟩
   ·rw[e3]at e;cases e
   rw[e3]at e;dsimp only at e;have hz:=i7u e;clear e;obtain ⟨rfl,e⟩:=hz;obtain ⟨v3,m3,h3⟩:=c8n v2 m2 hpn e3;exact rf c3 v3 m3 h3 e
 cases hr:qdd (j6 c1 l) n.Patron (a09 ⟨2,branch,0,0⟩ x) with
 |none=>rw[hr]at e;cases e
 |some rb=>
  obtain ⟨r,b⟩:=rb;rw[hr]at e;cases b with
  |false=>exact core 0 e
  |true=>
   dsimp only at e;simp only[yac]at e;cases hcal:qm (j6 c1 l) branch with
   |none=>rw[hcal]at e;cases e
   |some cal=>
    rw[hcal]at e;dsimp only at e;cases hlate:qgo r cal n.Due c1.Today with
    |none=>rw[hlate]at e;cases e
    |some fine=>
     rw[hlate]at e;exact core fine e
def d6d {c c1 d:Circ} {n:Int} {i:Nat} {x x1:Item} (v1:Val x.ID c1) (m1:MidP c1) (hx:c1.Items[i]?=some x1) (hxi:x1.ID=x.ID) (hf:d6p c1 x.ID) (st:Stp c c1) (hi:d1n c→f2f x.ID c1)
 (hcase:e0f c1 x.ID∨∀o∈c1.Holds,o.State≠1→o.Got=x.ID→o.State=2∧x1.Record=o.Record∧o.Pickup=x1.Custody.Branch) (e:e8b x.ID 0 c1=some (d,n,0)):Res c d:=by
 rw[←hxi]at v1 hf hi hcase e;unfold e8b at e;simp only[yal,yak,yaa]at e;rw[b5d m1.short.holds]at e;dsimp only at e;have fin:∀{o:Option (Circ×Int)},(match o with
  |some (d,f)=>(bif !(f==0) then some (z8,0,f) else match qat d x1.ID with
   |some (r,_)=>some (d,r.ID,0)
   |none=>none)
  |none=>none)=some (d,n,0)→o=some (d,0):=by
  intro o e;cases o with
  |none=>cases e
  |some p=>
   obtain ⟨d2,f⟩:=p;dsimp only at e;have hz:=d61 e;clear e;obtain ⟨rfl,e⟩:=hz;cases hc:qat d2 x1.ID with
   |none=>rw[hc]at e;cases e
   |some q=>rw[hc]at e;cases e;rfl
 cases hc:(s7 c1 x1.ID).2 with
 |false=>
  rw[hc]at e;have e2:qgl c1 x1.ID=some (d,0):=fin e;have hno:=b3c hc;have r:=f2t m1 hx e2;have f:=f2s v1.holds hx r;exact ⟨i1s v1 hx hf (λo ho _=>hno o ho) r,st.trans f.stp,λh=>g7g v1.items m1 hx f (hi h)⟩
 |true=>
  have hcm:=a5p hc;rw[hc]at e;have e2:qeb c1 x1.ID (s7 c1 x1.ID).1=some (d,0):=fin e;have r:=c7e m1 hx e2;have hx1:=a4m v1.items (yag hx);have ho1:(s7 c1 x1.ID).1.State≠1:=λq=>by
   have:=(a9w (a3c v1.holds hcm.1)).2.2.2.2.1 q;rw[hcm.2]at this;omega
  rcases hcase with hcase|hcase
  ·exact absurd hcm.2 (hcase _ hcm.1 ho1)
  ·obtain ⟨h2,hrec,hpk⟩:=hcase _ hcm.1 ho1 hcm.2;have v3:=e79 v1 hx hf hcm.1 hrec hpk (λp hp _ hpg=>by rw[e4p v1.holds hcm.1 hp (by rw[hcm.2];omega) (hcm.2.trans hpg.symm)]) r;obtain ⟨u,l,un,ha,hlen,hcc,rfl⟩:=r;have hl:=b0f (c:=a0e c1 i x1 ⟨c1.Today,x1.ID,5,x1.Custody.Branch,(s7 c1 x1.ID).1.Patron⟩ u) v1.holds hcc;refine ⟨v3,st.trans (a5d.trans a9y),λh y hy h3=>?_⟩;have hl2:d6q (u6 (a0e c1 i x1 ⟨c1.Today,x1.ID,5,x1.Custody.Branch,(s7 c1 x1.ID).1.Patron⟩ u) l) c1:=hl.trans ⟨rfl,λo ho _=>ho⟩;have hy:y∈c1.Items.set i (a09 u x1):=hy;rcases (a82 v1.items hx).1 hy with ⟨hy,hne⟩|rfl
   ·exact (hi h y hy hne h3).less hl2 rfl rfl
   ·rw[show (a09 u x1).Custody=u from rfl,show u=⟨5,x1.Custody.Branch,(s7 c1 x1.ID).1.Patron,0⟩ from (e09 ha).res]at h3;exact absurd (show (5:Int)=3 from h3) (by decide)
def d15 {c d:Circ} {n:Int} (I:Inv c) {item branch:Int} (e:qf4 c item branch=some (d,n,0)):Res c d:=by
 have v:=I.val;have m:=I.mid;rcases a79 m item with ⟨-,h2,-⟩|⟨i,x,-,h2,hx,rfl,-⟩
 ·unfold qf4 at e;rw[h2]at e;cases e
 rw[g5x m.short h2 hx]at e;have hm0:=yag hx;have hid:=a4m v.items hm0;have idl:∀c1:Circ,∀u,c1.Items=c.Items.set i (a09 u x)→c1.Holds=c.Holds→c1.Today=c.Today→d1n c→f2f x.ID c1:=by
  intro c1 u hI hH hT h y hy hne h3;rw[hI,a82 v.items hx]at hy;rcases hy with ⟨hy,_⟩|rfl
  ·exact (h y hy h3).less ⟨hT,λo ho _=>by rw[hH]at ho;exact ho⟩ rfl rfl
  ·exact absurd rfl hne
 have mv:∀kind:Int,a3h x.Custody=false→(e0f c x.ID∨kind=7)→(kind=7→x.Custody.State=6)→d63 x.ID (q8 c x.ID kind branch 0)=some (d,n,0)→Res c d:=by
  intro kind hwp hc h6 e;unfold d63 at e;rcases e1:q8 c x.ID kind branch 0 with _|⟨c1,f⟩
  ·rw[e1]at e;cases e
  rw[e1]at e;dsimp only at e;by_cases hf:f=0
  ·subst hf;obtain ⟨u,ha,hlen,hc1,m1⟩:=a5e m hx e1;subst hc1;refine d6d (x:=x) ((v.weak x.ID).move hx rfl ha hlen) m1 (a8d hx _ u) rfl (v.lfree hm0 hwp) a5d (idl _ u rfl rfl rfl) ?_ e;by_cases hk:kind=7
   ·subst hk;right;intro o ho hs1 hg;obtain ⟨y,hy,hyi,hyr,hat⟩:=v.holdI o ho hs1;have:=a04 v.items hy hm0 (hyi.trans hg);subst this;have hat:=hat (by omega);have hs6:=h6 rfl;have h2:o.State=2:=by
     rcases (a9w (a3c v.holds ho)).2.2.2.1 with q|q|q
     ·exact absurd q hs1
     ·exact q
     ·have:=(hat.1 q).1;omega
    have hto:=(hat.2 h2).2.1;have hu:u=⟨2,branch,0,0⟩:=(e09 ha).res;have hfit:=(e09 ha).fits;unfold c2a at hfit;simp at hfit;refine ⟨h2,hyr,?_⟩;show o.Pickup=u.Branch
    rw[hu];show o.Pickup=branch
    omega
   ·left;rcases hc with hc|hc
    ·exact hc
    ·exact absurd hc hk
  ·exfalso;unfold e8b at e;rw[show (f==0)=false by simpa using hf]at e;cases e
   exact hf rfl
 cases hp:a3h x.Custody with
 |true=>
  rw[hp]at e;simp only[yac]at e;cases hb:(decide (branch<1)||decide (4<branch)) with
  |true=>rw[hb]at e;cases e
  |false=>
   rw[hb]at e;simp only[yaa]at e;unfold d63 at e;rcases e1:qgd c x.ID branch with _|⟨c1,f⟩
   ·rw[e1]at e;cases e
   rw[e1]at e;dsimp only at e;by_cases hf:f=0
   ·subst hf;have R:=c7l I hx e1;have hst:x.Custody.State=4∨x.Custody.State=9∨x.Custody.State=10:=by
     rw[a1r]at hp;simpa[or_assoc]using hp
    have hfr:=v.hfree hm0 (by omega) (by omega);have hlt:=(zL hx)
    exact d6d (x:=x) R.val R.mid (i:=i) (x1:=a09 ⟨2,branch,0,0⟩ x) (by rw[R.items,ybx hlt]) rfl R.free R.stp (idl _ _ R.items R.holds R.today) (.inl (λo ho=>hfr o (by rw[←R.holds];exact ho))) e
   ·exfalso;unfold e8b at e;rw[show (f==0)=false by simpa using hf]at e;cases e
    exact hf rfl
 |false=>
  rw[hp]at e;simp only[yaa]at e;cases h8:x.Custody.State==8 with
  |true=>
   rw[h8]at e;have h8:x.Custody.State=8:=by simpa using h8
   exact mv 4 hp (.inl (v.hfree hm0 (by omega) (by omega))) (λq=>absurd q (by decide)) e
  |false=>
   rw[h8]at e;simp only[yaa]at e;cases h11:x.Custody.State==11 with
   |true=>
    rw[h11]at e;have h11:x.Custody.State=11:=by simpa using h11
    exact mv 14 hp (.inl (v.hfree hm0 (by omega) (by omega))) (λq=>absurd q (by decide)) e
   |false=>
    rw[h11]at e;simp only[yaa]at e;cases h6:x.Custody.State==6 with
    |true=>
     rw[h6]at e;exact mv 7 hp (.inr rfl) (λ_=>by simpa using h6) e
    |false=>
     rw[h6]at e;cases e
end
section
open Go (IntKind Lit)
def wi (n lo hi:Int):Bool:=decide (lo≤n)&&decide (n≤hi)
def i5g (n lo hi:Int):qdi n lo hi=some (wi n lo hi):=by
 unfold qdi wi;cases h:decide (lo≤n)<;>simp[h]
def i7a (n lo hi:Int):(decide (n<lo)||decide (hi<n))=!wi n lo hi:=by
 unfold wi;rw[ybj];simp only[ybr,yan,ya1,yad,yaf];omega
def chk (x:Off):Int:=
 bif (((!wi x.Device 1 9||!wi x.Seq 1 9999)||!wi x.Day 0 109572)||!wi x.Item 1 9999)||!wi x.Branch 1 4 then 2
 else bif !wi x.Kind 1 3 then 1
 else bif (x.Kind==1&&!wi x.Patron 1 9999)||(!(x.Kind==1)&&!(x.Patron==0)) then 2 else 0
def i5c (x:Off):qd6 x=some (chk x):=by
 unfold qd6 chk;simp -zeta only[i5g];generalize wi x.Device 1 9=a1;generalize wi x.Seq 1 9999=a2;generalize wi x.Day 0 109572=a3;generalize wi x.Item 1 9999=a4;generalize wi x.Branch 1 4=a5;generalize wi x.Kind 1 3=a6;generalize (x.Kind==1)=a7;generalize wi x.Patron 1 9999=a8;generalize (x.Patron==0)=a9;dsimp only;cases a1
 ·rfl
 cases a2
 ·rfl
 cases a3
 ·rfl
 cases a4
 ·rfl
 cases a5
 ·rfl
 cases a6
 ·rfl
 cases a7<;>cases a8<;>cases a9<;>rfl
def i5x (x:Off):qfq x=some (chk x):=by
 unfold qfq chk;simp only[←i7a];generalize decide (x.Device<1)=a1;generalize decide (9<x.Device)=b1;generalize decide (x.Seq<1)=a2;generalize decide (9999<x.Seq)=b2;generalize decide (x.Day<0)=a3;generalize decide (109572<x.Day)=b3;generalize decide (x.Item<1)=a4;generalize decide (9999<x.Item)=b4;generalize decide (x.Branch<1)=a5;generalize decide (4<x.Branch)=b5;generalize decide (x.Kind<1)=a6;generalize decide (3<x.Kind)=b6;generalize (x.Kind==1)=a7;generalize decide (x.Patron<1)=a8;generalize decide (9999<x.Patron)=b8;generalize (x.Patron==0)=a9;cases a1
 rotate_left
 ·rfl
 cases b1
 rotate_left
 ·rfl
 cases a2
 rotate_left
 ·rfl
 cases b2
 rotate_left
 ·rfl
 cases a3
 rotate_left
 ·rfl
 cases b3
 rotate_left
 ·rfl
 cases a4
 rotate_left
 ·rfl
 cases b4
 rotate_left
 ·rfl
 cases a5
 rotate_left
 ·rfl
 cases b5
 rotate_left
 ·rfl
 cases a6
 rotate_left
 ·rfl
 cases b6
 rotate_left
 ·rfl
 cases a7<;>cases a8<;>cases b8<;>cases a9<;>rfl
def b66 (x y:Off):Bool:=x.Device==y.Device&&x.Seq==y.Seq
def e46 (x y:Off):b66 x y=b66 y x:=by
 unfold b66;rw[ybj];simp only[yae,ya6];omega
def b7z {X:Type} {p:X→Bool}:∀(l:List X) (i:Nat),(match a2v (β:=Unit⊕(Int×Unit)) p (λi _=>.inr ((i:Int),())) (.inl ()) i l with | .inl _=>some (-1:Int) | .inr (v,_)=>some v).map (λr=>decide (0≤r))=some (l.any p):=by
 intro l
 induction l with
 |nil=>intro i;rfl
 |cons x l ih=>
  intro i;simp only[a2v,ycb];cases p x with
  |true=>simp
  |false=>simp only[yaa,ybg];exact ih _
def i4t {γ:Type} {q:γ→Off→Option Bool} {p:Off→Bool} {g:γ} (hq:∀x,q g x=some (p x)) {l:List Off} (hl:l.length<1000000000) :
 qba q l g=(match a2v (β:=Unit⊕(Int×Unit)) p (λi _=>.inr ((i:Int),())) (.inl ()) 0 l with | .inl _=>some (-1:Int) | .inr (v,_)=>some v):=by
 unfold qba;have h:=w9 (step:=b8x q) (λi=>(l,g,(l.length:Int),(i:Int),())) l p (λi _=>.inr ((i:Int),())) (.inl ()) hl
  (by simp only[b8x,dge,yaa])
  (λi x hx=>by
   have hi:=(zL hx)
   simp only[b8x,dlt hi,d9,hx,yac,hq,wS i])
 rw[show c6 (b8x q) (l,g,(l.length:Int),0,())=_ from h];cases a2v (β:=Unit⊕(Int×Unit)) p (λi _=>.inr ((i:Int),())) (.inl ()) 0 l<;>rfl
def i5v {γ:Type} {q:γ→Off→Option Bool} {p:Off→Bool} {g:γ} (hq:∀x,q g x=some (p x)) {l:List Off} (hl:l.length<1000000000) :
 qfg q l g=some (l.any p):=by
 unfold qfg;rw[i4t hq hl,←b7z l 0];cases a2v (β:=Unit⊕(Int×Unit)) p (λi _=>.inr ((i:Int),())) (.inl ()) 0 l<;>rfl
def c36 (l:List Off):Int:=a0j (λ_ x=>chk x) 0 l
def f9p {l:List Off} (hl:l.length<1000000000):c6 d9h (l,l,(l.length:Int),0,())=some (if c36 l==0 then .inl (l,()) else .inr (c36 l,())):=
 a1b (step:=d9h) (λi=>(l,l,(l.length:Int),(i:Int),())) l (λ_ x=>chk x) (.inl (l,())) (λe=>.inr (e,())) hl
  (by simp only[d9h,dge,yaa])
  (λi x hx=>by
   have hi:=(zL hx)
   simp only[d9h,dlt hi,d9,hx,yac,i5c,wS i,a66];by_cases h:chk x=0
   ·rw[h];rfl
   ·rw[show (chk x==0)=false by simpa using h];rfl)
def f9o {l:List Off} (hl:l.length<1000000000):c6 d9g (l,0,())=some (if c36 l==0 then .inl (l,()) else .inr (c36 l,())):=
 a1b (step:=d9g) (λi=>(l,(i:Int),())) l (λ_ x=>chk x) (.inl (l,())) (λe=>.inr (e,())) hl
  (by simp only[d9g,dge,yaa])
  (λi x hx=>by
   have hi:=(zL hx)
   simp only[d9g,dlt hi,d9,hx,yac,i5x,wS i,a66];by_cases h:chk x=0
   ·rw[h];rfl
   ·rw[show (chk x==0)=false by simpa using h];rfl)
def b4u (l:List Off):Bool:=a1v (λi x=>!(l.take i).any (λy=>b66 x y)) 0 l
def i5b (y v:Off):qcq y v=some (b66 v y):=by
 unfold qcq b66;cases v.Device==y.Device<;>rfl
def e7x {l:List Off} (hl:l.length<1000000):c6 b9l (l,l,(l.length:Int),0,())=some (bif b4u l then .inl (l,()) else .inr (7,())):=
 m0 (step:=b9l) (λi=>(l,l,(l.length:Int),(i:Int),())) l (λi x=>!(l.take i).any (λy=>b66 x y)) (.inr (7,())) (.inl (l,())) (by omega)
  (by simp only[b9l,dge,yaa])
  (λi x hx=>by
   have hi:=(zL hx)
   have g1:(decide ((0:Int)≤(0:Int))&&(decide ((0:Int)≤(i:Int))&&decide ((i:Int)≤(l.length:Int))))=true:=by
    simp only[yae,yad];omega
   have e0:((l.take ((i:Int)).toNat).drop ((0:Int)).toNat)=l.take i:=by simp
   simp only[b9l,dlt hi,d9,hx,yac,g1,e0];rw[i5v (p:=λy=>b66 x y) (λy=>i5b y x) (by rw[yaH];omega)];simp only[wS i];cases (l.take i).any (λy=>b66 x y)<;>rfl)
def e7u {l:List Off} {i:Nat} {x:Off} (hx:l[i]?=some x) (hl:l.length<1000000):c6 b50 (l,(i:Int),0,())=some (bif !(l.take i).any (λy=>b66 x y) then .inl (l,(i:Int),()) else .inr (7,())):=by
 have hi:=(zL hx)
 have ht:(l.take i).length=i:=by rw[yaH];omega
 have h:=m0 (step:=b50) (λk=>(l,(i:Int),(k:Int),())) (l.take i) (λ_ y=>!b66 x y) (.inr (7,())) (.inl (l,(i:Int),())) (by omega)
  (by rw[ht];simp only[b50,dge,yaa])
  (λk y hy=>by
   have hk:k<i:=by have:=(zL hy);omega
   have hy2:l[k]?=some y:=by rw[yaG]at hy;rwa [yaE hk]at hy
   simp -zeta only[b50,dlt hk,d9,hx,hy2,yac,wS k];unfold b66;cases x.Device==y.Device<;>cases x.Seq==y.Seq<;>rfl)
 rw[show c6 b50 (l,(i:Int),0,())=_ from h,o6];have e:∀l:List Off,l.all (λy=>!b66 x y)=!l.any (λy=>b66 x y):=by
  intro l
  induction l with
  |nil=>rfl
  |cons z l ih=>rw[ybR,ycb,ih,Bool.not_or]
 rw[e]
def e7t {l:List Off} (hl:l.length<1000000):c6 b9k (l,0,())=some (bif b4u l then .inl (l,()) else .inr (7,())):=
 m0 (step:=b9k) (λi=>(l,(i:Int),())) l (λi x=>!(l.take i).any (λy=>b66 x y)) (.inr (7,())) (.inl (l,())) (by omega)
  (by simp only[b9k,dge,yaa])
  (λi x hx=>by
   have hi:=(zL hx)
   simp only[b9k,dlt hi,yac,e7u hx hl];cases (l.take i).any (λy=>b66 x y) with
   |true=>rfl
   |false=>simp only[yas,yac,wS i])
def c6v {l:List Off} (h:b4u l=true):∀(i j:Nat) (x y:Off),l[i]?=some x→l[j]?=some y→b66 x y=true→i=j:=by
 unfold b4u at h;rw[a4c]at h;have key:∀(i j:Nat) (x y:Off),l[i]?=some x→l[j]?=some y→j<i→b66 x y=false:=by
  intro i j x y hx hy hji;have:=h i x hx;rw[yaI]at this;simp only[yan,ybL]at this;have hm:y∈l.take i:=yag (i:=j) (by rw[yaG,yaE hji];exact hy);simpa using this y hm
 intro i j x y hx hy hk;rcases ycc i j with q|q|q
 ·rw[e46,key j i y x hy hx q]at hk;cases hk
 ·exact q
 ·rw[key i j x y hx hy q]at hk;cases hk
end
section
open Go (IntKind Lit)
def ltO (a b:Off):Bool:=bif !(a.Day==b.Day) then decide (a.Day<b.Day) else bif !(a.Device==b.Device) then decide (a.Device<b.Device) else decide (a.Seq<b.Seq)
def i50 (a b:Off):qfw a b=some (ltO a b):=by
 unfold qfw ltO;cases a.Day==b.Day<;>cases a.Device==b.Device<;>rfl
def c1u (a b:Off):ltO a b=true↔a.Day<b.Day∨(a.Day=b.Day∧(a.Device<b.Device∨(a.Device=b.Device∧a.Seq<b.Seq))):=by
 unfold ltO;cases h1:a.Day==b.Day with
 |false=>
  have:a.Day≠b.Day:=by simpa using h1
  simp only[yas,yac,yad];omega
 |true=>
  have e1:a.Day=b.Day:=by simpa using h1
  cases h2:a.Device==b.Device with
  |false=>
   have:a.Device≠b.Device:=by simpa using h2
   simp only[yak,yas,yac,yaa,yad];omega
  |true=>
   have:a.Device=b.Device:=by simpa using h2
   simp only[yak,yaa,yad];omega
def e6u (a:Off):ltO a a=false:=by
 cases h:ltO a a with
 |false=>rfl
 |true=>rw[c1u]at h;omega
def c6r {a b c:Off} (h:ltO a b=true) (k:ltO b c=true):ltO a c=true:=by
 rw[c1u]at *;omega
def h44 {a b:Off} (h:ltO a b=false) (k:ltO b a=false):b66 a b=true:=by
 rw[Bool.eq_false_iff]at h k;unfold b66;simp only[yae,ya6];rw[ne_eq,c1u]at h k;omega
structure OkN (x:Off):Prop where
 d0:0≤x.Day
 d1:x.Day≤109572
 v0:1≤x.Device
 v1:x.Device≤9
 s0:1≤x.Seq
 s1:x.Seq≤9999
def g2y {x:Off} (h:chk x=0):OkN x:=by
 unfold chk at h;cases h1:(((!wi x.Device 1 9||!wi x.Seq 1 9999)||!wi x.Day 0 109572)||!wi x.Item 1 9999)||!wi x.Branch 1 4 with
 |true=>rw[h1]at h;cases h
 |false=>
  simp only[yai,yay]at h1;obtain ⟨⟨⟨⟨a,b⟩,c⟩,-⟩,-⟩:=h1;unfold wi at a b c;simp only[yae,yad]at a b c;exact ⟨c.1,c.2,a.1,a.2,b.1,b.2⟩
def cmO (a b:Off):Int:=if wr .i64 (a.Day-b.Day)=0 then (if wr .i64 (a.Device-b.Device)=0 then wr .i64 (a.Seq-b.Seq) else wr .i64 (a.Device-b.Device)) else wr .i64 (a.Day-b.Day)
def i4p (a b:Off):qav a b=some (cmO a b):=by
 unfold qav cmO;generalize wr .i64 (a.Day-b.Day)=x;generalize wr .i64 (a.Device-b.Device)=y;generalize wr .i64 (a.Seq-b.Seq)=z;have step:∀(k:Nat) (v:Int),([x,y,z]:List Int)[k]?=some v→b5e ((([x,y,z]:List Int).length:Int),(k:Int),[x,y,z],())=if v=0 then some (.inl ((([x,y,z]:List Int).length:Int),((k+1:Nat):Int),[x,y,z],())) else some (.inr (.inr (v,()))):=λk v hv=>by
  have hk:=(zL hv)
  have h3:([x,y,z]:List Int).length=3:=rfl;simp only[b5e,dlt hk,d9,hv,yac,yaB,wS k];by_cases h:v=0
  ·rw[yaE h,show (v==0)=true by simpa using h];rfl
  ·rw[yap h,show (v==0)=false by simpa using h];rfl
 have hw:c6 b5e ((([x,y,z]:List Int).length:Int),0,[x,y,z],())=some (if x=0 then (if y=0 then (if z=0 then .inl () else .inr (z,())) else .inr (y,())) else .inr (x,())):=by
  refine o8 4 (by rw[o4];omega) ?_;have s0:b5e ((([x,y,z]:List Int).length:Int),0,[x,y,z],())=if x=0 then some (.inl ((([x,y,z]:List Int).length:Int),((0+1:Nat):Int),[x,y,z],())) else some (.inr (.inr (x,()))):=step 0 x rfl
  have s1:=step 1 y rfl;have s2:=step 2 z rfl;have s3:b5e ((([x,y,z]:List Int).length:Int),((2+1:Nat):Int),[x,y,z],())=some (.inr (.inl ())):=rfl;rw[o9,s0];by_cases hx:x=0
  ·rw[yaE hx,yaE hx];simp only;rw[o9,s1];by_cases hy:y=0
   ·rw[yaE hy,yaE hy];simp only;rw[o9,s2];by_cases hz:z=0
    ·rw[yaE hz,yaE hz];simp only;rw[o9,s3]
    ·rw[yap hz,yap hz]
   ·rw[yap hy,yap hy]
  ·rw[yap hx,yap hx]
 rw[hw];by_cases hx:x=0
 ·rw[yaE hx,yaE hx];by_cases hy:y=0
  ·rw[yaE hy,yaE hy];by_cases hz:z=0
   ·rw[yaE hz,hz]
   ·rw[yap hz]
  ·rw[yap hy,yap hy]
 ·rw[yap hx,yap hx]
def i2g {a b:Off} (ha:OkN a) (hb:OkN b):decide (cmO a b<0)=ltO a b:=by
 obtain ⟨a1,a2,a3,a4,a5,a6⟩:=ha;obtain ⟨b1,b2,b3,b4,b5,b6⟩:=hb;rw[ybj,yad,c1u];unfold cmO;rw[a0l (n:=a.Day-b.Day) (by omega) (by omega),a0l (n:=a.Device-b.Device) (by omega) (by omega),a0l (n:=a.Seq-b.Seq) (by omega) (by omega)];by_cases h1:a.Day-b.Day=0
 ·rw[yaE h1];by_cases h2:a.Device-b.Device=0
  ·rw[yaE h2];omega
  ·rw[yap h2];omega
 ·rw[yap h1];omega
def srt (l:List Off):Bool:=(List.range (l.length-1)).all λi=>match l[i+1]?,l[i]? with|some x,some y=>!decide (cmO x y<0)|_,_=>true
def f1k {l:List Off} (hl:l.length<1000000):qa7 (λ(g:Unit×Unit) x0 x1=>qav x0 x1) l ((),())=some (srt l):=by
 unfold qa7;rcases Nat.eq_zero_or_pos l.length with h0|hpos
 ·have:l=[]:=ybn.1 h0;subst this;rfl
 ·have e:wr .i64 ((l.length:Int)-1)=((l.length-1:Nat):Int):=by rw[a0l (by omega) (by omega)];omega
  rw[e];have hlen:((List.range (l.length-1)).reverse).length=l.length-1:=by simp
  have h:=m0 (step:=c6y (λ(g:Unit×Unit) x0 x1=>qav x0 x1)) (λj=>(l,((),()),((l.length-1-j:Nat):Int),())) (List.range (l.length-1)).reverse
   (λ_ i=>match l[i+1]?,l[i]? with|some x,some y=>!decide (cmO x y<0)|_,_=>true) (.inr (false,())) (.inl ()) (by omega)
   (by rw[hlen,Nat.sub_self];rfl)
   (λj q hq=>by
    have hj:j<l.length-1:=by have:=(zL hq);omega
    have eq:q=l.length-1-1-j:=by
     rw[List.getElem?_reverse (by simpa using hj)]at hq;simp only[List.length_range]at hq;rw[List.getElem?_range (by omega)]at hq;exact (ybi hq).symm
    have e1:l.length-1-j=q+1:=by omega
    have h1:q+1<l.length:=by omega
    have h2:q<l.length:=by omega
    have p0:decide ((0:Int)<((q+1:Nat):Int))=true:=e37;simp only[c6y,e1,p0,yac,d9,a34 (show q<1000000000 by omega),yab h1,yab h2,i4p];rw[show l.length-1-(j+1)=q by omega];cases decide (cmO l[q+1] l[q]<0)<;>rfl)
  rw[show c6 (c6y (λ(g:Unit×Unit) x0 x1=>qav x0 x1)) (l,((),()),((l.length-1:Nat):Int),())=_ from h,o6,List.all_reverse];unfold srt;cases (List.range (l.length-1)).all λi=>match l[i+1]?,l[i]? with|some x,some y=>!decide (cmO x y<0)|_,_=>true<;>rfl
def asB (l:List Off):Bool:=(List.range (l.length-1)).all λi=>match l[i+1]?,l[i]? with|some x,some y=>ltO y x|_,_=>true
def e7v {l:List Off} (hl:l.length<1000000) (hpos:0<l.length):c6 b1o (l,1,())=some (bif asB l then .inl () else .inr (3,())):=by
 have hlen:(List.range (l.length-1)).length=l.length-1:=by simp
 have h:=m0 (step:=b1o) (λj=>(l,((j+1:Nat):Int),())) (List.range (l.length-1)) (λ_ i=>match l[i+1]?,l[i]? with|some x,some y=>ltO y x|_,_=>true) (.inr (3,())) (.inl ()) (by omega)
  (by
   rw[hlen,show l.length-1+1=l.length by omega];simp only[b1o,dge,yaa])
  (λj q hq=>by
   have hj:j<l.length-1:=by have:=(zL hq);omega
   have eq:q=j:=by
    rw[List.getElem?_range hj]at hq;exact (ybi hq).symm
   subst eq;have h1:q+1<l.length:=by omega
   have h2:q<l.length:=by omega
   simp only[b1o,dlt h1,yac,d9,a34 (show q<1000000000 by omega),yab h1,yab h2,i50];rw[a0c (show q+1<9223372036854775807 by omega)];cases ltO l[q] l[q+1]<;>rfl)
 rw[show c6 b1o (l,1,())=_ from h,o6];rfl
def d9f:c6 b1o ([],1,())=some (.inl ()):=o8 1 (by rw[o4];omega) rfl
def h3c {l:List Off} (h:c36 l=0):∀x∈l,OkN x:=by
 unfold c36 at h;rw[a6h]at h;intro x hx;obtain ⟨i,hi⟩:=yaw hx;exact g2y (h i x hi)
def h9w {l:List Off} (h:c36 l=0) (ho:b4u l=true):srt l=asB l:=by
 have hk:=h3c h;unfold srt asB;rw[ybj,yaj,yaj];have key:∀i∈List.range (l.length-1),(match l[i+1]?,l[i]? with|some x,some y=>!decide (cmO x y<0)|_,_=>true)=(match l[i+1]?,l[i]? with|some x,some y=>ltO y x|_,_=>true):=λi hi=>by
  rw[ybE]at hi;have h1:i+1<l.length:=by omega
  have h2:i<l.length:=by omega
  rw[yab h1,yab h2];simp only;rw[i2g (hk _ (ybB h1)) (hk _ (ybB h2))];cases hlt:ltO l[i+1] l[i]with
  |true=>
   cases hlt2:ltO l[i] l[i+1]with
   |false=>rfl
   |true=>have:=c6r hlt hlt2;rw[e6u]at this;cases this
  |false=>
   cases hlt2:ltO l[i] l[i+1]with
   |true=>rfl
   |false=>
    have:=c6v ho (i+1) i _ _ (yab h1) (yab h2) (h44 hlt hlt2);omega
 constructor
 ·intro H i hi;rw[←key i hi];exact H i hi
 ·intro H i hi;rw[key i hi];exact H i hi
def rtO (l:List Off):Int:=bif decide (128<(l.length:Int)) then 13 else if c36 l==0 then (bif b4u l then (bif asB l then 0 else 3) else 7) else c36 l
def i8e {l:List Off} (hl:l.length<1000000):ql l=some (rtO l):=by
 unfold ql rtO;cases decide (128<(l.length:Int)) with
 |true=>rfl
 |false=>
  simp only[yaa];rw[f9p (by omega)];by_cases h:c36 l=0
  ·rw[h];simp only[yal,ybD];rw[e7x hl];cases ho:b4u l with
   |false=>rfl
   |true=>
    simp only[yac];rw[f1k hl];simp only;rw[h9w h ho];cases asB l<;>rfl
  ·rw[show (c36 l==0)=false by simpa using h];rfl
def i8c {l:List Off} (hl:l.length<1000000):qj l=some (rtO l):=by
 unfold qj rtO;cases decide (128<(l.length:Int)) with
 |true=>rfl
 |false=>
  simp only[yaa];rw[f9o (by omega)];by_cases h:c36 l=0
  ·rw[h];simp only[yal,ybD];rw[e7t hl];cases ho:b4u l with
   |false=>rfl
   |true=>
    simp only[yac];rcases Nat.eq_zero_or_pos l.length with h0|hpos
    ·have:l=[]:=ybn.1 h0;subst this;rw[d9f];rfl
    ·rw[e7v hl hpos];cases asB l<;>rfl
  ·rw[show (c36 l==0)=false by simpa using h];rfl
structure RtO (l:List Off):Prop where
 len:l.length≤128
 ok:∀x∈l,chk x=0
 one:∀x∈l,∀y∈l,b66 x y=true→x=y
 asc:l.Pairwise (λa b=>ltO a b=true)
def i1r:∀{l:List Off},asB l=true→l.Pairwise (λa b=>ltO a b=true):=by
 intro l h;unfold asB at h;rw[yaj]at h;have key:∀k i,i+k+1<l.length→∀x y,l[i]?=some x→l[i+k+1]?=some y→ltO x y=true:=by
  intro k
  induction k with
  |zero=>
   intro i hi x y hx hy;have:=h i (by rw[ybE];omega);rw[ya9]at hy;rw[hx,hy]at this;exact this
  |succ k ih=>
   intro i hi x y hx hy;have h1:i+k+1<l.length:=by omega
   have a:=ih i (by omega) x l[i+k+1] hx (yab h1);have b:=h (i+k+1) (by rw[ybE];omega);rw[show i+(k+1)+1=i+k+1+1 by omega]at hy;rw[hy,yab h1]at b;exact c6r a b
 rw[ya2];intro i j hi hj hij;exact key (j-i-1) i (by omega) _ _ (yab hi) (by rw[show i+(j-i-1)+1=j by omega];exact yab hj)
def i4f {l:List Off} (h:l.Pairwise (λa b=>ltO a b=true)):asB l=true:=by
 unfold asB;rw[yaj];intro i hi;rw[ybE]at hi;have h1:i+1<l.length:=by omega
 have h2:i<l.length:=by omega
 rw[yab h1,yab h2];rw[ya2]at h;exact h i (i+1) h2 h1 (by omega)
def h53 {l:List Off}:rtO l=0↔RtO l:=by
 unfold rtO;constructor
 ·intro h;cases h0:decide (128<(l.length:Int)) with
  |true=>rw[h0]at h;cases h
  |false=>
   rw[h0,yaa]at h;rw[yaf]at h0;by_cases he:c36 l=0
   ·rw[he]at h;simp only[yal,ybD]at h;cases ho:b4u l with
    |false=>rw[ho]at h;cases h
    |true=>
     rw[ho,yac]at h;cases ha:asB l with
     |false=>rw[ha]at h;cases h
     |true=>
      refine ⟨by omega,λx hx=>?_,λx hx y hy hk=>?_,i1r ha⟩
      ·unfold c36 at he;rw[a6h]at he;obtain ⟨i,hi⟩:=yaw hx;exact he i x hi
      ·obtain ⟨i,hi⟩:=yaw hx;obtain ⟨j,hj⟩:=yaw hy;have:=c6v ho i j x y hi hj hk;subst this;rw[hi]at hj;exact ybi hj
   ·rw[yap (by simpa using he)]at h;exact absurd h he
 ·intro R;have h0:decide (128<(l.length:Int))=false:=by rw[yaf];have:=R.len;omega
  have he:c36 l=0:=by
   unfold c36;rw[a6h];intro i x hx;exact R.ok x (yag hx)
  have ho:b4u l=true:=by
   unfold b4u;rw[a4c];intro i x hx;simp only[yan,ybL];intro y hy hk;rw[yaI]at hy;have e:=R.one x (yag hx) y (List.mem_of_mem_take hy) hk;subst e;obtain ⟨j,hj⟩:=yaw hy;have hji:j<i:=by have:=(zL hj);rw[yaH]at this;omega
   rw[yaG,yaE hji]at hj;have hp:=R.asc;rw[ya2]at hp;obtain ⟨h1,e1⟩:=yaA.1 hj;obtain ⟨h2,e2⟩:=yaA.1 hx;have:=hp j i h1 h2 hji;rw[e1,e2,e6u]at this;cases this
  rw[h0,he,ho,i4f R.asc];rfl
end
section
open Go (IntKind)
structure SmO (c:Circ):Prop where
 moves:c.Moves.length≤200
 items:c.Items.length≤100
 patrons:c.Patrons.length≤100
 loans:c.Loans.length≤100
 holds:c.Holds.length≤100
 charges:c.Charges.length≤200
 rules:c.Rules.length≤100
 cal0:c.Cals.x0.Closed.length≤100
 cal1:c.Cals.x1.Closed.length≤100
 cal2:c.Cals.x2.Closed.length≤100
 cal3:c.Cals.x3.Closed.length≤100
structure Txt (c:Circ):Prop where
 call:∀x∈c.Items,x.Call.length≤1048576
 name:∀x∈c.Patrons,x.Name.length≤1048576
def h9t (c:Circ):∃b,qa c=some b∧(b=true→SmO c):=by
 unfold qa;simp -zeta only[a0x,s9];dsimp only;cases hb:(decide (200<(c.Moves.length:Int))||decide (100<(c.Items.length:Int))||decide (100<(c.Patrons.length:Int))||decide (100<(c.Loans.length:Int))||decide (100<(c.Holds.length:Int))||decide (200<(c.Charges.length:Int))||decide (100<(c.Rules.length:Int))) with
 |true=>exact ⟨false,rfl,λh=>by cases h⟩
 |false=>
  simp only[yai,yaf]at hb;have h3:c6 c6z (0,c,())=some (bif (!(decide (100<(c.Cals.x0.Closed.length:Int)))&&(!(decide (100<(c.Cals.x1.Closed.length:Int)))&&(!(decide (100<(c.Cals.x2.Closed.length:Int)))&&!(decide (100<(c.Cals.x3.Closed.length:Int)))))) then .inl () else .inr (false,())):=by
   have s0:c6z (0,c,())=bif decide (100<(c.Cals.x0.Closed.length:Int)) then some (.inr (.inr (false,()))) else some (.inl (1,c,())):=rfl;have s1:c6z (1,c,())=bif decide (100<(c.Cals.x1.Closed.length:Int)) then some (.inr (.inr (false,()))) else some (.inl (2,c,())):=rfl;have s2:c6z (2,c,())=bif decide (100<(c.Cals.x2.Closed.length:Int)) then some (.inr (.inr (false,()))) else some (.inl (3,c,())):=rfl;have s3:c6z (3,c,())=bif decide (100<(c.Cals.x3.Closed.length:Int)) then some (.inr (.inr (false,()))) else some (.inl (4,c,())):=rfl;have s4:c6z (4,c,())=some (.inr (.inl ())):=rfl;refine o8 5 (by rw[o4];omega) ?_;simp only[o9,s0];cases decide (100<(c.Cals.x0.Closed.length:Int)) with
   |true=>rfl
   |false=>
    simp only[yaa,o9,s1];cases decide (100<(c.Cals.x1.Closed.length:Int)) with
    |true=>rfl
    |false=>
     simp only[yaa,o9,s2];cases decide (100<(c.Cals.x2.Closed.length:Int)) with
     |true=>rfl
     |false=>
      simp only[yaa,o9,s3];cases decide (100<(c.Cals.x3.Closed.length:Int)) with
      |true=>rfl
      |false=>simp only[yaa,o9,s4];rfl
  rw[yaa,h3];cases hc:(!(decide (100<(c.Cals.x0.Closed.length:Int)))&&(!(decide (100<(c.Cals.x1.Closed.length:Int)))&&(!(decide (100<(c.Cals.x2.Closed.length:Int)))&&!(decide (100<(c.Cals.x3.Closed.length:Int)))))) with
  |false=>exact ⟨false,rfl,λh=>by cases h⟩
  |true=>
   simp only[yae,yan,yaf]at hc;exact ⟨true,rfl,λ_=>⟨by omega,by omega,by omega,by omega,by omega,by omega,by omega,by omega,by omega,by omega,by omega⟩⟩
def SmO.short {c:Circ} (h:SmO c) (t:Txt c):Short c:=by
 obtain ⟨h1,h2,h3,h4,h5,h6,h7,h8,h9,h10,h11⟩:=h;exact ⟨by omega,by omega,by omega,by omega,by omega,by omega,by omega,λx hx=>by have:=t.call x hx;omega,λx hx=>by have:=t.name x hx;omega,by omega,by omega,by omega,by omega⟩
def i61 {c:Circ} (hs:Short c) (h:a5g c=true):Inv c:=by
 have v:=i69 h;refine ⟨v,hs,?_⟩;have hp:=v.patrons;unfold a1a at hp;cases hd:decide (32<(c.Patrons.length:Int)) with
 |true=>rw[hd]at hp;cases hp
 |false=>rw[yaf]at hd;omega
def b0b {c:Circ} (I:Inv c) {n:Int} (h:0≤n∧n≤109572):Inv (a6t c n):=by
 obtain ⟨v,⟨a1,a2,a3,a4,a5,a6,a7,a8,a9,a10,a11,a12,a13⟩,p⟩:=I;exact ⟨v.setToday h,⟨a1,a2,a3,a4,a5,a6,a7,a8,a9,a10,a11,a12,a13⟩,p⟩
def c0r {γ:Type} {q:γ→Loan→Option Bool} {p:Loan→Bool} {g:γ} (hq:∀x,q g x=some (p x)) {l:List Loan} (hl:l.length<1000000000) :
 qf7 q l g=some (l.any p):=by
 have h:=w9 (step:=b17 q) (λi=>(l,g,(l.length:Int),(i:Int),())) l p (λi _=>.inr ((i:Int),())) (.inl ()) hl
  (by simp only[b17,dge,yaa])
  (λi x hx=>by
   have hi:=(zL hx)
   simp only[b17,dlt hi,d9,hx,yac,hq,wS i])
 unfold qf7 qf;rw[show c6 (b17 q) (l,g,(l.length:Int),0,())=_ from h,←b7z l 0];cases a2v (β:=Unit⊕(Int×Unit)) p (λi _=>.inr ((i:Int),())) (.inl ()) 0 l<;>rfl
def i38 {c:Circ} (hl:c.Loans.length<1000000000) (item:Int):qb7 c item=some (c.Loans.any λn=>n.Item==item):=by
 have h:=w9 (step:=b8v) (λi=>(item,(i:Int),c,())) c.Loans (λn=>n.Item==item) (λi _=>.inr (true,())) (.inl ()) hl
  (by simp only[b8v,dge,yaa])
  (λi x hx=>by
   have hi:=(zL hx)
   simp only[b8v,dlt hi,d9,hx,yac,wS i])
 have k:∀(l:List Loan) (i:Nat),a2v (β:=Unit⊕(Bool×Unit)) (λn:Loan=>n.Item==item) (λi _=>.inr (true,())) (.inl ()) i l=bif l.any (λn=>n.Item==item) then .inr (true,()) else .inl ():=by
  intro l
  induction l with
  |nil=>intro i;rfl
  |cons x l ih=>
   intro i;simp only[a2v,ycb];cases x.Item==item with
   |true=>rfl
   |false=>simp only[yaa,ybg];exact ih _
 unfold qb7;rw[show c6 b8v (item,0,c,())=_ from h,k];cases c.Loans.any λn=>n.Item==item<;>rfl
def a86 {c:Circ} (I:Inv c) {x:Off} (hk:x.Kind=1∨x.Kind=2∨x.Kind=3) :
 ∃d1 d2 e,qak c x=some (d1,e)∧qft c x=some (d2,e)∧(e=0→d1=d2∧Inv d1∧Stp c d1):=by
 have hln:=I.mid.short.loans;have h3:=(b1j.1 I.val.loans).1;have hc:qf7 (λ(g:Unit×(Off×Unit)) x0=>qc7 x0 g.2.1) c.Loans ((),(x,()))=some (c.Loans.any λn=>n.Item==x.Item):=c0r (λn=>rfl) hln;unfold qak qft;rw[hc,i38 hln];rcases hk with h|h|h
 ·rw[h];have lend:∀{c:Circ} (I:Inv c),∃d n e,qb6 c x.Item x.Patron x.Branch=some (d,n,e)∧qb9 c x.Item x.Patron x.Branch=some (d,n,e)∧(e=0→Inv d∧Stp c d):=λ{c} I=>by
   obtain ⟨d,n,e,a1,a2,-⟩:=d78 (item:=x.Item) (patron:=x.Patron) (branch:=x.Branch) I.w I.fit;exact ⟨d,n,e,a1,a2,λhe=>by subst he;have r:=f6e I a2;exact ⟨I.of r.val r.stp,r.stp⟩⟩
  cases hl:c.Loans.any λn=>n.Item==x.Item with
  |false=>
   obtain ⟨d,n,e,b1,b2,b3⟩:=lend I;refine ⟨d,d,e,?_,?_,λhe=>⟨rfl,b3 he⟩⟩
   ·show (match qb6 c x.Item x.Patron x.Branch with|some (r10,r11,r12)=>some (r10,r12)|none=>none)=_
    rw[b1]
   ·show (match qb9 c x.Item x.Patron x.Branch with|some (r17,r18,r19)=>some (r17,r19)|none=>none)=_
    rw[b2]
  |true=>
   obtain ⟨d,n,e,a1,a2,-⟩:=b7m (item:=x.Item) (branch:=x.Branch) I.mid I.fit (by omega);by_cases he:e=0
   ·subst he;have r:=d15 I a2;have I2:=I.of r.val r.stp;obtain ⟨d2,n2,e2,b1,b2,b3⟩:=lend I2;refine ⟨d2,d2,e2,?_,?_,λhe=>⟨rfl,(b3 he).1,r.stp.trans (b3 he).2⟩⟩
    ·show (match qee c x.Item x.Branch with|some (r4,r5,r6)=>_|none=>none)=_
     rw[a1];show (match qb6 d x.Item x.Patron x.Branch with|some (r10,r11,r12)=>some (r10,r12)|none=>none)=_
     rw[b1]
    ·show (match qf4 c x.Item x.Branch with|some (r4,r5,r6)=>_|none=>none)=_
     rw[a2];show (match qb9 d x.Item x.Patron x.Branch with|some (r17,r18,r19)=>some (r17,r19)|none=>none)=_
     rw[b2]
   ·have hb:(e==0)=false:=by simpa using he
    refine ⟨d,z8,e,?_,?_,λh=>absurd h he⟩
    ·show (match qee c x.Item x.Branch with|some (r4,r5,r6)=>_|none=>none)=_
     rw[a1];simp only[hb];rfl
    ·show (match qf4 c x.Item x.Branch with|some (r4,r5,r6)=>_|none=>none)=_
     rw[a2];simp only[hb];rfl
 ·rw[h];obtain ⟨d,n,e,a1,a2,-⟩:=b7m (item:=x.Item) (branch:=x.Branch) I.mid I.fit (by omega);refine ⟨d,d,e,?_,?_,λhe=>⟨rfl,by subst he;have r:=d15 I a2;exact ⟨I.of r.val r.stp,r.stp⟩⟩⟩
  ·show (match qee c x.Item x.Branch with|some (r4,r5,r6)=>_|none=>none)=_
   rw[a1];by_cases he:e=0
   ·subst he;rfl
   ·have hb:(e==0)=false:=by simpa using he
    simp only[hb];rfl
  ·show (match qf4 c x.Item x.Branch with|some (r4,r5,r6)=>_|none=>none)=_
   rw[a2]
 ·rw[h];obtain ⟨d,n,e,a1,a2,-⟩:=d0x (item:=x.Item) I.short I.fit;refine ⟨d,d,e,?_,?_,λhe=>⟨rfl,by subst he;have r:=e8e I.val I.mid a2;exact ⟨I.of r.val r.stp,r.stp⟩⟩⟩
  ·show (match qcn c x.Item with|some (r4,r5,r6)=>some (r4,r6)|none=>none)=_
   rw[a1]
  ·show (match qb1 c x.Item with|some (r4,r5,r6)=>some (r4,r6)|none=>none)=_
   rw[a2]
def b69 (today:Int) (c:Circ) (x:Off):Circ×Int:=
 bif decide (x.Day≤today) then (match qak (a6t c x.Day) x with
  |some (d,e)=>bif e==0 then (a6t d today,e) else (c,e)
  |none=>(c,12)) else (c,12)
def d1f (today:Int) (s:Circ×List Outcome) (x:Off):Circ×List Outcome:=((b69 today s.1 x).1,s.2++[⟨x.Device,x.Seq,(b69 today s.1 x).2⟩])
def b7c (today:Int) (c:Circ) (l:List Off) (o:List Outcome):Circ×List Outcome:=l.foldl (d1f today) (c,o)
structure OnDay (today:Int) (c:Circ):Prop where
 inv:Inv c
 today:c.Today=today
def OnDay.rng {t:Int} {c:Circ} (h:OnDay t c):0≤t∧t≤109572:=by
 have:=(b0y h.inv.val.nums).1;rw[h.today]at this;exact this
def c9r {x:Off} (h:chk x=0):(x.Kind=1∨x.Kind=2∨x.Kind=3)∧0≤x.Day∧x.Day≤109572:=by
 have h0:=g2y h;refine ⟨?_,h0.d0,h0.d1⟩;unfold chk at h;cases h1:(((!wi x.Device 1 9||!wi x.Seq 1 9999)||!wi x.Day 0 109572)||!wi x.Item 1 9999)||!wi x.Branch 1 4 with
 |true=>rw[h1]at h;cases h
 |false=>
  rw[h1,yaa]at h;cases h2:!wi x.Kind 1 3 with
  |true=>rw[h2]at h;cases h
  |false=>
   unfold wi at h2;simp only[yay,yae,yad]at h2;omega
def b91 {c:Circ} {n:Int}:Stp c (a6t c n):=⟨rfl,rfl,rfl,[],by simp[a6t]⟩
def c1y {t:Int} {c:Circ} (h:OnDay t c) {x:Off} (hx:chk x=0):OnDay t (b69 t c x).1∧Stp c (b69 t c x).1:=by
 obtain ⟨hk,h0,h1⟩:=c9r hx;unfold b69;cases decide (x.Day≤t) with
 |false=>exact ⟨h,.refl c⟩
 |true=>
  obtain ⟨d1,d2,e,p1,p2,p3⟩:=a86 (b0b h.inv ⟨h0,h1⟩) hk;rw[yac,p1];dsimp only;by_cases he:e=0
  ·subst he;obtain ⟨-,I,st⟩:=p3 rfl;exact ⟨⟨b0b I h.rng,rfl⟩,(b91.trans st).trans b91⟩
  ·rw[show (e==0)=false by simpa using he];exact ⟨h,.refl c⟩
def f9k {t:Int}:∀{l:List Off} {c:Circ} {o:List Outcome},OnDay t c→(∀x∈l,chk x=0)→OnDay t (b7c t c l o).1∧Stp c (b7c t c l o).1∧(b7c t c l o).2.length=o.length+l.length:=by
 intro l
 induction l with
 |nil=>intro c o h _;exact ⟨h,.refl c,rfl⟩
 |cons x l ih=>
  intro c o h hx;have a:=c1y h (hx x (yaK ..));obtain ⟨b1,b2,b3⟩:=ih (o:=o++[⟨x.Device,x.Seq,(b69 t c x).2⟩]) a.1 (λy hy=>hx y (yaN _ hy));refine ⟨b1,a.2.trans b2,?_⟩;show (b7c t (b69 t c x).1 l (o++[⟨x.Device,x.Seq,(b69 t c x).2⟩])).2.length=_
  rw[b3];simp;omega
def d8p {t:Int} {c:Circ} (h:OnDay t c) {l:List Off} (hl:l.length<1000000) (ho:∀x∈l,chk x=0) (v:Circ) :
 c6 b5c (t,l,(l.length:Int),0,c,v,[],())=some ((b7c t c l []).1,v,(b7c t c l []).2,()):=by
 have hw:=u0 (step:=b5c) (λi (s:Circ×List Outcome)=>OnDay t s.1∧s.2.length=i) (λi s=>(t,l,(l.length:Int),(i:Int),s.1,v,s.2,())) l (λ_ x s=>.inl (d1f t s x)) (λs=>(s.1,v,s.2,())) (by rw[o4];omega)
  (λs _=>by simp only[b5c,dge,yaa])
  (λi x s hx hs=>by
   have hi:=(zL hx)
   have hc:=ho x (yag hx);obtain ⟨hk,h0,h1⟩:=c9r hc;have l1:∀e:Int,decide (s.2.length+([(⟨x.Device,x.Seq,e⟩:Outcome)]:List Outcome).length≤LIM)=true:=λe=>a2d (by simp;omega)
   refine ⟨?_,λs' hs'=>by cases hs';exact ⟨(c1y hs.1 hc).1,by simp[d1f,hs.2]⟩⟩;unfold d1f b69;cases hd:decide (x.Day≤t) with
   |false=>simp only[b5c,dlt hi,d9,hx,yac,hd,yaa,l1,wS i]
   |true=>
    obtain ⟨d1,d2,e,p1,p2,p3⟩:=a86 (b0b hs.1.inv ⟨h0,h1⟩) hk;have p1':qak (⟨x.Day,s.1.Items,s.1.Patrons,s.1.Loans,s.1.Holds,s.1.Charges,s.1.Rules,s.1.Cals,s.1.Moves,s.1.NextHold,s.1.NextCharge,s.1.Local⟩:Circ) x=some (d1,e):=p1;simp only[b5c,dlt hi,d9,hx,yac,hd,p1,p1',l1,wS i];cases e==0<;>rfl) (c,[]) ⟨h,rfl⟩
 rw[a0k]at hw;exact hw
def i58 {t:Int} {c:Circ} (h:OnDay t c) {l:List Off} (hl:l.length<1000000) (ho:∀x∈l,chk x=0) (v:Circ) :
 c6 b5l (l,t,0,c,v,[],())=some ((b7c t c l []).1,v,(b7c t c l []).2,()):=by
 have hw:=u0 (step:=b5l) (λi (s:Circ×List Outcome)=>OnDay t s.1∧s.2.length=i) (λi s=>(l,t,(i:Int),s.1,v,s.2,())) l (λ_ x s=>.inl (d1f t s x)) (λs=>(s.1,v,s.2,())) (by rw[o4];omega)
  (λs _=>by simp only[b5l,dge,yaa])
  (λi x s hx hs=>by
   have hi:=(zL hx)
   have hc:=ho x (yag hx);obtain ⟨hk,h0,h1⟩:=c9r hc;have l1:∀e:Int,decide (s.2.length+([(⟨x.Device,x.Seq,e⟩:Outcome)]:List Outcome).length≤LIM)=true:=λe=>a2d (by simp;omega)
   refine ⟨?_,λs' hs'=>by cases hs';exact ⟨(c1y hs.1 hc).1,by simp[d1f,hs.2]⟩⟩;unfold d1f b69;cases hd:decide (x.Day≤t) with
   |false=>simp only[b5l,dlt hi,d9,hx,yac,hd,yaa,l1,wS i]
   |true=>
    obtain ⟨d1,d2,e,p1,p2,p3⟩:=a86 (b0b hs.1.inv ⟨h0,h1⟩) hk;have p2':qft (⟨x.Day,s.1.Items,s.1.Patrons,s.1.Loans,s.1.Holds,s.1.Charges,s.1.Rules,s.1.Cals,s.1.Moves,s.1.NextHold,s.1.NextCharge,s.1.Local⟩:Circ) x=some (d2,e):=p2;simp only[b5l,dlt hi,d9,hx,yac,hd,qei,p1,p2',l1,wS i];by_cases he:e=0
    ·subst he;obtain ⟨rfl,-⟩:=p3 rfl;rfl
    ·rw[show (e==0)=false by simpa using he];rfl) (c,[]) ⟨h,rfl⟩
 rw[a0k]at hw;exact hw
def e64 {c:Circ} (hs:Short c) {l:List Off} (hl:l.length<1000000) :
 ∃d o,qas c l=some (d,o)∧qb8 c l=some (d,o)∧Short d∧o.length≤l.length∧
  (a5g c=true→rtO l=0→d=(b7c c.Today c l []).1∧o=(b7c c.Today c l []).2):=by
 unfold qas qb8;rw[i52 hs,i4l hs,i8e hl,i8c hl];cases hr:a5g c with
 |false=>exact ⟨c,[],rfl,rfl,hs,by simp,λh=>by cases h⟩
 |true=>
  by_cases he:rtO l=0
  ·have O:OnDay c.Today c:=⟨i61 hs hr,rfl⟩
   have ho:=(h53.1 he).ok;have r:=f9k (o:=[]) O ho;refine ⟨_,_,?_,?_,r.1.inv.short,by rw[r.2.2];simp,λ_ _=>⟨rfl,rfl⟩⟩
   ·simp only[he,yak,yaa,yal,d8p O hl ho]
   ·simp only[he,yak,yaa,yal,i58 O hl ho]
  ·refine ⟨c,[],?_,?_,hs,by simp,λ_ h=>absurd h he⟩
   ·simp only[yak,yaa,show (rtO l==0)=false by simpa using he,yas,yac]
   ·simp only[yak,yaa,show (rtO l==0)=false by simpa using he,yas,yac]
def h56 (o:List Outcome) (hl:o.length<1000000):qbi o o=some true:=by
 have hw:=m0 (step:=b83) (λi=>(o,o,(i:Int),())) o (λ_ _=>true) (.inr (false,())) (.inl ()) (by omega)
  (by simp only[b83,dge,yaa])
  (λi x hx=>by
   have hi:=(zL hx)
   simp only[b83,dlt hi,d9,hx,yac,show a8y x x=true by simp[a8y],yak,yaa,wS i])
 unfold qbi;rw[show ((o.length:Int)==(o.length:Int))=true by simp,show c6 b83 (o,o,0,())=_ from hw,o6,a2x];rfl
def b01 (c:Circ) (l:List Off) (ht:Txt c):qd0 c l=some true:=by
 unfold qd0;obtain ⟨b,e,hb⟩:=h9t c;rw[e];cases b with
 |false=>rfl
 |true=>
  cases h20:decide (20<(l.length:Int)) with
  |true=>rfl
  |false=>
   rw[yaf]at h20;obtain ⟨d,o,h1,h2,h3,h4,-⟩:=e64 ((hb rfl).short ht) (l:=l) (by omega);simp only[yak,yaa,h1,h2,h5v h3,yac,h56 o (by omega)];rfl
end
end Go.Proofs.YtnajckeiaobmkaaGreatDoor
