/- OfflineContinues: a part of the proof of the given statement, which is proved without conditions. -/
import Derived.Test.YtnajckeiaobmkabGreatDoorJ5
import Derived.KernelRfl
set_option linter.all false
namespace Go.Proofs.YtnajckeiaobmkabGreatDoor
open Ev
open Go (IntKind)
section
def h6b {X:Type} {p:X→Bool}:∀{l:List X} {i:Nat},a2u p (λ_ _=>true) false i l=l.any p:=by
 intro l
 induction l with
 |nil=>intros;rfl
 |cons x l ih=>intro i;simp only[a2u,ycb];cases p x with|true=>rfl|false=>rw[yaa,ih,ybg]
def a64 (state kind:Int):Bool:=(c8m kind).any (λx=>x==state)
def e78 {X:Type} {b:Bool} {x y:List X} {n:Nat} (hx:x.length<n) (hy:y.length<n):(bif b then x else y).length<n:=by cases b<;>assumption
def d6r (kind:Int):(c8m kind).length<10:=by
 unfold c8m
 repeat' first|apply e78|decide
def h19 (state kind:Int):qep state kind=some (a64 state kind):=by
 unfold qep a64;rw[c4s];have hl:=d6r kind;generalize c8m kind=l at hl ⊢;have h:=w7 (step:=c4p) (λi=>(state,l,(i:Int),())) l (λx=>x==state) (λ_ _=>(.inr (true,()):Unit⊕(Bool×Unit))) (.inl ()) (by omega)
  (by simp only[c4p,dge,yaa])
  (λi x hx=>by
   have hi:=(zL hx)
   simp only[c4p,dlt hi,d8,hx,yac,wS i])
 dsimp only;rw[show b9 c4p (state,l,0,())=_ from h,←h6b (i:=0)];have key:∀(l:List Int) (i:Nat),(match some (a2u (λx=>x==state) (λ_ _=>(.inr (true,()):Unit⊕(Bool×Unit))) (.inl ()) i l) with|some (.inl _)=>some false|some (.inr (v,_))=>some v|none=>none)=some (a2u (λx=>x==state) (λ_ _=>true) false i l):=by
  intro l
  induction l with
  |nil=>intro i;rfl
  |cons x l ih=>intro i;simp only[a2u];cases x==state with|true=>rfl|false=>exact ih _
 exact key l 0
def p8 (c:Custody) (m:Move):Custody×Int:=
 bif !(a88 c)||!(a87 m) then (⟨0,0,0,0⟩,1)
 else bif !(a64 c.State m.Kind) then (⟨0,0,0,0⟩,12)
 else bif m.Kind==3&&c.State==5&&!(m.Who==c.Who) then (⟨0,0,0,0⟩,16)
 else bif !(c0w c m) then (⟨0,0,0,0⟩,1)
 else bif a0u m.Kind==2 then (⟨a0u m.Kind,m.Branch,0,0⟩,0)
 else bif a0u m.Kind==4||(a0u m.Kind==5||a0u m.Kind==8) then (⟨a0u m.Kind,c.Branch,m.Who,0⟩,0)
 else bif a0u m.Kind==6 then (⟨a0u m.Kind,c.Branch,m.Who,m.Branch⟩,0)
 else bif a0u m.Kind==9||a0u m.Kind==10 then (⟨a0u m.Kind,c.Branch,c.Who,0⟩,0)
 else (⟨a0u m.Kind,c.Branch,0,0⟩,0)
def f5a (c:Custody) (m:Move):qfh c m=some (p8 c m):=by
 unfold qfh p8;simp -zeta only[a0s,p9,a9z,b49,b73,h19,e24,d2v];dsimp only;simp only[a2k]
def a0i:Nat→List Move→Int→Custody→(Custody⊕(Int×Int))
 |_,[],_,c=>.inl c
 |i,x::l,item,c=>bif x.Item==item then (bif (p8 c x).2==0 then a0i (i+1) l item (p8 c x).1 else .inr ((i:Int),(p8 c x).2)) else a0i (i+1) l item c
def a0v (branch:Int) (l:List Move) (item:Int):Custody×Int×Int:=
 bif decide (branch<1)||decide (4<branch) then (⟨0,0,0,0⟩,-1,1)
 else match a0i 0 l item (b1w branch) with
  |.inl c=>(c,-1,0)
  |.inr (i,e)=>(⟨0,0,0,0⟩,i,e)
def b5l {β:Type} (item:Int) (fin:Custody→β) (out:Int×Int→β):∀(l:List Move) (i:Nat) (c:Custody),
 a3p (λi x c=>bif x.Item==item then (bif (p8 c x).2==0 then .inl (p8 c x).1 else .inr (out ((i:Int),(p8 c x).2))) else .inl c) fin i l c=(match a0i i l item c with | .inl c=>fin c | .inr p=>out p):=by
 intro l
 induction l with
 |nil=>intros;rfl
 |cons x l ih=>
  intro i c;simp only[a3p,a0i];cases x.Item==item with
  |false=>exact ih _ _
  |true=>
   simp only[yac];cases (p8 c x).2==0 with
   |true=>exact ih _ _
   |false=>rfl
def h2c {branch:Int} {l:List Move} {item:Int} (hl:l.length<1000000000):qex branch l item=some (a0v branch l item):=by
 unfold qex a0v;simp -zeta only[a0s,f49];dsimp only;have h:=a2g (step:=c4t) (λi c=>(l,item,(i:Int),(⟨0,0,0,0⟩:Custody),c,())) l
  (λi x c=>bif x.Item==item then (bif (p8 c x).2==0 then .inl (p8 c x).1 else .inr (.inr ((i:Int),(p8 c x).2,(⟨0,0,0,0⟩:Custody),()))) else .inl c)
  (λc=>.inl (⟨0,0,0,0⟩,c,())) (by show l.length<18446744073709551616;omega) (λc=>by simp only[c4t,dge,yaa])
  (λi x c hx=>by
   have hi:=(zL hx)
   simp only[c4t,dlt hi,d8,hx,yac,f5a,wS i];cases x.Item==item with
   |false=>rfl
   |true=>
    simp only[yak,yaa,yac];obtain ⟨d,e⟩:=p8 c x;cases he:e==0 with
    |true=>rfl
    |false=>rfl) (b1w branch)
 rw[b5l item (λc=>(.inl (⟨0,0,0,0⟩,c,()):(Custody×Custody×Unit)⊕(Int×Int×Custody×Unit))) (λp=>.inr (p.1,p.2,(⟨0,0,0,0⟩:Custody),()))]at h;rw[show b9 c4t (l,item,0,(⟨0,0,0,0⟩:Custody),b1w branch,())=_ from h];cases (decide (branch<1)||decide (4<branch)) with
 |true=>rfl
 |false=>
  simp only[yaa];cases a0i 0 l item (b1w branch) with
  |inl c=>rfl
  |inr p=>rfl
end
section
def o8 {X:Type} (p:X→Bool) (l:List X):(a66 p l = -1∧l.find? p=none)∨∃(i:Nat) (x:X),a66 p l=(i:Int)∧l[i]?=some x∧p x=true∧l.find? p=some x:=by
 unfold a66
 induction l with
 |nil=>exact .inl ⟨rfl,rfl⟩
 |cons y l ih=>
  simp only[ybI,List.find?_cons];cases hp:p y with
  |true=>exact .inr ⟨0,y,rfl,rfl,hp,rfl⟩
  |false=>
   simp only[yaz,ybd];rcases ih with ⟨h1,h2⟩|⟨i,x,h1,h2,h3,h4⟩
   ·left;refine ⟨?_,h2⟩;cases hf:l.findIdx? p with
    |none=>rfl
    |some k=>rw[hf]at h1;simp only at h1;omega
   ·right;refine ⟨i+1,x,?_,by simpa using h2,h3,h4⟩;cases hf:l.findIdx? p with
    |none=>rw[hf]at h1;simp only at h1;omega
    |some k=>rw[hf]at h1;simp only[ybz]at h1 ⊢;omega
def a6a:decide ((-1:Int)<0)=true:=rfl
def a4f {i:Nat}:decide ((i:Int)<0)=false:=by rw[yaf];omega
def a3e (l:List Patron) (id:Int):Patron×Bool:=match l.find? (λp=>p.ID==id) with|some p=>(p,true)|none=>(⟨0,0,0,0,false,[]⟩,false)
def a3r (l:List Loan) (item:Int):Loan×Bool:=match l.find? (λn=>n.Item==item) with|some n=>(n,true)|none=>(⟨0,0,0,0,0,false⟩,false)
def a93:Hold:=⟨0,0,0,0,0,0,0,0,0,0,0⟩
def p7 (c:Circ) (item:Int):Hold×Bool:=match c.Holds.find? (λh=>h.Got==item) with|some h=>(h,true)|none=>(a93,false)
def a96 {c:Circ} {item:Int} (hl:c.Items.length<1000000000):qgm c item=some (a66 (λx=>x.ID==item) c.Items):=by
 unfold qgm;have h:=w7 (step:=c5a) (λi=>(item,(i:Int),c,())) c.Items (λx=>x.ID==item) (λi _=>(.inr ((i:Int),()):Unit⊕(Int×Unit))) (.inl ()) hl
  (by simp only[c5a,dge,yaa])
  (λi x hx=>by
   have hi:=(zL hx)
   simp only[c5a,dlt hi,d8,hx,yac,wS i])
 rw[show b9 c5a (item,0,c,())=_ from h,←a2j];have:=a1j (p:=λx:Item=>x.ID==item) (g:=λi _=>(.inr ((i:Int),()):Unit⊕(Int×Unit))) (d:=.inl ()) (λz=>match (some z:Option (Unit⊕(Int×Unit))) with|some (.inl _)=>some (-1)|some (.inr (v,_))=>some v|none=>none) (l:=c.Items) (i:=0);exact this.trans ((a1j (p:=λx:Item=>x.ID==item) (g:=λi _=>(i:Int)) (d:=-1) (λz=>some z) (l:=c.Items) (i:=0)).symm)
def a95 {c:Circ} {item:Int} (hl:c.Items.length<1000000000):(qgm c item=some (-1)∧c.Items.find? (λx=>x.ID==item)=none)∨
 ∃(i:Nat) (x:Item),qgm c item=some (i:Int)∧c.Items[i]?=some x∧x.ID=item∧c.Items.find? (λx=>x.ID==item)=some x:=by
 rw[a96 hl];rcases o8 (λx:Item=>x.ID==item) c.Items with ⟨h1,h2⟩|⟨i,x,h1,h2,h3,h4⟩
 ·exact .inl ⟨by rw[h1],h2⟩
 ·exact .inr ⟨i,x,by rw[h1],h2,by simpa using h3,h4⟩
def h2p {l:List Patron} {id:Int} (hl:l.length<1000000000):qgq l id=some (a66 (λx=>x.ID==id) l):=by
 unfold qgq;have h:=w7 (step:=c5d) (λi=>(l,id,(i:Int),())) l (λx=>x.ID==id) (λi _=>(.inr ((i:Int),()):Unit⊕(Int×Unit))) (.inl ()) hl
  (by simp only[c5d,dge,yaa])
  (λi x hx=>by
   have hi:=(zL hx)
   simp only[c5d,dlt hi,d8,hx,yac,wS i])
 rw[show b9 c5d (l,id,0,())=_ from h,←a2j];have:=a1j (p:=λx:Patron=>x.ID==id) (g:=λi _=>(.inr ((i:Int),()):Unit⊕(Int×Unit))) (d:=.inl ()) (λz=>match (some z:Option (Unit⊕(Int×Unit))) with|some (.inl _)=>some (-1)|some (.inr (v,_))=>some v|none=>none) (l:=l) (i:=0);exact this.trans ((a1j (p:=λx:Patron=>x.ID==id) (g:=λi _=>(i:Int)) (d:=-1) (λz=>some z) (l:=l) (i:=0)).symm)
def a5w {l:List Patron} {id:Int} (hl:l.length<1000000000):qgj l id=some (a3e l id):=by
 unfold qgj a3e;rw[h2p hl];rcases o8 (λx:Patron=>x.ID==id) l with ⟨h1,h2⟩|⟨i,x,h1,h2,h3,h4⟩
 ·simp only[h1,h2,a6a,yac]
 ·simp only[h1,h4,a4f,yaa,d8,h2]
def d2w {l:List Loan} {id:Int} (hl:l.length<1000000000):qgp l id=some (a66 (λx=>x.Item==id) l):=by
 unfold qgp;have h:=w7 (step:=c5c) (λi=>(l,id,(i:Int),())) l (λx=>x.Item==id) (λi _=>(.inr ((i:Int),()):Unit⊕(Int×Unit))) (.inl ()) hl
  (by simp only[c5c,dge,yaa])
  (λi x hx=>by
   have hi:=(zL hx)
   simp only[c5c,dlt hi,d8,hx,yac,wS i])
 rw[show b9 c5c (l,id,0,())=_ from h,←a2j];have:=a1j (p:=λx:Loan=>x.Item==id) (g:=λi _=>(.inr ((i:Int),()):Unit⊕(Int×Unit))) (d:=.inl ()) (λz=>match (some z:Option (Unit⊕(Int×Unit))) with|some (.inl _)=>some (-1)|some (.inr (v,_))=>some v|none=>none) (l:=l) (i:=0);exact this.trans ((a1j (p:=λx:Loan=>x.Item==id) (g:=λi _=>(i:Int)) (d:=-1) (λz=>some z) (l:=l) (i:=0)).symm)
def e23 {l:List Loan} {id:Int} (hl:l.length<1000000000):qf4 l id=some (a3r l id):=by
 unfold qf4 a3r;rw[d2w hl];rcases o8 (λx:Loan=>x.Item==id) l with ⟨h1,h2⟩|⟨i,x,h1,h2,h3,h4⟩
 ·simp only[h1,h2,a6a,yac]
 ·simp only[h1,h4,a4f,yaa,d8,h2]
def b48 {c:Circ} {item:Int} (hl:c.Holds.length<1000000000):qet c item=some (p7 c item):=by
 unfold qet p7;have h:=w7 (step:=c4q) (λi=>(item,(i:Int),c,a93,())) c.Holds (λx=>x.Got==item) (λ_ x=>(.inr (true,x,()):(Hold×Unit)⊕(Bool×Hold×Unit))) (.inl (a93,())) hl
  (by simp only[c4q,dge,yaa])
  (λi x hx=>by
   have hi:=(zL hx)
   simp only[c4q,dlt hi,d8,hx,yac,wS i])
 rw[show b9 c4q (item,0,c,(⟨0,0,0,0,0,0,0,0,0,0,0⟩:Hold),())=_ from h,b0k];cases c.Holds.find? (λx=>x.Got==item)<;>rfl
def a4y (c:Circ) (i:Nat) (x:Item):Bool:=
 !(decide (x.ID<1)||decide (9999<x.ID)||u7 c.Items i (λy=>decide (x.ID≤y.ID))||decide (x.Record<1)||decide (9999<x.Record)||decide (x.Branch<1)||decide (4<x.Branch))&&
 !(decide (x.Kind<1)||decide (9<x.Kind)||decide (x.Price<0)||decide (100000000<x.Price)||decide (200<(x.Call.length:Int))||!(vld x.Call))&&
 !(!((a0v x.Branch c.Moves x.ID).2.2==0)||!(u0 (a0v x.Branch c.Moves x.ID).1 x.Custody))
def a6m (c:Circ):Bool:=!(decide (64<(c.Items.length:Int))||decide (2000<(c.Moves.length:Int)))&&(a1s (a4y c) 0 c.Items&&c.Moves.all (λm=>(c.Items.find? (λx=>x.ID==m.Item)).isSome))
structure Short (c:Circ):Prop where
 items:c.Items.length<1000000000
 patrons:c.Patrons.length<1000000000
 loans:c.Loans.length<1000000000
 holds:c.Holds.length<1000000000
 charges:c.Charges.length<1000000000
 rules:c.Rules.length<1000000000
 moves:c.Moves.length<1000000000
 call:∀x∈c.Items,x.Call.length<10000000
 name:∀x∈c.Patrons,x.Name.length<10000000
 cal0:c.Cals.x0.Closed.length<1000000000
 cal1:c.Cals.x1.Closed.length<1000000000
 cal2:c.Cals.x2.Closed.length<1000000000
 cal3:c.Cals.x3.Closed.length<1000000000
def d5x {c:Circ} (hs:Short c):b9 b71 (0,c,())=some (bif a1s (a4y c) 0 c.Items then .inl (c,()) else .inr (false,())):=by
 have h:=j9 (step:=b71) (λi=>((i:Int),c,())) c.Items (a4y c) (.inr (false,())) (.inl (c,())) hs.items
  (by simp only[b71,dge,yaa])
  (λi x hx=>by
   have hi:=(zL hx)
   have hm:=yag hx;have hv:=f5d (s:=x.Call) (by have:=hs.call x hm;omega);have hr:=h2c (branch:=x.Branch) (item:=x.ID) hs.moves;unfold a4y;rcases i with _|j
   ·simp -zeta only[b71,dlt hi,d8,hx,a0s,p9,b58,yaa,yac,u7,w9 (show 0<9223372036854775807 by omega),hv,hr];dsimp only;generalize (decide (x.ID<1)||decide (9999<x.ID)||false||decide (x.Record<1)||decide (9999<x.Record)||decide (x.Branch<1)||decide (4<x.Branch))=b1;generalize (decide (x.Kind<1)||decide (9<x.Kind)||decide (x.Price<0)||decide (100000000<x.Price)||decide (200<(x.Call.length:Int))||!(vld x.Call))=b2;generalize (!((a0v x.Branch c.Moves x.ID).2.2==0)||!(u0 (a0v x.Branch c.Moves x.ID).1 x.Custody))=b3;cases b1<;>cases b2<;>cases b3<;>rfl
   ·have hj:c.Items[j]?=some c.Items[j]:=yab (by omega);have:=hs.items;simp -zeta only[b71,dlt hi,d8,hx,a0s,p9,d9x,a30 (show j<1000000000 by omega),hj,yaa,yac,ya8,u7,w9 (show j+1<9223372036854775807 by omega),hv,hr];dsimp only;generalize (decide (x.ID<1)||decide (9999<x.ID)||decide (x.ID≤c.Items[j].ID)||decide (x.Record<1)||decide (9999<x.Record)||decide (x.Branch<1)||decide (4<x.Branch))=b1;generalize (decide (x.Kind<1)||decide (9<x.Kind)||decide (x.Price<0)||decide (100000000<x.Price)||decide (200<(x.Call.length:Int))||!(vld x.Call))=b2;generalize (!((a0v x.Branch c.Moves x.ID).2.2==0)||!(u0 (a0v x.Branch c.Moves x.ID).1 x.Custody))=b3;cases b1<;>cases b2<;>cases b3<;>rfl)
 exact h
def c8l {c:Circ} (hs:Short c):b9 b00 (0,c,())=some (bif c.Moves.all (λm=>(c.Items.find? (λx=>x.ID==m.Item)).isSome) then .inl () else .inr (false,())):=by
 have h:=j9 (step:=b00) (λi=>((i:Int),c,())) c.Moves (λ_ m=>(c.Items.find? (λx=>x.ID==m.Item)).isSome) (.inr (false,())) (.inl ()) hs.moves
  (by simp only[b00,dge,yaa])
  (λi x hx=>by
   have hi:=(zL hx)
   have:=hs.moves;simp only[b00,dlt hi,d8,hx,yac,wS i];rcases a95 (item:=x.Item) hs.items with ⟨h1,h2⟩|⟨k,y,h1,h2,h3,h4⟩
   ·simp only[h1,h2,a6a,yac,yb5,yaa]
   ·simp only[h1,h4,a4f,yaa,Option.isSome_some,yac])
 rw[show b9 b00 (0,c,())=_ from h,o0]
def h15 {c:Circ} (hs:Short c):qee c=some (a6m c):=by
 unfold qee a6m;simp -zeta only[a0s];dsimp only;rw[d5x hs];cases (decide (64<(c.Items.length:Int))||decide (2000<(c.Moves.length:Int))) with
 |true=>rfl
 |false=>
  cases a1s (a4y c) 0 c.Items with
  |false=>rfl
  |true=>
   simp only[yaa,yac,c8l hs];cases c.Moves.all (λm=>(c.Items.find? (λx=>x.ID==m.Item)).isSome)<;>rfl
def a3m (c:Circ) (n:Loan):Bool:=match c.Items.find? (λx=>x.ID==n.Item) with
 |some x=>!(!(a3e c.Patrons n.Patron).2||!(a3f x.Custody)||!(x.Custody.Who==n.Patron))
 |none=>false
def a2b (c:Circ):Bool:=c.Loans.all (a3m c)&&c.Items.all (λx=>(a3r c.Loans x.ID).2==a3f x.Custody)
def h14 {c:Circ} (hs:Short c):qed c=some (a2b c):=by
 have h1:=j9 (step:=b70) (λi=>((i:Int),c,())) c.Loans (λ_=>a3m c) (.inr (false,())) (.inl (c,())) hs.loans
  (by simp only[b70,dge,yaa])
  (λi x hx=>by
   have hi:=(zL hx)
   have:=hs.loans;unfold a3m;rcases a95 (item:=x.Item) hs.items with ⟨h1,h2⟩|⟨k,y,h1,h2,h3,h4⟩
   ·simp -zeta only[b70,dlt hi,d8,hx,yac,a0s,a5w hs.patrons,h1,h2,a6a,Bool.true_or]
    try rfl
   ·simp -zeta only[b70,dlt hi,d8,hx,yac,a0s,a5w hs.patrons,h1,h2,h4,a4f,ybg,e2z,wS i];dsimp only;cases (!(a3e c.Patrons x.Patron).2||!(a3f y.Custody)||!(y.Custody.Who==x.Patron))<;>rfl)
 have h2:=j9 (step:=b45) (λi=>((i:Int),c,())) c.Items (λ_ x=>(a3r c.Loans x.ID).2==a3f x.Custody) (.inr (false,())) (.inl ()) hs.items
  (by simp only[b45,dge,yaa])
  (λi x hx=>by
   have hi:=(zL hx)
   have:=hs.items;simp only[b45,dlt hi,d8,hx,yac,e23 hs.loans,e2z,wS i];cases (a3r c.Loans x.ID).2==a3f x.Custody<;>rfl)
 unfold qed a2b;rw[show b9 b70 (0,c,())=_ from h1,o0];cases c.Loans.all (a3m c) with
 |false=>rfl
 |true=>
  simp only[yac];rw[show b9 b45 (0,c,())=_ from h2,o0];cases c.Items.all (λx=>(a3r c.Loans x.ID).2==a3f x.Custody)<;>rfl
def a3k (c:Circ) (h:Hold):Bool:=
 !(!(a3e c.Patrons h.Patron).2||decide (c.NextHold≤h.ID))&&(h.State==1||(match c.Items.find? (λx=>x.ID==h.Got) with
  |some x=>!(!(x.Record==h.Record))&&!(h.State==3&&(!(x.Custody.State==5)||!(x.Custody.Branch==h.Pickup)||!(x.Custody.Who==h.Patron)))&&
   !(h.State==2&&(!(x.Custody.State==6)||!(x.Custody.To==h.Pickup)||!(x.Custody.Who==h.Patron)))
  |none=>false))
def a1l (c:Circ) (x:Item):Bool:=!(x.Custody.State==5)||!(!(p7 c x.ID).2||!((p7 c x.ID).1.State==3))
def a4i (c:Circ):Bool:=c.Holds.all (a3k c)&&c.Items.all (a1l c)
def h16 {c:Circ} (hs:Short c):qef c=some (a4i c):=by
 have h1:=j9 (step:=b72) (λi=>((i:Int),c,())) c.Holds (λ_=>a3k c) (.inr (false,())) (.inl (c,())) hs.holds
  (by simp only[b72,dge,yaa])
  (λi x hx=>by
   have hi:=(zL hx)
   have:=hs.holds;unfold a3k;rcases a95 (item:=x.Got) hs.items with ⟨h1,h2⟩|⟨k,y,h1,h2,h3,h4⟩
   ·simp -zeta only[b72,dlt hi,d8,hx,yac,a0s,a5w hs.patrons,h1,h2,a6a,wS i];dsimp only;cases (!(a3e c.Patrons x.Patron).2||decide (c.NextHold≤x.ID)) with
    |true=>rfl
    |false=>cases x.State==1<;>rfl
   ·simp -zeta only[b72,dlt hi,d8,hx,yac,a0s,p9,a5w hs.patrons,h1,h2,h4,a4f,yaa,wS i];dsimp only;generalize (!(a3e c.Patrons x.Patron).2||decide (c.NextHold≤x.ID))=b1;generalize (x.State==1)=b2;generalize (!(y.Record==x.Record))=b3;generalize (!(y.Custody.State==5)||!(y.Custody.Branch==x.Pickup)||!(y.Custody.Who==x.Patron))=b4;generalize (!(y.Custody.State==6)||!(y.Custody.To==x.Pickup)||!(y.Custody.Who==x.Patron))=b5;generalize (x.State==3)=b6;generalize (x.State==2)=b7;cases b1<;>cases b2<;>cases b3<;>cases b4<;>cases b5<;>cases b6<;>cases b7<;>rfl)
 have h2:=j9 (step:=b46) (λi=>((i:Int),c,())) c.Items (λ_=>a1l c) (.inr (false,())) (.inl ()) hs.items
  (by simp only[b46,dge,yaa])
  (λi x hx=>by
   have hi:=(zL hx)
   have:=hs.items;unfold a1l;simp -zeta only[b46,dlt hi,d8,hx,yac,a0s,b48 hs.holds,wS i];dsimp only;cases x.Custody.State==5 with
   |false=>rfl
   |true=>
    generalize (!(p7 c x.ID).2||!((p7 c x.ID).1.State==3))=b;cases b<;>rfl)
 unfold qef a4i;rw[show b9 b72 (0,c,())=_ from h1,o0];cases c.Holds.all (a3k c) with
 |false=>rfl
 |true=>
  simp only[yac];rw[show b9 b46 (0,c,())=_ from h2,o0];cases c.Items.all (a1l c)<;>rfl
end
section
def a3i (c:Circ):Bool:=a0j c.Cals.x0==0&&(a0j c.Cals.x1==0&&(a0j c.Cals.x2==0&&a0j c.Cals.x3==0))
def d5v {c:Circ} (hs:Short c):b9 b42 (0,c,())=some (bif a3i c then .inl (c,()) else .inr (false,())):=by
 have s0:b42 (0,c,())=bif a0j c.Cals.x0==0 then some (.inl (1,c,())) else some (.inr (.inr (false,()))):=by
  show (match qfn c.Cals.x0 with|some r=>(bif !(r==0) then (some (.inr (.inr (false,()))):Option ((Int×Circ×Unit)⊕((Circ×Unit)⊕(Bool×Unit)))) else some (.inl (1,c,())))|none=>none)=_
  rw[c42 hs.cal0];dsimp only;cases a0j c.Cals.x0==0<;>rfl
 have s1:b42 (1,c,())=bif a0j c.Cals.x1==0 then some (.inl (2,c,())) else some (.inr (.inr (false,()))):=by
  show (match qfn c.Cals.x1 with|some r=>(bif !(r==0) then (some (.inr (.inr (false,()))):Option ((Int×Circ×Unit)⊕((Circ×Unit)⊕(Bool×Unit)))) else some (.inl (2,c,())))|none=>none)=_
  rw[c42 hs.cal1];dsimp only;cases a0j c.Cals.x1==0<;>rfl
 have s2:b42 (2,c,())=bif a0j c.Cals.x2==0 then some (.inl (3,c,())) else some (.inr (.inr (false,()))):=by
  show (match qfn c.Cals.x2 with|some r=>(bif !(r==0) then (some (.inr (.inr (false,()))):Option ((Int×Circ×Unit)⊕((Circ×Unit)⊕(Bool×Unit)))) else some (.inl (3,c,())))|none=>none)=_
  rw[c42 hs.cal2];dsimp only;cases a0j c.Cals.x2==0<;>rfl
 have s3:b42 (3,c,())=bif a0j c.Cals.x3==0 then some (.inl (4,c,())) else some (.inr (.inr (false,()))):=by
  show (match qfn c.Cals.x3 with|some r=>(bif !(r==0) then (some (.inr (.inr (false,()))):Option ((Int×Circ×Unit)⊕((Circ×Unit)⊕(Bool×Unit)))) else some (.inl (4,c,())))|none=>none)=_
  rw[c42 hs.cal3];dsimp only;cases a0j c.Cals.x3==0<;>rfl
 have s4:b42 (4,c,())=some (.inr (.inl (c,()))):=rfl;refine o6 5 (by rw[n9];omega) ?_;unfold a3i;simp only[o7,s0,s1,s2,s3,s4];cases a0j c.Cals.x0==0 with
 |false=>rfl
 |true=>
  simp only[yac,o7,s1];cases a0j c.Cals.x1==0 with
  |false=>rfl
  |true=>
   simp only[yac,o7,s2];cases a0j c.Cals.x2==0 with
   |false=>rfl
   |true=>
    simp only[yac,o7,s3];cases a0j c.Cals.x3==0 with
    |false=>rfl
    |true=>simp only[yac,o7,s4];rfl
def a0x (c:Circ) (x:Charge):Bool:=!(!(a3e c.Patrons x.Patron).2||decide (c.NextCharge≤x.ID))
def c8i {c:Circ} (hs:Short c):b9 b0y (0,c,())=some (bif c.Charges.all (a0x c) then .inl (c,()) else .inr (false,())):=by
 have h:=j9 (step:=b0y) (λi=>((i:Int),c,())) c.Charges (λ_=>a0x c) (.inr (false,())) (.inl (c,())) hs.charges
  (by simp only[b0y,dge,yaa])
  (λi x hx=>by
   have hi:=(zL hx)
   have:=hs.charges;unfold a0x;simp -zeta only[b0y,dlt hi,d8,hx,yac,a0s,a5w hs.patrons,wS i];dsimp only;cases (!(a3e c.Patrons x.Patron).2||decide (c.NextCharge≤x.ID))<;>rfl)
 rw[show b9 b0y (0,c,())=_ from h,o0]
def a36 (c:Circ):Bool:=!(decide (c.Today<0)||decide (109572<c.Today)||decide (c.NextHold<1)||decide (100000<c.NextHold)||decide (c.NextCharge<1)||decide (100000<c.NextCharge))
def a3l (c:Circ):Bool:=!(!(a05 c.Patrons==0)||!(o4 c.Loans==0)||!(w8 c.Holds==0)||!(o9 c.Charges==0)||!(a2w c.Rules==0))
def a4u (c:Circ):Bool:=a36 c&&(a3l c&&(a3i c&&(c.Charges.all (a0x c)&&(a6m c&&(a2b c&&a4i c)))))
def h1y {c:Circ} (hs:Short c):qe6 c=some (a4u c):=by
 unfold qe6 a4u a36 a3l;simp -zeta only[a0s,p9,h2h hs.patrons hs.name,f47 hs.loans,h1z hs.holds,f5b hs.charges,h2i hs.rules];dsimp only;rw[d5v hs];generalize (decide (c.Today<0)||decide (109572<c.Today)||decide (c.NextHold<1)||decide (100000<c.NextHold)||decide (c.NextCharge<1)||decide (100000<c.NextCharge))=b1;generalize (!(a05 c.Patrons==0)||!(o4 c.Loans==0)||!(w8 c.Holds==0)||!(o9 c.Charges==0)||!(a2w c.Rules==0))=b2;cases b1 with
 |true=>rfl
 |false=>
  cases b2 with
  |true=>rfl
  |false=>
   cases a3i c with
   |false=>rfl
   |true=>
    simp only[yaa,yac,c8i hs];cases c.Charges.all (a0x c) with
    |false=>rfl
    |true=>
     simp -zeta only[yaa,yac,h15 hs,h14 hs,h16 hs,p9]
     try dsimp only
     cases a6m c<;>cases a2b c<;>cases a4i c<;>rfl
structure SmallP (c:Circ):Prop where
 items:c.Items.length≤10
 patrons:c.Patrons.length≤8
 holds:c.Holds.length≤12
 loans:c.Loans.length≤12
 charges:c.Charges.length≤30
 rules:c.Rules.length≤10
 moves:c.Moves.length≤200
 call:∀x∈c.Items,x.Call.length≤300
 name:∀x∈c.Patrons,x.Name.length≤300
 cal0:c.Cals.x0.Closed.length≤20
 cal1:c.Cals.x1.Closed.length≤20
 cal2:c.Cals.x2.Closed.length≤20
 cal3:c.Cals.x3.Closed.length≤20
def SmallP.short {c:Circ} (h:SmallP c):Short c:=by
 obtain ⟨h1,h2,h3,h4,h5,h6,h7,h8,h9,h10,h11,h12,h13⟩:=h;exact ⟨by omega,by omega,by omega,by omega,by omega,by omega,by omega,λx hx=>by have:=h8 x hx;omega,λx hx=>by have:=h9 x hx;omega,by omega,by omega,by omega,by omega⟩
end
section
def h07 {γ0:Type} {p:γ0→Patron→Option Bool} {q:Patron→Bool} {s:List Patron} {g:γ0} (hs:s.length<1000000000) (hp:∀x∈s,p g x=some (q x)):qau p s g=some (a66 q s):=by
 have h:=w7 (step:=b7x p) (λi=>(s,g,(s.length:Int),(i:Int),())) s q (λi _=>(.inr ((i:Int),()):Unit⊕(Int×Unit))) (.inl ()) hs
  (by simp only[b7x,dge,yaa])
  (λi x hx=>by
   have hi:=(zL hx)
   simp only[b7x,dlt hi,yac,d8,hx,hp x (yag hx),wS i])
 unfold qau;rw[show b9 (b7x p) (s,g,(s.length:Int),0,())=_ from h,←a2j];have:=a1j (p:=q) (g:=λi _=>(.inr ((i:Int),()):Unit⊕(Int×Unit))) (d:=.inl ()) (λz=>match (some z:Option (Unit⊕(Int×Unit))) with|some (.inl _)=>some (-1)|some (.inr (v,_))=>some v|none=>none) (l:=s) (i:=0);exact this.trans ((a1j (p:=q) (g:=λi _=>(i:Int)) (d:=-1) (λz=>some z) (l:=s) (i:=0)).symm)
def d2s {l:List Patron} {id:Int} (hl:l.length<1000000000):qbr l id=some (a3e l id):=by
 unfold qbr qbb a3e;rw[h07 (q:=λx=>x.ID==id) hl (λx _=>rfl)];rcases o8 (λx:Patron=>x.ID==id) l with ⟨h1,h2⟩|⟨i,x,h1,h2,h3,h4⟩
 ·simp only[h1,h2,a6a,yac]
 ·simp only[h1,h4,a4f,yaa,d8,h2]
end
section
def a3n (lo hi n:Int):(!(rng lo hi n))=(decide (n<lo)||decide (hi<n)):=by
 unfold rng;by_cases h1:n<lo
 ·have:¬lo≤n:=by omega
  simp[h1,this]
 ·have:lo≤n:=by omega
  by_cases h2:hi<n
  ·have:¬n≤hi:=by omega
   simp[*]
  ·have:n≤hi:=by omega
   simp[*]
def g0u {X:Type} (p:X→Bool) (l:List X):decide (a66 p l<0)=!(l.any p):=by
 unfold a66
 induction l with
 |nil=>rfl
 |cons y l ih=>
  simp only[ybI,ycb];cases hp:p y with
  |true=>rfl
  |false=>
   simp only[yaz,ybd,ybg];rw[←ih];cases l.findIdx? p with
   |none=>rfl
   |some k=>simp only[ybz];rw[decide_eq_decide];omega
def b95 {X:Type} (p:X→Bool) (l:List X):decide (0≤a66 p l)=l.any p:=by
 have h:=g0u p l;cases hb:l.any p with
 |true=>rw[hb]at h;simp at h ⊢;omega
 |false=>rw[hb]at h;simp at h ⊢;omega
def g20 {γ:Type} {p:γ→Int→Option Bool} {g:γ} (q:Int→Bool) {l:List Int} (hl:l.length<1000000000) (hp:∀x∈l,p g x=some (q x)):qan p l g=some (a66 q l):=by
 have h:=w7 (step:=b7s p) (λi=>(l,g,(l.length:Int),(i:Int),())) l q (λi _=>(.inr ((i:Int),()):(Unit)⊕(Int×Unit))) (.inl ()) hl
  (by simp only[b7s,dge,yaa])
  (λi x hx=>by
   have hi:=(zL hx)
   simp only[b7s,dlt hi,d8,hx,yac,hp x (yag hx),wS i])
 unfold qan;rw[show b9 (b7s p) (l,g,(l.length:Int),0,())=_ from h];have e:=a1j (p:=q) (g:=λi _=>(.inr ((i:Int),()):(Unit)⊕(Int×Unit))) (d:=.inl ()) (λr:(Unit)⊕(Int×Unit)=>match r with | .inl (_)=>(-1:Int) | .inr (v,_)=>v) (l:=l) (i:=0);dsimp only at e;rw[←a2j,←e];generalize a2u q (λi _=>(.inr ((i:Int),()):(Unit)⊕(Int×Unit))) (.inl ()) 0 l=r;rcases r with _|⟨v,_⟩<;>rfl
def g28 {γ:Type} {p:γ→Int→Option Bool} {g:γ} (q:Int→Bool) {l:List Int} (hl:l.length<1000000000) (hp:∀x∈l,p g x=some (q x)):qdr p l g=some (l.any q):=by
 unfold qdr;rw[g20 q hl hp];dsimp only;rw[b95]
def g2z {γ:Type} {p:γ→Rule→Option Bool} {g:γ} (q:Rule→Bool) {l:List Rule} (hl:l.length<1000000000) (hp:∀x∈l,p g x=some (q x)):qam p l g=some (a66 q l):=by
 have h:=w7 (step:=b7r p) (λi=>(l,g,(l.length:Int),(i:Int),())) l q (λi _=>(.inr ((i:Int),()):(Unit)⊕(Int×Unit))) (.inl ()) hl
  (by simp only[b7r,dge,yaa])
  (λi x hx=>by
   have hi:=(zL hx)
   simp only[b7r,dlt hi,d8,hx,yac,hp x (yag hx),wS i])
 unfold qam;rw[show b9 (b7r p) (l,g,(l.length:Int),0,())=_ from h];have e:=a1j (p:=q) (g:=λi _=>(.inr ((i:Int),()):(Unit)⊕(Int×Unit))) (d:=.inl ()) (λr:(Unit)⊕(Int×Unit)=>match r with | .inl (_)=>(-1:Int) | .inr (v,_)=>v) (l:=l) (i:=0);dsimp only at e;rw[←a2j,←e];generalize a2u q (λi _=>(.inr ((i:Int),()):(Unit)⊕(Int×Unit))) (.inl ()) 0 l=r;rcases r with _|⟨v,_⟩<;>rfl
def g26 {γ:Type} {p:γ→Rule→Option Bool} {g:γ} (q:Rule→Bool) {l:List Rule} (hl:l.length<1000000000) (hp:∀x∈l,p g x=some (q x)):qdq p l g=some (l.any q):=by
 unfold qdq;rw[g2z q hl hp];dsimp only;rw[b95]
def e2y {γ:Type} {p:γ→Loan→Option Bool} {g:γ} (q:Loan→Bool) {l:List Loan} (hl:l.length<1000000000) (hp:∀x∈l,p g x=some (q x)):qe p l g=some (a66 q l):=by
 have h:=w7 (step:=b1v p) (λi=>(l,g,(l.length:Int),(i:Int),())) l q (λi _=>(.inr ((i:Int),()):(Unit)⊕(Int×Unit))) (.inl ()) hl
  (by simp only[b1v,dge,yaa])
  (λi x hx=>by
   have hi:=(zL hx)
   simp only[b1v,dlt hi,d8,hx,yac,hp x (yag hx),wS i])
 unfold qe;rw[show b9 (b1v p) (l,g,(l.length:Int),0,())=_ from h];have e:=a1j (p:=q) (g:=λi _=>(.inr ((i:Int),()):(Unit)⊕(Int×Unit))) (d:=.inl ()) (λr:(Unit)⊕(Int×Unit)=>match r with | .inl (_)=>(-1:Int) | .inr (v,_)=>v) (l:=l) (i:=0);dsimp only at e;rw[←a2j,←e];generalize a2u q (λi _=>(.inr ((i:Int),()):(Unit)⊕(Int×Unit))) (.inl ()) 0 l=r;rcases r with _|⟨v,_⟩<;>rfl
def h2l {γ:Type} {p:γ→Item→Option Bool} {g:γ} (q:Item→Bool) {l:List Item} (hl:l.length<1000000000) (hp:∀x∈l,p g x=some (q x)):qg p l g=some (a66 q l):=by
 have h:=w7 (step:=d55 p) (λi=>(l,g,(l.length:Int),(i:Int),())) l q (λi _=>(.inr ((i:Int),()):(Unit)⊕(Int×Unit))) (.inl ()) hl
  (by simp only[d55,dge,yaa])
  (λi x hx=>by
   have hi:=(zL hx)
   simp only[d55,dlt hi,d8,hx,yac,hp x (yag hx),wS i])
 unfold qg;rw[show b9 (d55 p) (l,g,(l.length:Int),0,())=_ from h];have e:=a1j (p:=q) (g:=λi _=>(.inr ((i:Int),()):(Unit)⊕(Int×Unit))) (d:=.inl ()) (λr:(Unit)⊕(Int×Unit)=>match r with | .inl (_)=>(-1:Int) | .inr (v,_)=>v) (l:=l) (i:=0);dsimp only at e;rw[←a2j,←e];generalize a2u q (λi _=>(.inr ((i:Int),()):(Unit)⊕(Int×Unit))) (.inl ()) 0 l=r;rcases r with _|⟨v,_⟩<;>rfl
def b7n {γ:Type} {p:γ→Hold→Option Bool} {g:γ} (q:Hold→Bool) {l:List Hold} (hl:l.length<1000000000) (hp:∀x∈l,p g x=some (q x)):qa p l g=some (a66 q l):=by
 have h:=w7 (step:=b6i p) (λi=>(l,g,(l.length:Int),(i:Int),())) l q (λi _=>(.inr ((i:Int),()):(Unit)⊕(Int×Unit))) (.inl ()) hl
  (by simp only[b6i,dge,yaa])
  (λi x hx=>by
   have hi:=(zL hx)
   simp only[b6i,dlt hi,d8,hx,yac,hp x (yag hx),wS i])
 unfold qa;rw[show b9 (b6i p) (l,g,(l.length:Int),0,())=_ from h];have e:=a1j (p:=q) (g:=λi _=>(.inr ((i:Int),()):(Unit)⊕(Int×Unit))) (d:=.inl ()) (λr:(Unit)⊕(Int×Unit)=>match r with | .inl (_)=>(-1:Int) | .inr (v,_)=>v) (l:=l) (i:=0);dsimp only at e;rw[←a2j,←e];generalize a2u q (λi _=>(.inr ((i:Int),()):(Unit)⊕(Int×Unit))) (.inl ()) 0 l=r;rcases r with _|⟨v,_⟩<;>rfl
def e2q {γ:Type} {p:γ→Hold→Option Bool} {g:γ} (q:Hold→Bool) {l:List Hold} (hl:l.length<1000000000) (hp:∀x∈l,p g x=some (q x)):qb1 p l g=some (l.any q):=by
 unfold qb1;rw[b7n q hl hp];dsimp only;rw[b95]
def d2p (n lo hi:Int):qax n lo hi=some (rng lo hi n):=by
 unfold qax;simp -zeta only[a0s,p9]
 try rfl
def e2s (n lo hi:Int):qbh n lo hi=some (rng lo hi n):=by
 unfold qbh;simp -zeta only[a0s,p9]
 try rfl
def f4l (n lo hi:Int):qba n lo hi=some (rng lo hi n):=by
 unfold qba;simp -zeta only[a0s,p9]
 try rfl
def f4x (n:Int):qdp n=some (rng 1 9999 n):=by
 unfold qdp;simp -zeta only[a0s,p9]
 try rfl
def f4v (n:Int):qdm n=some (rng 0 109572 n):=by
 unfold qdm;simp -zeta only[a0s,p9]
 try rfl
def h1e (n:Int):qc5 n=some (rng 0 109572 n):=by
 unfold qc5;simp -zeta only[a0s,p9]
 try rfl
def h1l (n:Int):qd1 n=some (rng 1 9999 n):=by
 unfold qd1;simp -zeta only[a0s,p9]
 try rfl
def e2t (n:Int):qce n=some (rng 0 109572 n):=by
 unfold qce;simp -zeta only[a0s,p9]
 try rfl
def h1r (n:Int):qdj n=some (rng 0 109572 n):=by
 unfold qdj;rw[e2s]
def a3x (x:Charge):Int:=
 bif decide (x.ID<1)||decide (99999<x.ID)||decide (x.Patron<1)||decide (9999<x.Patron)||decide (x.Item<1)||decide (9999<x.Item)||!(rng 0 109572 x.Day) then 2
 else bif decide (x.Kind<1)||decide (3<x.Kind) then 1
 else bif decide (x.Amount<1)||decide (100000000<x.Amount)||decide (x.Paid<0)||decide (x.Amount≤x.Paid) then 2 else 0
def f4o (x:Charge):qbk x=some (a3x x):=by
 unfold qbk a3x;simp -zeta only[a0s,p9,h1e,h1l,a3n 1 9999,ybM];dsimp only;simp only[a2k,ybM]
def a7l {α β:Type} (a:α) (g:Int→β) (e:Int):(bif !(e==0) then some (.inr (g e)) else some (.inl a):Option (α⊕β))=a65 a g e:=by
 unfold a65;cases e==0<;>rfl
def b29 (l:List Charge) (i:Nat) (x:Charge):a1t l i x=bif u7 l i (λy=>decide (x.ID≤y.ID)) then 7 else a3x x:=rfl
def d5p {l:List Charge} (hl:l.length<1000000000):b9 b4r (l,l,(l.length:Int),0,())=some (if a0e (a1t l) 0 l==0 then .inl () else .inr (a0e (a1t l) 0 l,())):=by
 have h:=a06 (step:=b4r) (λi=>(l,l,(l.length:Int),(i:Int),())) l (a1t l) (.inl ()) (λe=>.inr (e,())) hl
  (by simp only[b4r,dge,yaa])
  (λi x hx=>by
   have hi:=(zL hx)
   have hxm:=yag hx;rw[b29,a0z,←a7l _ _ (a3x x)];rcases i with _|j
   ·simp -zeta only[b4r,dlt hi,d8,hx,a0s,p9,b58,yaa,yac,u7,w9 (show 0<9223372036854775807 by omega),f4o]
    try rfl
   ·have hj:l[j]?=some l[j]:=yab (by omega);simp -zeta only[b4r,dlt hi,d8,hx,a0s,p9,d9x,a30 (show j<1000000000 by omega),hj,yaa,yac,u7,w9 (show j+1<9223372036854775807 by omega),f4o];rfl)
 exact h
def f4i {l:List Charge} (hl:l.length<1000000000):qaf l=some (o9 l):=by
 unfold qaf o9;rw[d5p hl];generalize a0e (a1t l) 0 l=e;cases decide (128<(l.length:Int)) with
 |true=>rfl
 |false=>
  by_cases h:e=0
  ·subst h;rfl
  ·have h2:(e==0)=false:=by simpa using h
   simp only[h2,yaz,ybd,yaa]
def d5o {l:List Loan} (hl:l.length<1000000000):b9 b4p (l,l,(l.length:Int),0,())=some (if a0e (a4o l) 0 l==0 then .inl () else .inr (a0e (a4o l) 0 l,())):=by
 have h:=a06 (step:=b4p) (λi=>(l,l,(l.length:Int),(i:Int),())) l (a4o l) (.inl ()) (λe=>.inr (e,())) hl
  (by simp only[b4p,dge,yaa])
  (λi x hx=>by
   have hi:=(zL hx)
   have hxm:=yag hx;unfold a4o;simp only[a0z];rcases i with _|j
   ·simp -zeta only[b4p,dlt hi,d8,hx,a0s,p9,b58,yaa,yac,u7,w9 (show 0<9223372036854775807 by omega),f4x,f4v,a3n,ybM];simp only[ybM]
    try rfl
   ·have hj:l[j]?=some l[j]:=yab (by omega);simp -zeta only[b4p,dlt hi,d8,hx,a0s,p9,d9x,a30 (show j<1000000000 by omega),hj,yaa,yac,u7,w9 (show j+1<9223372036854775807 by omega),f4x,f4v,a3n,ybM];simp only[ybM];rfl)
 exact h
def f4g {l:List Loan} (hl:l.length<1000000000):qaa l=some (o4 l):=by
 unfold qaa o4;rw[d5o hl];generalize a0e (a4o l) 0 l=e;cases decide (64<(l.length:Int)) with
 |true=>rfl
 |false=>
  by_cases h:e=0
  ·subst h;rfl
  ·have h2:(e==0)=false:=by simpa using h
   simp only[h2,yaz,ybd,yaa]
def a5f (x:Patron):Int:=
 bif decide (x.Kind<1)||decide (9<x.Kind)||decide (x.Branch<1)||decide (4<x.Branch) then 1
 else bif decide (x.Until<0)||decide (109572<x.Until) then 2
 else bif x.Name==[]||!(vld x.Name)||!(cln x.Name==x.Name) then 3
 else bif decide (200<(x.Name.length:Int)) then 4 else 0
def h1c {x:Patron} (h:x.Name.length<10000000):qc0 x=some (a5f x):=by
 have hV:qbz x.Name=some (vld x.Name):=by
  have:decide (x.Name.length≤LIM)=true:=by rw[yad];unfold LIM;omega
  unfold qbz;rw[this];rfl
 have hC:vld x.Name=true→qb8 x.Name=some (cln x.Name):=λhv=>by
  have:decide (x.Name.length≤LIM)=true:=by rw[yad];unfold LIM;omega
  unfold qb8;rw[this,hv];rfl
 unfold qc0 a5f;simp -zeta only[a0s,p9,hV];cases hv:vld x.Name with
 |true=>
  rw[hC hv];simp -zeta only[a0s,p9,yak,Bool.or_false];dsimp only;simp only[a2k]
 |false=>
  simp -zeta only[a0s,p9,yar,Bool.or_true,Bool.true_or,yac];dsimp only;simp only[a2k,yac]
def c27 (l:List Patron):Nat→Int
 |0=>0
 |j+1=>match l[j]? with|some y=>y.ID|none=>0
def b4i (l:List Patron) (i:Nat) (x:Patron):a1v l i x=bif decide (x.ID<1)||decide (9999<x.ID) then 2 else bif u7 l i (λy=>decide (x.ID≤y.ID)) then 7 else a5f x:=rfl
def b6g (l:List Patron) (i:Nat) (x:Patron) (hi:i≤l.length):a1v l i x=bif decide (x.ID<1)||decide (9999<x.ID) then 2 else bif decide (x.ID≤c27 l i) then 7 else a5f x:=by
 rw[b4i];cases hb:(decide (x.ID<1)||decide (9999<x.ID)) with
 |true=>rfl
 |false=>
  rw[yai,yaf,yaf]at hb;cases i with
  |zero=>
   have:decide (x.ID≤c27 l 0)=false:=by rw[yaf];show ¬x.ID≤0;omega
   rw[this];rfl
  |succ j=>
   have hj:l[j]?=some l[j]:=yab (by omega);simp only[u7,c27,hj]
def d5q {l:List Patron} (hl:l.length<1000000000) (hn:∀x∈l,x.Name.length<10000000):b9 b7v (0,l,(l.length:Int),0,())=some (if a0e (a1v l) 0 l==0 then .inl () else .inr (a0e (a1v l) 0 l,())):=by
 have h:=a06 (step:=b7v) (λi=>(c27 l i,l,(l.length:Int),(i:Int),())) l (a1v l) (.inl ()) (λe=>.inr (e,())) hl
  (by simp only[b7v,dge,yaa])
  (λi x hx=>by
   have hi:=(zL hx)
   have hxm:=yag hx;rw[b6g l i x (by omega),a0z,a0z,←a7l _ _ (a5f x)];simp -zeta only[b7v,dlt hi,d8,hx,a0s,p9,yaa,yac,h1c (hn x hxm),wS i];simp only[c27,hx];rfl)
 exact h
def h05 {l:List Patron} (hl:l.length<1000000000) (hn:∀x∈l,x.Name.length<10000000):qar l=some (a05 l):=by
 unfold qar a05;rw[d5q hl hn];generalize a0e (a1v l) 0 l=e;cases decide (32<(l.length:Int)) with
 |true=>rfl
 |false=>
  by_cases h:e=0
  ·subst h;rfl
  ·have h2:(e==0)=false:=by simpa using h
   simp only[h2,yaz,ybd,yaa]
def h6i (n:Int):(!(rng 0 9999 n))=(!(n==0)&&!(rng 1 9999 n)):=by
 rw[a3n,a3n];by_cases h:n=0
 ·subst h;rfl
 ·have h2:(n==0)=false:=by simpa using h
  rw[h2];have:decide (n<0)=decide (n<1):=by rw[decide_eq_decide];omega
  rw[this];rfl
def d4a {α:Type} (a b:Bool) (x y:α):(bif a then x else bif b then x else y)=bif a||b then x else y:=by cases a<;>rfl
def f4r (x:Hold):qc4 x=some (s8 x):=by
 unfold qc4 s8;simp -zeta only[a0s,p9,h1r,e2s];dsimp only;simp only[a2k,h6i,a3n 1 99999,a3n 1 4,a3n 0 9,a3n 1 3,d4a,ybM]
def a4x (l:List Hold) (i:Nat) (x:Hold):a1c l i x=bif u7 l i (λy=>decide (x.ID≤y.ID)) then 7 else s8 x:=by
 unfold a1c;congr 1;cases h:s8 x==0 with
 |true=>simp at h;simp[h]
 |false=>simp
def e28 {l:List Hold} (hl:l.length<1000000000):b9 c8r (l,l,(l.length:Int),0,())=some (if a0e (a1c l) 0 l==0 then .inl (l,()) else .inr (a0e (a1c l) 0 l,())):=by
 have h:=a06 (step:=c8r) (λi=>(l,l,(l.length:Int),(i:Int),())) l (a1c l) (.inl (l,())) (λe=>.inr (e,())) hl
  (by simp only[c8r,dge,yaa])
  (λi x hx=>by
   have hi:=(zL hx)
   have hxm:=yag hx;rw[a4x,a0z,←a7l _ _ (s8 x)];rcases i with _|j
   ·simp -zeta only[c8r,dlt hi,d8,hx,a0s,p9,b58,yaa,yac,u7,w9 (show 0<9223372036854775807 by omega),f4r]
    try rfl
   ·have hj:l[j]?=some l[j]:=yab (by omega);simp -zeta only[c8r,dlt hi,d8,hx,a0s,p9,d9x,a30 (show j<1000000000 by omega),hj,yaa,yac,u7,w9 (show j+1<9223372036854775807 by omega),f4r];rfl)
 exact h
def e25 {γ:Type} {p:γ→Hold→Hold→Option Bool} {g:γ} {q:Hold→Hold→Bool} (hp:∀a b,p g a b=some (q a b)) {l:List Hold} (hl:l.length<1000000000) {i:Nat} {x:Hold} (hx:l[i]?=some x) {v v2:Int} :
 b9 (c4z p) (l,g,(i:Int),v,v2,(i:Int),0,())=some (bif (l.take i).all (λy=>!(q y x)) then .inl (l,g,v,v2,()) else .inr (true,())):=by
 have hi:=(zL hx)
 have h:=j9 (step:=c4z p) (λk=>(l,g,(i:Int),v,v2,(i:Int),(k:Int),())) (l.take i) (λ_ y=>!(q y x)) (.inr (true,())) (.inl (l,g,v,v2,())) (by rw[yaD];omega)
  (by rw[yaD,Nat.min_eq_left (by omega)];simp only[c4z,dge,yaa])
  (λk y hy=>by
   have hk:=(zL hy)
   rw[yaD]at hk;have hy2:l[k]?=some y:=by rw[←hy,ybP (by omega)]
   simp -zeta only[c4z,dlt (show k<i by omega),d8,hx,hy2,hp,yac,wS k];cases q y x<;>rfl)
 rw[show b9 (c4z p) (l,g,(i:Int),v,v2,(i:Int),0,())=_ from h,o0]
def c6h (q:Hold→Hold→Bool) (l:List Hold):Bool:=a1s (λi x=>(l.take i).all (λy=>!(q y x))) 0 l
def h2f {γ:Type} {p:γ→Hold→Hold→Option Bool} {g:γ} (q:Hold→Hold→Bool) (hp:∀a b,p g a b=some (q a b)) {l:List Hold} (hl:l.length<1000000000):qf p l g=some (!(c6h q l)):=by
 have h:=j9 (step:=c8n p) (λi=>(l,g,(l.length:Int),(i:Int),())) l (λi x=>(l.take i).all (λy=>!(q y x))) (.inr (true,())) (.inl ()) hl
  (by simp only[c8n,dge,yaa])
  (λi x hx=>by
   have hi:=(zL hx)
   simp only[c8n,dlt hi,yac,e25 hp hl hx];cases (l.take i).all (λy=>!(q y x)) with
   |true=>simp only[yac,wS i]
   |false=>rfl)
 unfold qf;rw[show b9 (c8n p) (l,g,(l.length:Int),0,())=_ from h];unfold c6h;cases a1s (λi x=>(l.take i).all (λy=>!(q y x))) 0 l<;>rfl
def b10 (a b:Hold):Bool:=a.Patron==b.Patron&&a.Record==b.Record
def b1z (a b:Hold):Bool:=a.Got==b.Got&&decide (0<a.Got)
def d3i {l:List Hold}:a3b l=(c6h b10 l&&c6h b1z l):=by
 unfold a3b c6h;have key:∀(m:List Hold) (i:Nat),a1s (λi x=>(l.take i).all (λy=>!(a0r x y))) i m=(a1s (λi x=>(l.take i).all (λy=>!(b10 y x))) i m&&a1s (λi x=>(l.take i).all (λy=>!(b1z y x))) i m):=by
  intro m
  induction m with
  |nil=>intro i;rfl
  |cons x m ih=>
   intro i;simp only[a1s];rw[ih (i+1)];have e:(l.take i).all (λy=>!(a0r x y))=((l.take i).all (λy=>!(b10 y x))&&(l.take i).all (λy=>!(b1z y x))):=by
    induction l.take i with
    |nil=>rfl
    |cons y t iht=>
     simp only[ybR];rw[iht];have e2:(!(a0r x y))=(!(b10 y x)&&!(b1z y x)):=by
      unfold a0r b10 b1z;rw[←Bool.not_or];congr 1;have a1:(x.Patron==y.Patron)=(y.Patron==x.Patron):=Bool.beq_comm;have a2:(x.Record==y.Record)=(y.Record==x.Record):=Bool.beq_comm;rw[a1,a2];congr 1;rw[ybj];simp only[yae,yad,ya6];constructor
      ·rintro ⟨h1,h2⟩;exact ⟨h2.symm,by omega⟩
      ·rintro ⟨h1,h2⟩;exact ⟨by omega,h1.symm⟩
     rw[e2];cases b10 y x<;>cases b1z y x<;>cases t.all (λy=>!(b10 y x))<;>cases t.all (λy=>!(b1z y x))<;>rfl
   rw[e];cases (l.take i).all (λy=>!(b10 y x))<;>cases (l.take i).all (λy=>!(b1z y x))<;>cases a1s (λi x=>(l.take i).all (λy=>!(b10 y x))) (i+1) m<;>cases a1s (λi x=>(l.take i).all (λy=>!(b1z y x))) (i+1) m<;>rfl
 exact key l 0
def h46 {l:List Hold} (hl:l.length<1000000000):qk l=some (w8 l):=by
 have t1:=h2f (p:=λ(g:Unit×Unit) x0 x1=>qbq x0 x1) (g:=((),())) b10 (λa b=>by unfold qbq b10;simp -zeta only[p9];rfl) hl;have t2:=h2f (p:=λ(g:Unit×Unit) x0 x1=>qcq x0 x1) (g:=((),())) b1z (λa b=>by unfold qcq b1z;simp -zeta only[p9];rfl) hl;unfold qk w8;rw[e28 hl];cases decide (64<(l.length:Int)) with
 |true=>rfl
 |false=>
  by_cases h:a0e (a1c l) 0 l=0
  ·simp only[h,yal,ybD,yaa,yac,t1,t2,d3i];cases c6h b10 l<;>cases c6h b1z l<;>rfl
  ·have:(a0e (a1c l) 0 l==0)=false:=by simpa using h
   simp only[this,yaz,ybd,yaa]
def h1i (r:Rule):qcp r=some (a5x r):=by
 unfold qcp a5x;simp -zeta only[a0s,p9,f4l];dsimp only;congr 1;generalize rng 0 9 r.Patron=b0;generalize rng 0 9 r.Item=b1;generalize rng 0 4 r.Branch=b2;generalize rng 0 365 r.Days=b3;generalize rng 0 10 r.Renewals=b4;generalize rng 0 99 r.Loans=b5;generalize rng 0 1000 r.Fine=b6;generalize rng 0 30 r.Grace=b7;generalize rng 0 100000000 r.MaxFine=b8;cases b0<;>cases b1<;>cases b2<;>cases b3<;>cases b4<;>cases b5<;>cases b6<;>cases b7<;>cases b8<;>rfl
def b84 {X:Type} (q:X→Bool) (l:List X):l.any q=!(l.all (λy=>!(q y))):=by
 induction l with
 |nil=>rfl
 |cons y l ih=>simp only[ycb,ybR];rw[ih];cases q y<;>rfl
def e3c {l:List Rule} (hl:l.length<1000000000):b9 d6d (l,l,(l.length:Int),0,())=some (if a0e (a4q l) 0 l==0 then .inl () else .inr (a0e (a4q l) 0 l,())):=by
 have h:=a06 (step:=d6d) (λi=>(l,l,(l.length:Int),(i:Int),())) l (a4q l) (.inl ()) (λe=>.inr (e,())) hl
  (by simp only[d6d,dge,yaa])
  (λi x hx=>by
   have hi:=(zL hx)
   have d1:decide ((0:Int)≤(i:Int))=true:=by rw[yad];omega
   have d2:decide ((i:Int)≤(l.length:Int))=true:=by rw[yad];omega
   have hc:=g26 (p:=λ(g:Unit×Rule×Unit) x0=>qbw x0 g.2.1) (g:=((),(x,()))) (λy=>a5y y x) (l:=l.take i) (by rw[yaD];omega) (λy _=>by
    unfold qbw a5y;simp -zeta only[p9];rfl)
   unfold a4q;simp only[a0z,d6d,dlt hi,d8,hx,yac,h1i,d1,d2,Int.le_refl,decide_true,ybl,yaB,Int.toNat_zero,ybX,hc];rw[b84];cases a5x x with
   |false=>rfl
   |true=>
    simp only[yak,yaa];cases (l.take i).all (λy=>!(a5y y x)) with
    |true=>simp only[yac,yaa,yak,wS i];rfl
    |false=>rfl)
 exact h
def h5a {l:List Rule} (hl:l.length<1000000000):qq l=some (a2w l):=by
 unfold qq a2w;rw[e3c hl];generalize a0e (a4q l) 0 l=e;cases decide (32<(l.length:Int)) with
 |true=>rfl
 |false=>
  by_cases h:e=0
  ·subst h;rfl
  ·have h2:(e==0)=false:=by simpa using h
   simp only[h2,yaz,ybd,yaa]
def e3b {c:Calendar} (hl:c.Closed.length<1000000000):b9 c8v (c.Closed,(c.Closed.length:Int),0,c,())=some (bif e6f c.Closed then .inl () else .inr (7,())):=by
 have h:=j9 (step:=c8v) (λi=>(c.Closed,(c.Closed.length:Int),(i:Int),c,())) c.Closed (λi x=>!(u7 c.Closed i (λy=>decide (x≤y)))) (.inr (7,())) (.inl ()) hl
  (by simp only[c8v,dge,yaa])
  (λi x hx=>by
   have hi:=(zL hx)
   rcases i with _|j
   ·simp -zeta only[c8v,dlt hi,d8,hx,p9,b58,yaa,yac,u7,w9 (show 0<9223372036854775807 by omega)]
    try rfl
   ·have hj:c.Closed[j]?=some c.Closed[j]:=yab (by omega);simp -zeta only[c8v,dlt hi,d8,hx,d9x,yac,a30 (show j<1000000000 by omega),hj,u7,w9 (show j+1<9223372036854775807 by omega)];dsimp only;cases decide (x≤c.Closed[j])<;>rfl)
 exact h
def h2r {c:Calendar} (hl:c.Closed.length<1000000000):qp c=some (a0j c):=by
 unfold qp a0j;simp -zeta only[a0s];dsimp only;rw[e3b hl,g28 (λx=>decide (x<0)||decide (109572<x)) hl (λx _=>by
  unfold qcb;rw[e2t];dsimp only;rw[a3n]),b84]
 have e:decide (127≤c.Week)=decide (126<c.Week):=by rw[decide_eq_decide];omega
 rw[e];cases (decide (c.Week<0)||decide (126<c.Week)) with
 |true=>rfl
 |false=>
  cases decide (64<(c.Closed.length:Int)) with
  |true=>rfl
  |false=>
   cases c.Closed.all (λx=>!(decide (x<0)||decide (109572<x))) with
   |false=>rfl
   |true=>
    simp only[yaa,yac];cases e6f c.Closed<;>rfl
end
section
def e2l (n lo hi:Int):qa4 n lo hi=some (rng lo hi n):=by
 unfold qa4;simp -zeta only[a0s,p9]
 try rfl
def y9 {lo hi n:Int}:rng lo hi n=true↔lo≤n∧n≤hi:=by
 unfold rng;simp only[yae,yad]
def b3o {n:Int} (h:rng 1 12 n=true):n=1∨n=2∨n=3∨n=4∨n=5∨n=6∨n=7∨n=8∨n=9∨n=10∨n=11∨n=12:=by
 have:=y9.1 h;omega
def a49 {n:Int} (h:rng 1 15 n=true):n=1∨n=2∨n=3∨n=4∨n=5∨n=6∨n=7∨n=8∨n=9∨n=10∨n=11∨n=12∨n=13∨n=14∨n=15:=by
 have:=y9.1 h;omega
def h1f {s k:Int} (hs:rng 1 12 s=true) (hk:rng 1 15 k=true):qcc s k=some (a64 s k):=by
 rcases b3o hs with h|h|h|h|h|h|h|h|h|h|h|h<;>subst h<;>
  rcases a49 hk with h|h|h|h|h|h|h|h|h|h|h|h|h|h|h<;>subst h<;>rfl
def h1p (c:Custody):qdd c=some (a88 c):=by
 unfold qdd a88 g29;simp -zeta only[a0s,p9,a9z,e2l,a3n];dsimp only;cases hb:(decide (c.State<1)||decide (12<c.State)||(decide (c.Branch<1)||decide (4<c.Branch))) with
 |true=>
  have:(decide (c.State<1)||decide (12<c.State)||decide (c.Branch<1)||decide (4<c.Branch))=true:=by rw[←hb,ybM _ _ (decide (4<c.Branch))]
  rw[this];rfl
 |false=>
  have:(decide (c.State<1)||decide (12<c.State)||decide (c.Branch<1)||decide (4<c.Branch))=false:=by rw[←hb,ybM _ _ (decide (4<c.Branch))]
  rw[this];have hr:rng 1 12 c.State=true:=by
   simp only[yai,yaf]at hb;rw[y9];omega
  unfold rng;simp only[yaa];generalize decide (0≤c.Who)=a1;generalize decide (c.Who≤9999)=a2;generalize decide (1≤c.Who)=a3;generalize decide (1≤c.To)=a4;generalize decide (c.To≤4)=a5;generalize (c.To==0)=a6;generalize (c.To==c.Branch)=a7;generalize (c.Who==0)=a8;rcases b3o hr with h|h|h|h|h|h|h|h|h|h|h|h<;>rw[h]<;>revert a1 a2 a3 a4 a5 a6 a7 a8<;>decide
def f4p (c:Custody) (ok:Bool):qbl c ok=some (bif ok then (c,0) else (⟨0,0,0,0⟩,1)):=by
 cases ok<;>rfl
def h1d (c:Custody) (m:Move):qc1 c m=some (bif !(m.Branch==c.Branch) then (⟨6,c.Branch,m.Who,m.Branch⟩,0) else (⟨0,0,0,0⟩,1)):=by
 unfold qc1;rw[f4p]
def f4u (c:Custody) (m:Move):qcz c m=some (p8 c m):=by
 unfold qcz p8;simp -zeta only[a0s,p9,a9z,e2l,h1p];dsimp only;have hw:(!(rng 0 109572 m.Day)||!(rng 1 9999 m.Item)||!(rng 1 15 m.Kind)||!(rng 1 4 m.Branch)||!(rng 0 9999 m.Who))=!(a87 m):=by
  unfold a87 rng;simp only[Bool.not_and,ybM]
 rw[show (!(a88 c)||!(rng 0 109572 m.Day)||!(rng 1 9999 m.Item)||!(rng 1 15 m.Kind)||!(rng 1 4 m.Branch)||!(rng 0 9999 m.Who))=(!(a88 c)||!(a87 m)) by rw[←hw];simp only[ybM]];cases hb:(!(a88 c)||!(a87 m)) with
 |true=>rfl
 |false=>
  simp only[yai,yay]at hb;obtain ⟨h1,h2⟩:=hb;rw[h2,yak]at hw;simp only[yai,yay]at hw;obtain ⟨⟨⟨⟨w1,w2⟩,w3⟩,w4⟩,w5⟩:=hw;have hs:rng 1 12 c.State=true:=by
   unfold a88 at h1;rw[y9];cases hq:(decide (c.State<1)||decide (12<c.State)||decide (c.Branch<1)||decide (4<c.Branch)) with
   |true=>rw[hq]at h1;cases h1
   |false=>simp only[yai,yaf]at hq;omega
  rw[h1f hs w3];simp only[yaa];cases ha:a64 c.State m.Kind with
  |false=>rfl
  |true=>
   simp only[yak,yaa];have h0:=(y9.1 w5).1;unfold c0w a0u;simp only[f4p,h1d];generalize (c.State==5)=g5;generalize (m.Who==c.Who)=g7;generalize (m.Branch==c.To)=g6;by_cases hw0:m.Who=0
   ·have e2:decide (1≤m.Who)=false:=by rw[yaf];omega
    rw[e2];simp only[hw0];by_cases hb:m.Branch=c.Branch
    ·simp only[hb,yal];rcases a49 w3 with h|h|h|h|h|h|h|h|h|h|h|h|h|h|h<;>
      (simp only[h];cases g5<;>cases g6<;>cases g7<;>rfl)
    ·have e3:(m.Branch==c.Branch)=false:=by simpa using hb
     simp only[e3];rcases a49 w3 with h|h|h|h|h|h|h|h|h|h|h|h|h|h|h<;>
      (simp only[h];cases g5<;>cases g6<;>cases g7<;>rfl)
   ·have e2:decide (1≤m.Who)=true:=by rw[yad];omega
    have e1:(m.Who==0)=false:=by simpa using hw0
    rw[e2];simp only[e1];by_cases hb:m.Branch=c.Branch
    ·simp only[hb,yal];rcases a49 w3 with h|h|h|h|h|h|h|h|h|h|h|h|h|h|h<;>
      (simp only[h];cases g5<;>cases g6<;>cases g7<;>rfl)
    ·have e3:(m.Branch==c.Branch)=false:=by simpa using hb
     simp only[e3];rcases a49 w3 with h|h|h|h|h|h|h|h|h|h|h|h|h|h|h<;>
      (simp only[h];cases g5<;>cases g6<;>cases g7<;>rfl)
end
section
def h02 {branch:Int} {l:List Move} {item:Int} (hl:l.length<1000000000):qad branch l item=some (a0v branch l item):=by
 unfold qad a0v;simp -zeta only[e2l,a3n]
 try dsimp only
 have h:=a2g (step:=b7o) (λi c=>(item,l,(l.length:Int),(i:Int),(⟨0,0,0,0⟩:Custody),c,())) l
  (λi x c=>bif x.Item==item then (bif (p8 c x).2==0 then .inl (p8 c x).1 else .inr (.inr ((i:Int),(p8 c x).2,(⟨0,0,0,0⟩:Custody),()))) else .inl c)
  (λc=>.inl (⟨0,0,0,0⟩,c,())) (by show l.length<18446744073709551616;omega) (λc=>by simp only[b7o,dge,yaa])
  (λi x c hx=>by
   have hi:=(zL hx)
   simp only[b7o,dlt hi,d8,hx,yac,f4u,wS i];cases x.Item==item with
   |false=>rfl
   |true=>
    simp only[yak,yaa,yac];obtain ⟨d,e⟩:=p8 c x;cases he:e==0 with
    |true=>rfl
    |false=>rfl) (b1w branch)
 rw[b5l item (λc=>(.inl (⟨0,0,0,0⟩,c,()):(Custody×Custody×Unit)⊕(Int×Int×Custody×Unit))) (λp=>.inr (p.1,p.2,(⟨0,0,0,0⟩:Custody),()))]at h;cases (decide (branch<1)||decide (4<branch)) with
 |true=>rfl
 |false=>
  simp only[yaa,qaw];rw[show b9 b7o (item,l,(l.length:Int),0,(⟨0,0,0,0⟩:Custody),(⟨1,branch,0,0⟩:Custody),())=_ from h];cases a0i 0 l item (b1w branch) with
  |inl c=>rfl
  |inr p=>rfl
def f0u {c:Circ} {item:Int} (hl:c.Items.length<1000000000):qw c item=some (a66 (λx=>x.ID==item) c.Items):=by
 unfold qw;rw[h2l (λx=>x.ID==item) hl (λx _=>rfl)]
def b2f {c:Circ} {item:Int} (hl:c.Items.length<1000000000):(qw c item=some (-1)∧c.Items.find? (λx=>x.ID==item)=none)∨
 ∃(i:Nat) (x:Item),qw c item=some (i:Int)∧c.Items[i]?=some x∧x.ID=item∧c.Items.find? (λx=>x.ID==item)=some x:=by
 rw[f0u hl,←a96 hl];exact a95 hl
def d2q {c:Circ} {id:Int} (hl:c.Patrons.length<1000000000):qbm id c=some (a3e c.Patrons id).2:=by
 unfold qbm;rw[d2s hl]
def f4q {l:List Loan} {item:Int} (hl:l.length<1000000000):qbo l item=some (a3r l item):=by
 unfold qbo qz qa9 a3r;dsimp only;rw[e2y (p:=λ(g:Unit×Int×Unit) x0=>qbn x0 g.2.1) (g:=((),(item,()))) (λx=>x.Item==item) hl (λx _=>rfl)];rcases o8 (λx:Loan=>x.Item==item) l with ⟨h1,h2⟩|⟨i,x,h1,h2,h3,h4⟩
 ·simp only[h1,h2,a6a,yac]
  try rfl
 ·simp only[h1,h4,a4f,yaa,d8,h2];have:decide ((0:Int)≤(i:Int))=true:=by rw[yad];omega
  rw[this]
def a94 {c:Circ} {item:Int} (hl:c.Holds.length<1000000000):qab c item=some (p7 c item):=by
 unfold qab p7;rw[b7n (p:=λ(g:Unit×Int×Unit) x0=>qb5 x0 g.2.1) (g:=((),(item,()))) (λx=>x.Got==item) hl (λx _=>rfl)];rcases o8 (λx:Hold=>x.Got==item) c.Holds with ⟨h1,h2⟩|⟨i,x,h1,h2,h3,h4⟩
 ·simp only[h1,h2,a6a,yac]
  try rfl
 ·simp only[h1,h4,a4f,yaa,d8,h2]
def a0a (x:Item):Bool:=rng 1 9999 x.ID&&rng 1 9999 x.Record&&rng 1 4 x.Branch&&rng 1 9 x.Kind&&rng 0 100000000 x.Price&&decide ((x.Call.length:Int)≤200)&&vld x.Call
def f4t (x:Item):qcx x=some (a0a x):=by
 unfold qcx a0a;simp -zeta only[p9,d2p];dsimp only;cases hb:(rng 1 9999 x.ID&&rng 1 9999 x.Record&&rng 1 4 x.Branch&&rng 1 9 x.Kind&&rng 0 100000000 x.Price&&decide ((x.Call.length:Int)≤200)) with
 |false=>rfl
 |true=>
  simp only[yae,yad]at hb;have:decide (x.Call.length≤LIM)=true:=by rw[yad];unfold LIM;omega
  unfold qbz;rw[this]
  try rfl
def e3a {c:Circ} (hl:c.Items.length<1000000000):b9 c8u (c.Items,(c.Items.length:Int),0,c,())=some (bif a1s (λi x=>!(!(a0a x)||u7 c.Items i (λy=>decide (x.ID≤y.ID)))) 0 c.Items then .inl (c,()) else .inr (false,())):=by
 have h:=j9 (step:=c8u) (λi=>(c.Items,(c.Items.length:Int),(i:Int),c,())) c.Items (λi x=>!(!(a0a x)||u7 c.Items i (λy=>decide (x.ID≤y.ID)))) (.inr (false,())) (.inl (c,())) hl
  (by simp only[c8u,dge,yaa])
  (λi x hx=>by
   have hi:=(zL hx)
   rcases i with _|j
   ·simp -zeta only[c8u,dlt hi,d8,hx,a0s,b58,yaa,yac,u7,f4t,w9 (show 0<9223372036854775807 by omega)];dsimp only;cases a0a x<;>rfl
   ·have hj:c.Items[j]?=some c.Items[j]:=yab (by omega);simp -zeta only[c8u,dlt hi,d8,hx,a0s,d9x,a30 (show j<1000000000 by omega),hj,yaa,yac,u7,f4t,w9 (show j+1<9223372036854775807 by omega)];dsimp only;cases a0a x<;>cases decide (x.ID≤c.Items[j].ID)<;>rfl)
 exact h
def a1a (c:Circ) (x:Item):Bool:=!(!((a0v x.Branch c.Moves x.ID).2.2==0)||!(u0 (a0v x.Branch c.Moves x.ID).1 x.Custody))
def c0p (c:Circ):Bool:=c.Moves.all (λm=>(c.Items.find? (λx=>x.ID==m.Item)).isSome)
def a1d (c:Circ):Bool:=!(decide (64<(c.Items.length:Int))||decide (2000<(c.Moves.length:Int)))&&(a1s (λi x=>!(!(a0a x)||u7 c.Items i (λy=>decide (x.ID≤y.ID)))) 0 c.Items&&(c0p c&&c.Items.all (a1a c)))
def h49 {c:Circ} (hs:Short c):qo c=some (a1d c):=by
 have h2:=j9 (step:=b8k) (λi=>(c.Moves,(c.Moves.length:Int),(i:Int),c,())) c.Moves (λ_ m=>(c.Items.find? (λx=>x.ID==m.Item)).isSome) (.inr (false,())) (.inl (c,())) hs.moves
  (by simp only[b8k,dge,yaa])
  (λi x hx=>by
   have hi:=(zL hx)
   have:=hs.moves;simp only[b8k,dlt hi,d8,hx,yac,wS i];rcases b2f (item:=x.Item) hs.items with ⟨h1,h2⟩|⟨k,y,h1,h2,h3,h4⟩
   ·simp only[h1,h2,a6a,yac,yb5,yaa]
   ·simp only[h1,h4,a4f,yaa,Option.isSome_some,yac])
 have h3:=j9 (step:=b8l) (λi=>(c.Items,(c.Items.length:Int),(i:Int),c,())) c.Items (λ_=>a1a c) (.inr (false,())) (.inl ()) hs.items
  (by simp only[b8l,dge,yaa])
  (λi x hx=>by
   have hi:=(zL hx)
   have:=hs.items;unfold a1a;simp -zeta only[b8l,dlt hi,d8,hx,yac,a0s,h02 hs.moves,wS i];dsimp only;cases (!((a0v x.Branch c.Moves x.ID).2.2==0)||!(u0 (a0v x.Branch c.Moves x.ID).1 x.Custody))<;>rfl)
 unfold qo a1d c0p;simp -zeta only[a0s];dsimp only;rw[e3a hs.items];cases (decide (64<(c.Items.length:Int))||decide (2000<(c.Moves.length:Int))) with
 |true=>rfl
 |false=>
  cases a1s (λi x=>!(!(a0a x)||u7 c.Items i (λy=>decide (x.ID≤y.ID)))) 0 c.Items with
  |false=>rfl
  |true=>
   simp only[yaa,yac];rw[show b9 b8k (c.Moves,(c.Moves.length:Int),0,c,())=_ from h2,o0];cases c.Moves.all (λm=>(c.Items.find? (λx=>x.ID==m.Item)).isSome) with
   |false=>rfl
   |true=>
    simp only[yac];rw[show b9 b8l (c.Items,(c.Items.length:Int),0,c,())=_ from h3,o0];cases c.Items.all (a1a c)<;>rfl
def e29 {c:Circ} (hs:Short c):b9 c5e (c.Cals,0,c,())=some (bif a3i c then .inl (c,()) else .inr (false,())):=by
 have st:∀(i:Int) (w:Int) (cl:List Int) (hl:cl.length<1000000000),(match qp (⟨w,cl⟩:Calendar) with
  |some r16=>(bif !(r16==0) then some (.inr (.inr (false,()))) else some (.inl (c.Cals,i,c,())):Option (((V4 Calendar)×Int×Circ×Unit)⊕((Circ×Unit)⊕(Bool×Unit))))
  |none=>none)=bif a0j ⟨w,cl⟩==0 then some (.inl (c.Cals,i,c,())) else some (.inr (.inr (false,()))):=λi w cl hl=>by
  rw[h2r (c:=⟨w,cl⟩) hl];dsimp only;cases a0j ⟨w,cl⟩==0<;>rfl
 have s0:c5e (c.Cals,0,c,())=bif a0j c.Cals.x0==0 then some (.inl (c.Cals,1,c,())) else some (.inr (.inr (false,()))):=st 1 _ _ hs.cal0;have s1:c5e (c.Cals,1,c,())=bif a0j c.Cals.x1==0 then some (.inl (c.Cals,2,c,())) else some (.inr (.inr (false,()))):=st 2 _ _ hs.cal1;have s2:c5e (c.Cals,2,c,())=bif a0j c.Cals.x2==0 then some (.inl (c.Cals,3,c,())) else some (.inr (.inr (false,()))):=st 3 _ _ hs.cal2;have s3:c5e (c.Cals,3,c,())=bif a0j c.Cals.x3==0 then some (.inl (c.Cals,4,c,())) else some (.inr (.inr (false,()))):=st 4 _ _ hs.cal3;have s4:c5e (c.Cals,4,c,())=some (.inr (.inl (c,()))):=rfl;refine o6 5 (by rw[n9];omega) ?_;unfold a3i;simp only[o7,s0,s1,s2,s3,s4];cases a0j c.Cals.x0==0 with
 |false=>rfl
 |true=>
  simp only[yac,o7,s1];cases a0j c.Cals.x1==0 with
  |false=>rfl
  |true=>
   simp only[yac,o7,s2];cases a0j c.Cals.x2==0 with
   |false=>rfl
   |true=>
    simp only[yac,o7,s3];cases a0j c.Cals.x3==0 with
    |false=>rfl
    |true=>simp only[yac,o7,s4];rfl
def d2n (c:Circ):Bool:=!(!(rng 1 100000 c.NextHold)||!(rng 1 100000 c.NextCharge))
def d16 (c:Circ):Bool:=a3l c&&(a3i c&&(d2n c&&(c.Holds.all (λx=>!(decide (c.NextHold≤x.ID)))&&c.Charges.all (λx=>!(decide (c.NextCharge≤x.ID))))))
def h47 {c:Circ} (hs:Short c):qn c=some (d16 c):=by
 have h1:=j9 (step:=b8i) (λi=>(c.Holds,(c.Holds.length:Int),(i:Int),c,())) c.Holds (λ_ x=>!(decide (c.NextHold≤x.ID))) (.inr (false,())) (.inl (c,())) hs.holds
  (by simp only[b8i,dge,yaa])
  (λi x hx=>by
   have hi:=(zL hx)
   have:=hs.holds;simp only[b8i,dlt hi,d8,hx,yac,wS i];cases decide (c.NextHold≤x.ID)<;>rfl)
 have h2:=j9 (step:=b8j) (λi=>(c.Charges,(c.Charges.length:Int),(i:Int),c,())) c.Charges (λ_ x=>!(decide (c.NextCharge≤x.ID))) (.inr (false,())) (.inl ()) hs.charges
  (by simp only[b8j,dge,yaa])
  (λi x hx=>by
   have hi:=(zL hx)
   have:=hs.charges;simp only[b8j,dlt hi,d8,hx,yac,wS i];cases decide (c.NextCharge≤x.ID)<;>rfl)
 unfold qn d16 a3l d2n;simp -zeta only[a0s,h05 hs.patrons hs.name,f4g hs.loans,h46 hs.holds,f4i hs.charges,h5a hs.rules,d2p];dsimp only;rw[e29 hs];have e:(!(a05 c.Patrons==0)||!(o4 c.Loans==0)||!(w8 c.Holds==0)||!(o9 c.Charges==0)||!(a2w c.Rules==0))=(!(a05 c.Patrons==0)||!(o4 c.Loans==0)||!(w8 c.Holds==0)||!(o9 c.Charges==0)||!(a2w c.Rules==0)):=rfl;generalize (!(a05 c.Patrons==0)||!(o4 c.Loans==0)||!(w8 c.Holds==0)||!(o9 c.Charges==0)||!(a2w c.Rules==0))=b1;cases b1 with
 |true=>rfl
 |false=>
  cases a3i c with
  |false=>rfl
  |true=>
   simp -zeta only[yaa,yac,a0s,d2p]
   try dsimp only
   cases (!(rng 1 100000 c.NextHold)||!(rng 1 100000 c.NextCharge)) with
   |true=>rfl
   |false=>
    simp only[yaa];rw[show b9 b8i (c.Holds,(c.Holds.length:Int),0,c,())=_ from h1,o0];cases c.Holds.all (λx=>!(decide (c.NextHold≤x.ID))) with
    |false=>rfl
    |true=>
     simp only[yac];rw[show b9 b8j (c.Charges,(c.Charges.length:Int),0,c,())=_ from h2,o0];cases c.Charges.all (λx=>!(decide (c.NextCharge≤x.ID)))<;>rfl
end
section
def a9q (c:Circ) (item:Int):Bool:=(c.Items.find? (λx=>x.ID==item)).isSome
def d0x (c:Circ):Bool:=c.Loans.all (λn=>!(!((a3e c.Patrons n.Patron).2)||!(a9q c n.Item)))&&(c.Holds.all (λh=>(a3e c.Patrons h.Patron).2)&&c.Charges.all (λx=>(a3e c.Patrons x.Patron).2))
def h45 {c:Circ} (hs:Short c):qi c=some (d0x c):=by
 have h1:=j9 (step:=c8q) (λi=>(c.Loans,(c.Loans.length:Int),(i:Int),c,())) c.Loans (λ_ n=>!(!((a3e c.Patrons n.Patron).2)||!(a9q c n.Item))) (.inr (false,())) (.inl (c,())) hs.loans
  (by simp only[c8q,dge,yaa])
  (λi x hx=>by
   have hi:=(zL hx)
   have:=hs.loans;unfold a9q;rcases b2f (item:=x.Item) hs.items with ⟨h1,h2⟩|⟨k,y,h1,h2,h3,h4⟩
   ·simp -zeta only[c8q,dlt hi,d8,hx,yac,d2q hs.patrons,h1,h2,a6a,a0s,wS i];dsimp only;cases (a3e c.Patrons x.Patron).2<;>rfl
   ·simp -zeta only[c8q,dlt hi,d8,hx,yac,d2q hs.patrons,h1,h4,a4f,a0s,wS i];dsimp only;cases (a3e c.Patrons x.Patron).2<;>rfl)
 have h2:=j9 (step:=d59) (λi=>(c.Holds,(c.Holds.length:Int),(i:Int),c,())) c.Holds (λ_ h=>(a3e c.Patrons h.Patron).2) (.inr (false,())) (.inl (c,())) hs.holds
  (by simp only[d59,dge,yaa])
  (λi x hx=>by
   have hi:=(zL hx)
   have:=hs.holds;simp only[d59,dlt hi,d8,hx,yac,d2q hs.patrons,wS i];cases (a3e c.Patrons x.Patron).2<;>rfl)
 have h3:=j9 (step:=b8g) (λi=>(c.Charges,(c.Charges.length:Int),(i:Int),c,())) c.Charges (λ_ h=>(a3e c.Patrons h.Patron).2) (.inr (false,())) (.inl ()) hs.charges
  (by simp only[b8g,dge,yaa])
  (λi x hx=>by
   have hi:=(zL hx)
   have:=hs.charges;simp only[b8g,dlt hi,d8,hx,yac,d2q hs.patrons,wS i];cases (a3e c.Patrons x.Patron).2<;>rfl)
 unfold qi d0x;rw[show b9 c8q (c.Loans,(c.Loans.length:Int),0,c,())=_ from h1,o0];cases c.Loans.all (λn=>!(!((a3e c.Patrons n.Patron).2)||!(a9q c n.Item))) with
 |false=>rfl
 |true=>
  simp only[yac];rw[show b9 d59 (c.Holds,(c.Holds.length:Int),0,c,())=_ from h2,o0];cases c.Holds.all (λh=>(a3e c.Patrons h.Patron).2) with
  |false=>rfl
  |true=>
   simp only[yac];rw[show b9 b8g (c.Charges,(c.Charges.length:Int),0,c,())=_ from h3,o0];cases c.Charges.all (λx=>(a3e c.Patrons x.Patron).2)<;>rfl
def a4z (c:Circ) (x:Item):Bool:=!(!((a3r c.Loans x.ID).2==a3f x.Custody)||((a3r c.Loans x.ID).2&&!((a3r c.Loans x.ID).1.Patron==x.Custody.Who)))
def h0y {c:Circ} (hs:Short c):qa2 c=some (c.Items.all (a4z c)):=by
 have h1:=j9 (step:=b7k) (λi=>(c.Items,(c.Items.length:Int),(i:Int),c,())) c.Items (λ_=>a4z c) (.inr (false,())) (.inl ()) hs.items
  (by simp only[b7k,dge,yaa])
  (λi x hx=>by
   have hi:=(zL hx)
   have:=hs.items;unfold a4z a3f;simp -zeta only[b7k,dlt hi,d8,hx,yac,f4q hs.loans,a0s,p9,wS i];dsimp only;cases (!((a3r c.Loans x.ID).2==(x.Custody.State==4||x.Custody.State==9||x.Custody.State==10))||((a3r c.Loans x.ID).2&&!((a3r c.Loans x.ID).1.Patron==x.Custody.Who)))<;>rfl)
 unfold qa2;rw[show b9 b7k (c.Items,(c.Items.length:Int),0,c,())=_ from h1,o0];cases c.Items.all (a4z c)<;>rfl
def d0w (x:Hold) (y:Item):Bool:=y.Record==x.Record&&(bif x.State==2 then u0 y.Custody ⟨6,y.Custody.Branch,x.Patron,x.Pickup⟩ else u0 y.Custody ⟨5,x.Pickup,x.Patron,0⟩)
def c2v (c:Circ) (x:Hold):Bool:=x.State==1||(match c.Items.find? (λy=>y.ID==x.Got) with|some y=>d0w x y|none=>false)
def h5c {c:Circ} (hs:Short c):qy c=some (c.Holds.all (c2v c)&&c.Items.all (a1l c)):=by
 have h1:=j9 (step:=c82) (λi=>(c.Holds,(c.Holds.length:Int),(i:Int),c,())) c.Holds (λ_=>c2v c) (.inr (false,())) (.inl (c,())) hs.holds
  (by simp only[c82,dge,yaa])
  (λi x hx=>by
   have hi:=(zL hx)
   have:=hs.holds;unfold c2v d0w;rcases b2f (item:=x.Got) hs.items with ⟨h1,h2⟩|⟨k,y,h1,h2,h3,h4⟩
   ·simp -zeta only[c82,dlt hi,d8,hx,yac,h1,h2,a6a,wS i];dsimp only;cases x.State==1<;>rfl
   ·simp -zeta only[c82,dlt hi,d8,hx,yac,h1,h2,h4,a4f,yaa,wS i];dsimp only;generalize u0 y.Custody ⟨6,y.Custody.Branch,x.Patron,x.Pickup⟩=b1;generalize u0 y.Custody ⟨5,x.Pickup,x.Patron,0⟩=b2;cases x.State==1<;>cases x.State==2<;>cases y.Record==x.Record<;>cases b1<;>cases b2<;>rfl)
 have h2:=j9 (step:=b8n) (λi=>(c.Items,(c.Items.length:Int),(i:Int),c,())) c.Items (λ_=>a1l c) (.inr (false,())) (.inl ()) hs.items
  (by simp only[b8n,dge,yaa])
  (λi x hx=>by
   have hi:=(zL hx)
   have:=hs.items;unfold a1l;simp -zeta only[b8n,dlt hi,d8,hx,yac,a0s,p9,a94 hs.holds,wS i];dsimp only;cases x.Custody.State==5<;>cases (p7 c x.ID).2<;>cases (p7 c x.ID).1.State==3<;>rfl)
 unfold qy;rw[show b9 c82 (c.Holds,(c.Holds.length:Int),0,c,())=_ from h1,o0];cases c.Holds.all (c2v c) with
 |false=>rfl
 |true=>
  simp only[yac];rw[show b9 b8n (c.Items,(c.Items.length:Int),0,c,())=_ from h2,o0];cases c.Items.all (a1l c)<;>rfl
def d21 (c:Circ):Bool:=rng 0 109572 c.Today&&a1d c&&d16 c&&d0x c&&c.Items.all (a4z c)&&(c.Holds.all (c2v c)&&c.Items.all (a1l c))
def g24 {c:Circ} (hs:Short c):qcj c=some (d21 c):=by
 unfold qcj d21;simp -zeta only[p9,d2p,h49 hs,h47 hs,h45 hs,h0y hs,h5c hs]
 try dsimp only
def a2e {X:Type} {key:X→Int} {l:List X} (h:∀i x,l[i]?=some x→u7 l i (λy=>decide (key x≤key y))=false):∀(j i:Nat) (x y:X),i<j→l[i]?=some x→l[j]?=some y→key x<key y:=by
 intro j
 induction j with
 |zero=>intro i x y hi;omega
 |succ j ih=>
  intro i x y hi hx hy;have hj:=(zL hy)
  have hz:l[j]?=some l[j]:=yab (by omega);have:=h _ _ hy;simp only[u7,hz,yaf]at this;by_cases e:i=j
  ·subst e;rw[hz]at hx;cases hx;omega
  ·have:=ih i x l[j] (by omega) hx hz;omega
def a22 {X:Type} {key:X→Int} {l:List X} (h:∀i x,l[i]?=some x→u7 l i (λy=>decide (key x≤key y))=false) {x:X} (hx:x∈l):l.find? (λy=>key y==key x)=some x:=by
 rcases o8 (λy=>key y==key x) l with ⟨h1,h2⟩|⟨i,y,h1,h2,h3,h4⟩
 ·rw[ybF]at h2;exact absurd (yal _) (h2 x hx)
 ·rw[h4];obtain ⟨j,hj⟩:=yaw hx;have e:key y=key x:=by simpa using h3
  by_cases hij:i=j
  ·subst hij;rw[h2]at hj;exact hj
  ·rcases Nat.lt_or_gt_of_ne hij with hlt|hlt
   ·have:=a2e h _ _ _ _ hlt h2 hj;omega
   ·have:=a2e h _ _ _ _ hlt hj h2;omega
def a9p {X:Type} {f:Nat→X→Int}:∀{l:List X} {k:Nat},a0e f k l=0→∀i x,l[i]?=some x→f (k+i) x=0:=by
 intro l
 induction l with
 |nil=>intro k _ i x hx;simp at hx
 |cons y l ih=>
  intro k h i x hx;unfold a0e at h;by_cases e:f k y=0
  ·rw[e]at h;simp only[yal,ybD]at h;cases i with
   |zero=>simp at hx;subst hx;exact e
   |succ i=>have:=ih h i x (by simpa using hx);rwa [show k+(i+1)=k+1+i by omega]
  ·have:(f k y==0)=false:=by simpa using e
   rw[this]at h;exact absurd h e
def a0q {b:Bool} {n m:Int} (h:(bif b then n else m)=0) (hn:n≠0):b=false:=by
 cases b with
 |false=>rfl
 |true=>exact absurd h hn
def c3f {l:List Loan} (h:o4 l=0):∀i x,l[i]?=some x→u7 l i (λy=>decide (x.Item≤y.Item))=false:=by
 intro i x hx;unfold o4 at h;have hb:=a0q h (by decide);rw[hb]at h;have:=a9p (k:=0) h i x hx;rw[yaI]at this;unfold a4o at this;exact a0q this (by decide)
def a9v {l:List Hold} (h:w8 l=0):a0e (a1c l) 0 l=0:=by
 unfold w8 at h;rw[a0q h (by decide)]at h;simp only[yaa]at h;by_cases e:a0e (a1c l) 0 l=0
 ·exact e
 ·have h2:(a0e (a1c l) 0 l==0)=false:=by simpa using e
  rw[h2]at h;exact h
def a0h {l:List Hold} (h:w8 l=0):∀i x,l[i]?=some x→u7 l i (λy=>decide (x.ID≤y.ID))=false:=by
 intro i x hx;have:=a9p (k:=0) (a9v h) i x hx;rw[yaI,a4x]at this;exact a0q this (by decide)
def a3a {l:List Hold} (h:w8 l=0) {x:Hold} (hx:x∈l):s8 x=0:=by
 obtain ⟨i,hi⟩:=yaw hx;have:=a9p (k:=0) (a9v h) i x hi;rw[yaI,a4x]at this;rw[a0q this (by decide)]at this;exact this
def b65 {x:Hold} (h:s8 x=0):x.State=1∨x.State=2∨x.State=3:=by
 unfold s8 at h;rw[a0q h (by decide)]at h;simp only[yaa]at h;have:=a0q h (by decide);simp only[yai,yaf]at this;omega
def f0e (c:Custody):Prop:=c.State=6∨c.To=0
def d3l {c:Custody} {m:Move} (h:((p8 c m).2==0)=true):f0e (p8 c m).1:=by
 unfold p8 at h ⊢;cases e1:(!(a88 c)||!(a87 m)) with
 |true=>rw[e1]at h;cases h
 |false=>
  rw[e1]at h;simp only[yaa]at h ⊢;cases e2:!(a64 c.State m.Kind) with
  |true=>rw[e2]at h;cases h
  |false=>
   rw[e2]at h;simp only[yaa]at h ⊢;cases e3:(m.Kind==3&&c.State==5&&!(m.Who==c.Who)) with
   |true=>rw[e3]at h;cases h
   |false=>
    rw[e3]at h;simp only[yaa]at h ⊢;cases e4:!(c0w c m) with
    |true=>rw[e4]at h;cases h
    |false=>
     simp only[yaa];cases (a0u m.Kind==2) with
     |true=>exact .inr rfl
     |false=>
      simp only[yaa];cases (a0u m.Kind==4||(a0u m.Kind==5||a0u m.Kind==8)) with
      |true=>exact .inr rfl
      |false=>
       simp only[yaa];cases e5:(a0u m.Kind==6) with
       |true=>exact .inl (by simpa using e5)
       |false=>
        simp only[yaa];cases (a0u m.Kind==9||a0u m.Kind==10) with
        |true=>exact .inr rfl
        |false=>exact .inr rfl
def c9a:∀{l:List Move} {i:Nat} {item:Int} {c d:Custody},f0e c→a0i i l item c=.inl d→f0e d:=by
 intro l
 induction l with
 |nil=>intro i item c d hc h;simp only[a0i]at h;cases h;exact hc
 |cons x l ih=>
  intro i item c d hc h;simp only[a0i]at h;cases e:x.Item==item with
  |false=>rw[e]at h;exact ih hc h
  |true=>
   rw[e]at h;simp only[yac]at h;cases e2:(p8 c x).2==0 with
   |true=>rw[e2]at h;exact ih (d3l e2) h
   |false=>rw[e2]at h;cases h
def a2a {a b:Custody}:u0 a b=true↔a=b:=by
 obtain ⟨a1,a2,a3,a4⟩:=a;obtain ⟨b1,b2,b3,b4⟩:=b;unfold u0;simp[yae]
 try (constructor<;>(intro h;simp_all))
def c5i {c:Circ} {x:Item} (h:a1a c x=true):f0e x.Custody:=by
 unfold a1a at h;simp only[yan,yai,yay]at h;obtain ⟨h1,h2⟩:=h;have e:=a2a.1 h2;rw[←e];unfold a0v at h1 ⊢;cases hb:(decide (x.Branch<1)||decide (4<x.Branch)) with
 |true=>exact .inr rfl
 |false=>
  rw[hb]at h1;simp only[yaa]at h1 ⊢;cases hr:a0i 0 c.Moves x.ID (b1w x.Branch) with
  |inl d=>exact c9a (.inr rfl) hr
  |inr p=>exact .inr rfl
end
section
def c7o (c:Circ) (i:Nat) (x:Item):a4y c i x=(!(!(a0a x)||u7 c.Items i (λy=>decide (x.ID≤y.ID)))&&a1a c x):=by
 unfold a4y a1a a0a;rw[ybj];simp only[yae,yan,yai,yaf,yay,y9,yad];constructor
 ·rintro ⟨⟨h1,h2⟩,h3⟩;obtain ⟨⟨⟨⟨⟨⟨a1,a2⟩,a3⟩,a4⟩,a5⟩,a6⟩,a7⟩:=h1;obtain ⟨⟨⟨⟨⟨b1,b2⟩,b3⟩,b4⟩,b5⟩,b6⟩:=h2;refine ⟨⟨⟨⟨⟨⟨⟨⟨⟨?_,?_⟩,⟨?_,?_⟩⟩,⟨?_,?_⟩⟩,⟨?_,?_⟩⟩,⟨?_,?_⟩⟩,?_⟩,b6⟩,a3⟩,h3⟩<;>omega
 ·rintro ⟨⟨h1,a3⟩,h3⟩;obtain ⟨⟨⟨⟨⟨⟨⟨a1,a2⟩,⟨a4,a5⟩⟩,⟨a6,a7⟩⟩,⟨a8,a9⟩⟩,⟨b1,b2⟩⟩,b3⟩,b4⟩:=h1;refine ⟨⟨⟨⟨⟨⟨⟨⟨?_,?_⟩,a3⟩,?_⟩,?_⟩,?_⟩,?_⟩,⟨⟨⟨⟨⟨?_,?_⟩,?_⟩,?_⟩,?_⟩,b4⟩⟩,h3⟩<;>omega
def a7o (c:Circ):a6m c=a1d c:=by
 have key:a1s (a4y c) 0 c.Items=(a1s (λi x=>!(!(a0a x)||u7 c.Items i (λy=>decide (x.ID≤y.ID)))) 0 c.Items&&c.Items.all (a1a c)):=by
  have gen:∀(l:List Item) (k:Nat),a1s (a4y c) k l=(a1s (λi x=>!(!(a0a x)||u7 c.Items i (λy=>decide (x.ID≤y.ID)))) k l&&l.all (a1a c)):=by
   intro l
   induction l with
   |nil=>intro k;rfl
   |cons x l ih=>
    intro k;simp only[a1s,ybR];rw[ih,c7o];generalize (!(!(a0a x)||u7 c.Items k (λy=>decide (x.ID≤y.ID))))=b1;generalize a1s (λi x=>!(!(a0a x)||u7 c.Items i (λy=>decide (x.ID≤y.ID)))) (k+1) l=b2;cases b1<;>cases b2<;>cases a1a c x<;>cases l.all (a1a c)<;>rfl
  exact gen _ _
 unfold a6m a1d c0p;rw[key];generalize (!(decide (64<(c.Items.length:Int))||decide (2000<(c.Moves.length:Int))))=b1;generalize a1s (λi x=>!(!(a0a x)||u7 c.Items i (λy=>decide (x.ID≤y.ID)))) 0 c.Items=b2;generalize c.Moves.all (λm=>(c.Items.find? (λx=>x.ID==m.Item)).isSome)=b3;cases b1<;>cases b2<;>cases b3<;>cases c.Items.all (a1a c)<;>rfl
def a3c {c:Circ} (h:a1d c=true):∀i x,c.Items[i]?=some x→u7 c.Items i (λy=>decide (x.ID≤y.ID))=false:=by
 intro i x hx;unfold a1d at h;simp only[yae]at h;have:=(a39.1 h.2.1) i x hx;rw[yaI]at this;simp only[yan,yai]at this;exact this.2
def a7p {c:Circ} (h:a1d c=true) {x:Item} (hx:x∈c.Items):a1a c x=true:=by
 unfold a1d at h;simp only[yae,yaj]at h;exact h.2.2.2 x hx
def b6e {c:Circ} (h:a3l c=true):o4 c.Loans=0∧w8 c.Holds=0:=by
 unfold a3l at h;simp only[yan,yai,yay,ya6]at h;exact ⟨h.1.1.1.2,h.1.1.2⟩
def d4n {l:List Loan} {n:Loan} (h:l.find? (λy=>y.Item==n.Item)=some n):a3r l n.Item=(n,true):=by
 unfold a3r;rw[h]
def c7t {c:Circ} (hi:a1d c=true) (hl:o4 c.Loans=0) (hk:∀n∈c.Loans,(a3e c.Patrons n.Patron).2=true) :
 a2b c=(c.Loans.all (λn=>a9q c n.Item)&&c.Items.all (a4z c)):=by
 rw[ybj];unfold a2b;simp only[yae,yaj];constructor
 ·rintro ⟨h1,h2⟩;refine ⟨λn hn=>?_,λx hx=>?_⟩
  ·have:=h1 n hn;unfold a3m at this;unfold a9q;cases hf:c.Items.find? (λx=>x.ID==n.Item) with
   |none=>rw[hf]at this;cases this
   |some y=>rfl
  ·have e:=h2 x hx;unfold a4z;rw[e,yak,ybg];cases hf:(a3r c.Loans x.ID).2 with
   |false=>rfl
   |true=>
    unfold a3r at hf ⊢;cases hg:c.Loans.find? (λn=>n.Item==x.ID) with
    |none=>rw[hg]at hf;cases hf
    |some n=>
     have hm:=yaZ hg;have hit:n.Item=x.ID:=by have:=ybs hg;simpa using this
     have:=h1 n hm;unfold a3m at this;have hs:=a22 (key:=λy:Item=>y.ID) (a3c hi) hx;rw[hit,hs]at this;simp only[yan,yai,yay,ya6]at this;simp[this.2]
 ·rintro ⟨h1,h2⟩;refine ⟨λn hn=>?_,λx hx=>?_⟩
  ·have hf:=h1 n hn;unfold a9q at hf;cases hg:c.Items.find? (λx=>x.ID==n.Item) with
   |none=>rw[hg]at hf;cases hf
   |some x=>
    have hm:=yaZ hg;have hit:x.ID=n.Item:=by have:=ybs hg;simpa using this
    have:=h2 x hm;unfold a4z at this;have hs:=d4n (a22 (key:=λy:Loan=>y.Item) (c3f hl) hn);rw[hit,hs]at this;simp only[yan,yai,ya8,yay,ya6]at this;unfold a3m;rw[hg];show (!(!(a3e c.Patrons n.Patron).2||!(a3f x.Custody)||!(x.Custody.Who==n.Patron)))=true
    have e1:a3f x.Custody=true:=by have:=this.1;simpa using this.symm
    rw[hk n hn,e1,this.2];simp
  ·have:=h2 x hx;unfold a4z at this;simp only[yan,yai,yay]at this;exact this.1
def c7j {c:Circ} (hi:a1d c=true) {h:Hold} (hh:s8 h=0):a3k c h=((a3e c.Patrons h.Patron).2&&!(decide (c.NextHold≤h.ID))&&c2v c h):=by
 unfold a3k c2v;have e:(!(!(a3e c.Patrons h.Patron).2||decide (c.NextHold≤h.ID)))=((a3e c.Patrons h.Patron).2&&!(decide (c.NextHold≤h.ID))):=by cases (a3e c.Patrons h.Patron).2<;>rfl
 rw[e];congr 1;rcases b65 hh with hs|hs|hs
 ·simp[hs]
 ·have e1:(h.State==1)=false:=by rw[hs];rfl
  have e2:(h.State==2)=true:=by rw[hs];rfl
  have e3:(h.State==3)=false:=by rw[hs];rfl
  rw[e1,ybg,ybg];cases hg:c.Items.find? (λx=>x.ID==h.Got) with
  |none=>rfl
  |some y=>
   unfold d0w;simp only[e2,e3,ybw,yar,ybW,ya8,yb6,yac];congr 1;unfold u0;simp only[yal,ya8,ybW];cases y.Custody.State==6<;>cases y.Custody.To==h.Pickup<;>cases y.Custody.Who==h.Patron<;>rfl
 ·have e1:(h.State==1)=false:=by rw[hs];rfl
  have e2:(h.State==2)=false:=by rw[hs];rfl
  have e3:(h.State==3)=true:=by rw[hs];rfl
  rw[e1,ybg,ybg];cases hg:c.Items.find? (λx=>x.ID==h.Got) with
  |none=>rfl
  |some y=>
   have ha:=c5i (a7p hi (yaZ hg));unfold d0w;simp only[e2,e3,ybw,yar,ybW,ya8,yb6,yaa];congr 1;unfold u0;simp only[ybW];cases h5:y.Custody.State==5 with
   |false=>simp
   |true=>
    have:y.Custody.To=0:=by
     rcases ha with h6|h6
     ·simp at h5;omega
     ·exact h6
    rw[this];cases y.Custody.Branch==h.Pickup<;>cases y.Custody.Who==h.Patron<;>rfl
def b83 {X:Type} {p q:X→Bool} {l:List X}:l.all (λx=>p x&&q x)=(l.all p&&l.all q):=by
 induction l with
 |nil=>rfl
 |cons x l ih=>simp only[ybR];rw[ih];cases p x<;>cases q x<;>cases l.all p<;>rfl
def b2o {X:Type} {p q:X→Bool} {l:List X} (h:∀x∈l,p x=q x):l.all p=l.all q:=by
 induction l with
 |nil=>rfl
 |cons x l ih=>simp only[ybR];rw[h x (yaK ..),ih (λy hy=>h y (yaN _ hy))]
def e3q (c:Circ):d21 c=a4u c:=by
 unfold d21 a4u;rw[a7o];have en:a36 c=(rng 0 109572 c.Today&&d2n c):=by
  unfold a36 d2n;rw[ybj];simp only[yae,yan,yai,yaf,yay,y9];omega
 have ec:c.Charges.all (a0x c)=(c.Charges.all (λx=>(a3e c.Patrons x.Patron).2)&&c.Charges.all (λx=>!(decide (c.NextCharge≤x.ID)))):=by
  rw[←b83];exact b2o (λx _=>by unfold a0x;rw[Bool.not_or,yb6])
 rw[en,ec];unfold d16 d0x;have ek:c.Loans.all (λn=>!(!((a3e c.Patrons n.Patron).2)||!(a9q c n.Item)))=(c.Loans.all (λn=>(a3e c.Patrons n.Patron).2)&&c.Loans.all (λn=>a9q c n.Item)):=by
  rw[←b83];exact b2o (λx _=>by rw[Bool.not_or,yb6,yb6])
 rw[ek];cases hi:a1d c with
 |false=>simp
 |true=>
  cases hl:a3l c with
  |false=>simp
  |true=>
   obtain ⟨l1,l2⟩:=b6e hl;have eh:a4i c=((c.Holds.all (λh=>(a3e c.Patrons h.Patron).2)&&c.Holds.all (λx=>!(decide (c.NextHold≤x.ID)))&&c.Holds.all (c2v c))&&c.Items.all (a1l c)):=by
    unfold a4i;congr 1;rw[←b83,←b83];exact b2o (λx hx=>c7j hi (a3a l2 hx))
   rw[eh];cases hp:c.Loans.all (λn=>(a3e c.Patrons n.Patron).2) with
   |true=>
    rw[c7t hi l1 (λn hn=>by rw[yaj]at hp;exact hp n hn)];simp only[ya8,ybW];rw[ybj];simp only[yae];constructor
    ·rintro ⟨⟨⟨⟨a1,a2,a3,a4,a5⟩,a6,a7,a8⟩,a9⟩,b1,b2⟩;exact ⟨⟨a1,a3⟩,a2,⟨a8,a5⟩,⟨a6,a9⟩,⟨⟨a7,a4⟩,b1⟩,b2⟩
    ·rintro ⟨⟨a1,a3⟩,a2,⟨a8,a5⟩,⟨a6,a9⟩,⟨⟨a7,a4⟩,b1⟩,b2⟩;exact ⟨⟨⟨⟨a1,a2,a3,a4,a5⟩,a6,a7,a8⟩,a9⟩,b1,b2⟩
   |false=>
    have:a2b c=false:=by
     cases hg:a2b c with
     |false=>rfl
     |true=>
      exfalso;have:c.Loans.all (λn=>(a3e c.Patrons n.Patron).2)=true:=by
       rw[yaj];intro n hn;unfold a2b at hg;simp only[yae,yaj]at hg;have:=hg.1 n hn;unfold a3m at this;cases hf:c.Items.find? (λx=>x.ID==n.Item) with
       |none=>rw[hf]at this;cases this
       |some x=>
        rw[hf]at this;simp only[yan,yai,yay]at this;exact this.1.1
      rw[this]at hp;cases hp
    rw[this];simp
def e2u {c:Circ} (hs:Short c):qcj c=some (a4u c):=by
 rw[g24 hs,e3q]
end
section
def a2h {X:Type} (l:List X):l.all (λ_=>true)=true:=by rw[yaj];intros;rfl
def a0n (x:Custody):u0 x x=true:=by simp[u0]
def b90 (x:Item):b9z x x=true:=by simp[b9z,a0n]
def b3n (x:Patron):b0j x x=true:=by simp[b0j,a0n]
def b92 (x:Loan):b91 x x=true:=by simp[b91,a0n]
def b9y (x:Hold):b9x x x=true:=by simp[b9x,a0n]
def b3m (x:Charge):b0i x x=true:=by simp[b0i,a0n]
def b94 (x:Rule):b93 x x=true:=by simp[b93,a0n]
def a9n (x:Move):b17 x x=true:=by simp[b17,a0n]
def d5r {c:Circ} (hs:Short c):b9 c8d (0,c,c,())=some (.inl (c,c,())):=by
 have h:=j9 (step:=c8d) (λi=>((i:Int),c,c,())) c.Items (λ_ _=>true) (.inr (false,())) (.inl (c,c,())) hs.items
  (by simp only[c8d,dge,yaa])
  (λi x hx=>by
   have hi:=(zL hx)
   have:=hs.items;simp only[c8d,dlt hi,d8,hx,yac,b90,yak,yaa,wS i])
 rw[show b9 c8d (0,c,c,())=_ from h,o0];rw[a2h];rfl
def c77 {c:Circ} (hs:Short c):b9 b4u (0,c,c,())=some (.inl (c,c,())):=by
 have h:=j9 (step:=b4u) (λi=>((i:Int),c,c,())) c.Patrons (λ_ _=>true) (.inr (false,())) (.inl (c,c,())) hs.patrons
  (by simp only[b4u,dge,yaa])
  (λi x hx=>by
   have hi:=(zL hx)
   have:=hs.patrons;simp only[b4u,dlt hi,d8,hx,yac,b3n,yak,yaa,wS i])
 rw[show b9 b4u (0,c,c,())=_ from h,o0];rw[a2h];rfl
def c78 {c:Circ} (hs:Short c):b9 b4v (0,c,c,())=some (.inl (c,c,())):=by
 have h:=j9 (step:=b4v) (λi=>((i:Int),c,c,())) c.Loans (λ_ _=>true) (.inr (false,())) (.inl (c,c,())) hs.loans
  (by simp only[b4v,dge,yaa])
  (λi x hx=>by
   have hi:=(zL hx)
   have:=hs.loans;simp only[b4v,dlt hi,d8,hx,yac,b92,yak,yaa,wS i])
 rw[show b9 b4v (0,c,c,())=_ from h,o0];rw[a2h];rfl
def c79 {c:Circ} (hs:Short c):b9 b4w (0,c,c,())=some (.inl (c,c,())):=by
 have h:=j9 (step:=b4w) (λi=>((i:Int),c,c,())) c.Holds (λ_ _=>true) (.inr (false,())) (.inl (c,c,())) hs.holds
  (by simp only[b4w,dge,yaa])
  (λi x hx=>by
   have hi:=(zL hx)
   have:=hs.holds;simp only[b4w,dlt hi,d8,hx,yac,b9y,yak,yaa,wS i])
 rw[show b9 b4w (0,c,c,())=_ from h,o0];rw[a2h];rfl
def c8a {c:Circ} (hs:Short c):b9 b4x (0,c,c,())=some (.inl (c,c,())):=by
 have h:=j9 (step:=b4x) (λi=>((i:Int),c,c,())) c.Charges (λ_ _=>true) (.inr (false,())) (.inl (c,c,())) hs.charges
  (by simp only[b4x,dge,yaa])
  (λi x hx=>by
   have hi:=(zL hx)
   have:=hs.charges;simp only[b4x,dlt hi,d8,hx,yac,b3m,yak,yaa,wS i])
 rw[show b9 b4x (0,c,c,())=_ from h,o0];rw[a2h];rfl
def c8b {c:Circ} (hs:Short c):b9 b4y (0,c,c,())=some (.inl (c,c,())):=by
 have h:=j9 (step:=b4y) (λi=>((i:Int),c,c,())) c.Rules (λ_ _=>true) (.inr (false,())) (.inl (c,c,())) hs.rules
  (by simp only[b4y,dge,yaa])
  (λi x hx=>by
   have hi:=(zL hx)
   have:=hs.rules;simp only[b4y,dlt hi,d8,hx,yac,b94,yak,yaa,wS i])
 rw[show b9 b4y (0,c,c,())=_ from h,o0];rw[a2h];rfl
def c8c {c:Circ} (hs:Short c):b9 b4z (0,c,c,())=some (.inl (c,c,())):=by
 have h:=j9 (step:=b4z) (λi=>((i:Int),c,c,())) c.Moves (λ_ _=>true) (.inr (false,())) (.inl (c,c,())) hs.moves
  (by simp only[b4z,dge,yaa])
  (λi x hx=>by
   have hi:=(zL hx)
   have:=hs.moves;simp only[b4z,dlt hi,d8,hx,yac,a9n,yak,yaa,wS i])
 rw[show b9 b4z (0,c,c,())=_ from h,o0];rw[a2h];rfl
def c8w {c:Circ} (hs:Short c):b9 a5m (0,0,c,c,())=some (.inl (0,c,c,())):=by
 have st:∀k:Int,a5m (0,k,c,c,())=(bif decide (k<(c.Cals.x0.Closed.length:Int)) then (match n8 c.Cals.x0.Closed k with|some x=>(match n8 c.Cals.x0.Closed k with|some y=>(bif !(x==y) then some (.inr (.inr (false,()))) else some (.inl (0,wr .i64 (k+1),c,c,())))|none=>none)|none=>none) else some (.inr (.inl (0,c,c,())))):=λk=>rfl
 have h:=j9 (step:=a5m) (λk=>(0,(k:Int),c,c,())) c.Cals.x0.Closed (λ_ _=>true) (.inr (false,())) (.inl (0,c,c,())) hs.cal0
  (by rw[st];simp only[dge,yaa])
  (λk x hx=>by
   have hi:=(zL hx)
   have:=hs.cal0;rw[st];simp only[dlt hi,d8,hx,yac,yal,yak,yaa,wS k])
 rw[show b9 a5m (0,0,c,c,())=_ from h,o0];rw[a2h];rfl
def f0q {c:Circ} (hs:Short c):b1x (0,c,c,())=some (.inl (1,c,c,())):=by
 have st:b1x (0,c,c,())=(bif !(c.Cals.x0.Week==c.Cals.x0.Week) then some (.inr (.inr (false,()))) else bif !((c.Cals.x0.Closed.length:Int)==(c.Cals.x0.Closed.length:Int)) then some (.inr (.inr (false,()))) else
  match b9 a5m (0,0,c,c,()) with
  |some (.inl (i,a,b,_))=>some (.inl (wr .i64 (i+1),a,b,()))
  |some (.inr (v,_))=>some (.inr (.inr (v,())))
  |none=>none):=by
  show (bif !(c.Cals.x0.Week==c.Cals.x0.Week) then _ else _)=_
  cases (!(c.Cals.x0.Week==c.Cals.x0.Week))<;>rfl
 rw[st,c8w hs];simp only[yal,yak,yaa]
 try rfl
def c8x {c:Circ} (hs:Short c):b9 a5m (1,0,c,c,())=some (.inl (1,c,c,())):=by
 have st:∀k:Int,a5m (1,k,c,c,())=(bif decide (k<(c.Cals.x1.Closed.length:Int)) then (match n8 c.Cals.x1.Closed k with|some x=>(match n8 c.Cals.x1.Closed k with|some y=>(bif !(x==y) then some (.inr (.inr (false,()))) else some (.inl (1,wr .i64 (k+1),c,c,())))|none=>none)|none=>none) else some (.inr (.inl (1,c,c,())))):=λk=>rfl
 have h:=j9 (step:=a5m) (λk=>(1,(k:Int),c,c,())) c.Cals.x1.Closed (λ_ _=>true) (.inr (false,())) (.inl (1,c,c,())) hs.cal1
  (by rw[st];simp only[dge,yaa])
  (λk x hx=>by
   have hi:=(zL hx)
   have:=hs.cal1;rw[st];simp only[dlt hi,d8,hx,yac,yal,yak,yaa,wS k])
 rw[show b9 a5m (1,0,c,c,())=_ from h,o0];rw[a2h];rfl
def f0r {c:Circ} (hs:Short c):b1x (1,c,c,())=some (.inl (2,c,c,())):=by
 have st:b1x (1,c,c,())=(bif !(c.Cals.x1.Week==c.Cals.x1.Week) then some (.inr (.inr (false,()))) else bif !((c.Cals.x1.Closed.length:Int)==(c.Cals.x1.Closed.length:Int)) then some (.inr (.inr (false,()))) else
  match b9 a5m (1,0,c,c,()) with
  |some (.inl (i,a,b,_))=>some (.inl (wr .i64 (i+1),a,b,()))
  |some (.inr (v,_))=>some (.inr (.inr (v,())))
  |none=>none):=by
  show (bif !(c.Cals.x1.Week==c.Cals.x1.Week) then _ else _)=_
  cases (!(c.Cals.x1.Week==c.Cals.x1.Week))<;>rfl
 rw[st,c8x hs];simp only[yal,yak,yaa]
 try rfl
def c8y {c:Circ} (hs:Short c):b9 a5m (2,0,c,c,())=some (.inl (2,c,c,())):=by
 have st:∀k:Int,a5m (2,k,c,c,())=(bif decide (k<(c.Cals.x2.Closed.length:Int)) then (match n8 c.Cals.x2.Closed k with|some x=>(match n8 c.Cals.x2.Closed k with|some y=>(bif !(x==y) then some (.inr (.inr (false,()))) else some (.inl (2,wr .i64 (k+1),c,c,())))|none=>none)|none=>none) else some (.inr (.inl (2,c,c,())))):=λk=>rfl
 have h:=j9 (step:=a5m) (λk=>(2,(k:Int),c,c,())) c.Cals.x2.Closed (λ_ _=>true) (.inr (false,())) (.inl (2,c,c,())) hs.cal2
  (by rw[st];simp only[dge,yaa])
  (λk x hx=>by
   have hi:=(zL hx)
   have:=hs.cal2;rw[st];simp only[dlt hi,d8,hx,yac,yal,yak,yaa,wS k])
 rw[show b9 a5m (2,0,c,c,())=_ from h,o0];rw[a2h];rfl
def f0s {c:Circ} (hs:Short c):b1x (2,c,c,())=some (.inl (3,c,c,())):=by
 have st:b1x (2,c,c,())=(bif !(c.Cals.x2.Week==c.Cals.x2.Week) then some (.inr (.inr (false,()))) else bif !((c.Cals.x2.Closed.length:Int)==(c.Cals.x2.Closed.length:Int)) then some (.inr (.inr (false,()))) else
  match b9 a5m (2,0,c,c,()) with
  |some (.inl (i,a,b,_))=>some (.inl (wr .i64 (i+1),a,b,()))
  |some (.inr (v,_))=>some (.inr (.inr (v,())))
  |none=>none):=by
  show (bif !(c.Cals.x2.Week==c.Cals.x2.Week) then _ else _)=_
  cases (!(c.Cals.x2.Week==c.Cals.x2.Week))<;>rfl
 rw[st,c8y hs];simp only[yal,yak,yaa]
 try rfl
def c8z {c:Circ} (hs:Short c):b9 a5m (3,0,c,c,())=some (.inl (3,c,c,())):=by
 have st:∀k:Int,a5m (3,k,c,c,())=(bif decide (k<(c.Cals.x3.Closed.length:Int)) then (match n8 c.Cals.x3.Closed k with|some x=>(match n8 c.Cals.x3.Closed k with|some y=>(bif !(x==y) then some (.inr (.inr (false,()))) else some (.inl (3,wr .i64 (k+1),c,c,())))|none=>none)|none=>none) else some (.inr (.inl (3,c,c,())))):=λk=>rfl
 have h:=j9 (step:=a5m) (λk=>(3,(k:Int),c,c,())) c.Cals.x3.Closed (λ_ _=>true) (.inr (false,())) (.inl (3,c,c,())) hs.cal3
  (by rw[st];simp only[dge,yaa])
  (λk x hx=>by
   have hi:=(zL hx)
   have:=hs.cal3;rw[st];simp only[dlt hi,d8,hx,yac,yal,yak,yaa,wS k])
 rw[show b9 a5m (3,0,c,c,())=_ from h,o0];rw[a2h];rfl
def f0t {c:Circ} (hs:Short c):b1x (3,c,c,())=some (.inl (4,c,c,())):=by
 have st:b1x (3,c,c,())=(bif !(c.Cals.x3.Week==c.Cals.x3.Week) then some (.inr (.inr (false,()))) else bif !((c.Cals.x3.Closed.length:Int)==(c.Cals.x3.Closed.length:Int)) then some (.inr (.inr (false,()))) else
  match b9 a5m (3,0,c,c,()) with
  |some (.inl (i,a,b,_))=>some (.inl (wr .i64 (i+1),a,b,()))
  |some (.inr (v,_))=>some (.inr (.inr (v,())))
  |none=>none):=by
  show (bif !(c.Cals.x3.Week==c.Cals.x3.Week) then _ else _)=_
  cases (!(c.Cals.x3.Week==c.Cals.x3.Week))<;>rfl
 rw[st,c8z hs];simp only[yal,yak,yaa]
 try rfl
def g3d {c:Circ} (hs:Short c):qs c c=some true:=by
 have s4:b1x (4,c,c,())=some (.inr (.inl ())):=rfl;have h:b9 b1x (0,c,c,())=some (.inl ()):=by
  refine o6 5 (by rw[n9];omega) ?_;simp only[o7,f0q hs,f0r hs,f0s hs,f0t hs,s4]
 unfold qs;rw[h]
def g23 {c:Circ} (hs:Short c):qc c c=some true:=by
 unfold qc;simp -zeta only[a0s,yal,yak,Bool.or_false];dsimp only;simp only[d5r hs,c77 hs,c78 hs,c79 hs,c8a hs,c8b hs,c8c hs,g3d hs,Bool.or_false,yaa]
end
section
def b1d {X:Type} (p:X→Bool) (x:X):List X→List X
 | []=>[x]
 |y::l=>bif p y then x::y::l else y::b1d p x l
def b3s {X:Type} {p:X→Bool} {x:X}:∀{l:List X},l.findIdx? p=none→b1d p x l=l++[x]:=by
 intro l
 induction l with
 |nil=>intros;rfl
 |cons y l ih=>
  intro h;rw[ybI]at h;cases hp:p y with
  |true=>rw[hp]at h;cases h
  |false=>
   rw[hp]at h;simp only[yaz,ybd,Option.map_eq_none_iff]at h;simp only[b1d,hp,yaa,ih h,ybA]
def b3t {X:Type} {p:X→Bool} {x:X}:∀{l:List X} {k:Nat},l.findIdx? p=some k→b1d p x l=l.take k++x::l.drop k∧k≤l.length:=by
 intro l
 induction l with
 |nil=>intro k h;cases h
 |cons y l ih=>
  intro k h;rw[ybI]at h;cases hp:p y with
  |true=>rw[hp]at h;simp at h;subst h;simp[b1d,hp]
  |false=>
   rw[hp]at h;simp only[yaz,ybd,yaT]at h;obtain ⟨j,hj,rfl⟩:=h;obtain ⟨e1,e2⟩:=ih hj;exact ⟨by simp only[b1d,hp,yaa,e1,List.take_succ_cons,List.drop_succ_cons,ybA],by simp only[yaR];omega⟩
def a8y {X:Type} {p:X→Bool} {x:X}:∀{l:List X},(b1d p x l).length=l.length+1:=by
 intro l
 induction l with
 |nil=>rfl
 |cons y l ih=>simp only[b1d];cases p y<;>simp[ih]
def e8r {X:Type} {p:X→Bool} {x z:X}:∀{l:List X},z∈b1d p x l→z=x∨z∈l:=by
 intro l
 induction l with
 |nil=>intro h;simp[b1d]at h;exact .inl h
 |cons y l ih=>
  intro h;simp only[b1d]at h;cases hp:p y with
  |true=>rw[hp]at h;simpa using h
  |false=>
   rw[hp]at h;simp only[yaa,yaM]at h;rcases h with rfl|h
   ·exact .inr (yaK ..)
   ·rcases ih h with e|e
    ·exact .inl e
    ·exact .inr (yaN _ e)
def c7m {X:Type} {p:X→Bool} {x:X} {l:List X} (hl:l.length<1000000000):b0m l (bif decide (a66 p l<0) then (l.length:Int) else a66 p l) [x]=some (b1d p x l):=by
 unfold b0m a66;have h3:decide (l.length+1≤1073741824)=true:=by rw[yad];omega
 cases h:l.findIdx? p with
 |none=>
  have h1:decide ((0:Int)≤(l.length:Int))=true:=by rw[yad];omega
  simp only[show decide ((-1:Int)<0)=true from rfl,yac,h1,Int.le_refl,decide_true,h3,ybl,yaB,List.take_length,List.drop_length,b3s h]
 |some k=>
  obtain ⟨e1,e2⟩:=b3t (x:=x) h;have h0:decide ((k:Int)<0)=false:=by rw[yaf];omega
  have h1:decide ((0:Int)≤(k:Int))=true:=by rw[yad];omega
  have h2:decide ((k:Int)≤(l.length:Int))=true:=by rw[yad];omega
  simp only[h0,yaa,h1,h2,h3,ybl,yaB,yac,e1]
def a1u {n m:Nat} (h:n+m≤1000000100):decide (n+m≤LIM)=true:=by rw[yad];unfold LIM;omega
def a5r {X:Type} {s:List X} (h:s.length<1000000000):decide (([]:List X).length+s.length≤LIM)=true:=a1u (by simp;omega)
def y6:Circ:=⟨0,[],[],[],[],[],[],⟨⟨0,[]⟩,⟨0,[]⟩,⟨0,[]⟩,⟨0,[]⟩⟩,[],0,0,false⟩
def c4d:Short y6:=by
 constructor<;>first|(show (0:Nat)<_;decide)|(intro x hx;cases hx)
end
section
def f1e (x:Charge):Prop:=0≤x.Paid∧x.Paid<x.Amount∧x.Amount≤100000000
def b0f {l:List Charge} (h:o9 l=0):l.length≤128∧∀x∈l,f1e x:=by
 unfold o9 at h;rw[Bool.cond_eq_ite]at h;split at h
 ·omega
 ·rename_i hlen;simp only[yad]at hlen;refine ⟨by omega,λx hx=>?_⟩;obtain ⟨i,hi⟩:=yaw hx;have:=a6i.1 h i x hi;unfold a1t at this;simp only[Bool.cond_eq_ite]at this;split at this
  ·omega
  ·split at this
   ·omega
   ·split at this
    ·omega
    ·split at this
     ·omega
     ·rename_i h4;simp only[ybr,yad,not_or]at h4;unfold f1e;omega
def a8s (p:Int):List Charge→Int
 | []=>0
 |x::l=>(bif x.Patron==p then x.Amount-x.Paid else 0)+a8s p l
def h0x {l:List Charge} {p:Int} (hl:l.length≤1000) (hc:∀x∈l,f1e x):qa0 l p=some (a8s p l):=by
 have h:=b5y (step:=b7j) (λi (s:Int)=>(p,s,l,(l.length:Int),(i:Int),())) l (λx s=>bif x.Patron==p then wr .i64 (s+wr .i64 (x.Amount-x.Paid)) else s) (λs=>(s,())) (by omega)
  (λs=>by simp only[b7j,dge,yaa])
  (λi x s hx=>by
   have hi:=(zL hx)
   simp only[b7j,dlt hi,yac,d8,hx,wS i];cases x.Patron==p<;>rfl) 0
 unfold qa0;rw[show b9 b7j (p,0,l,(l.length:Int),0,())=_ from h];have key:∀(l:List Charge) (s:Int),(∀x∈l,f1e x)→0≤s→s+100000000*(l.length:Int)≤1000000000000→l.foldl (λs x=>bif x.Patron==p then wr .i64 (s+wr .i64 (x.Amount-x.Paid)) else s) s=s+a8s p l:=by
  intro l
  induction l with
  |nil=>intro s _ _ _;simp[a8s]
  |cons x l ih=>
   intro s h h0 hb;have h1:=h x (by simp);unfold f1e at h1;simp only[yaR]at hb;simp only[ybp,a8s];cases x.Patron==p with
   |true=>
    simp only[yac];rw[a0g (n:=x.Amount-x.Paid) (by omega) (by omega),a0g (by omega) (by omega),ih _ (λy hy=>h y (by simp[hy])) (by omega) (by omega)];omega
   |false=>
    simp only[yaa];rw[ih _ (λy hy=>h y (by simp[hy])) h0 (by omega)];omega
 simp only;rw[key l 0 hc (by omega) (by omega)];simp
end
section
def h2e {l:List Charge} {p:Int} (hl:l.length≤1000) (hc:∀x∈l,f1e x):qf7 l p=some (a8s p l):=by
 have h:=b5y (step:=c4y) (λi (s:Int)=>(l,p,s,(i:Int),())) l (λx s=>bif x.Patron==p then wr .i64 ((wr .i64 (s+x.Amount))-x.Paid) else s) (λs=>(s,())) (by omega)
  (λs=>by simp only[c4y,dge,yaa])
  (λi x s hx=>by
   have hi:=(zL hx)
   simp only[c4y,dlt hi,yac,d8,hx,wS i];cases x.Patron==p<;>rfl) 0
 unfold qf7;rw[show b9 c4y (l,p,0,0,())=_ from h];have key:∀(l:List Charge) (s:Int),(∀x∈l,f1e x)→0≤s→s+100000000*(l.length:Int)≤1000000000000→l.foldl (λs x=>bif x.Patron==p then wr .i64 ((wr .i64 (s+x.Amount))-x.Paid) else s) s=s+a8s p l:=by
  intro l
  induction l with
  |nil=>intro s _ _ _;simp[a8s]
  |cons x l ih=>
   intro s h h0 hb;have h1:=h x (by simp);unfold f1e at h1;simp only[yaR]at hb;simp only[ybp,a8s];cases x.Patron==p with
   |true=>
    simp only[yac];rw[a0g (n:=s+x.Amount) (by omega) (by omega),a0g (by omega) (by omega),ih _ (λy hy=>h y (by simp[hy])) (by omega) (by omega)];omega
   |false=>
    simp only[yaa];rw[ih _ (λy hy=>h y (by simp[hy])) h0 (by omega)];omega
 simp only;rw[key l 0 hc (by omega) (by omega)];simp
def f2t {X:Type} (p:X→Bool):List X→Nat
 | []=>0
 |x::l=>(bif p x then 1 else 0)+f2t p l
def d0k {X:Type} {p:X→Bool}:∀{l:List X} {n:Nat},l.foldl (λn x=>bif p x then n+1 else n) n=n+f2t p l:=by
 intro l
 induction l with
 |nil=>intro n;rfl
 |cons x l ih=>intro n;rw[ybp,ih];simp only[f2t];cases p x<;>simp<;>omega
def c6s {X:Type} {p q:X→Bool}:∀{l:List X},f2t q (l.filter p)=f2t (λx=>p x&&q x) l:=by
 intro l
 induction l with
 |nil=>rfl
 |cons x l ih=>simp only[ybq,f2t];cases p x with|true=>simp[f2t,ih]|false=>simp[ih]
def f4k {l:List Loan} {p:Int} (hl:l.length<1000000000):qat l p=some (l.filter (λx=>x.Patron==p)):=by
 have h:=t6 (step:=b7w) (λ(i:Nat) (s:List Loan)=>s.length≤i) (λi s=>(p,l,(l.length:Int),(i:Int),s,())) l
  (λi y s=>.inl (bif y.Patron==p then s++[y] else s)) (λs=>(s,())) (by rw[n9];omega)
  (λs _=>by simp only[b7w,dge,yaa])
  (λi y s hx hi=>by
   have hlt:=(zL hx)
   have l1:decide (s.length+([y]:List Loan).length≤LIM)=true:=a1u (by simp;omega);refine ⟨?_,λs' hs'=>?_⟩
   ·simp only[b7w,dlt hlt,d8,hx,yac,l1,wS i];cases y.Patron==p<;>rfl
   ·cases hs'
    cases y.Patron==p<;>simp<;>omega) [] (by simp)
 rw[a0f]at h;unfold qat;rw[show b9 b7w (p,l,(l.length:Int),0,[],())=_ from h];have key:∀(l o:List Loan),l.foldl (λs y=>bif y.Patron==p then s++[y] else s) o=o++l.filter (λx=>x.Patron==p):=by
  intro l
  induction l with
  |nil=>intro o;simp
  |cons x l ih=>intro o;rw[ybp,ih,ybq];cases x.Patron==p<;>simp
 simp only;rw[key]
 try rfl
def c0c (p day:Int) (l:List Loan):Int:=(f2t (λx=>x.Patron==p&&decide (x.Due<day)) l:Int)
def h0z {l:List Loan} {p day:Int} (hl:l.length<1000000000):qa7 l p day=some (c0c p day l):=by
 unfold qa7 c0c;rw[f4k hl,←c6s];have hf:(l.filter (λx=>x.Patron==p)).length<1000000000:=by have:=yaX (λx:Loan=>x.Patron==p) l;omega
 generalize l.filter (λx=>x.Patron==p)=m at hf ⊢;have h:=t6 (step:=b7m) (λ(i:Nat) (s:Nat)=>s≤i) (λi s=>(day,(s:Int),m,(m.length:Int),(i:Int),())) m
  (λi y s=>.inl (bif decide (y.Due<day) then s+1 else s)) (λs=>((s:Int),())) (by rw[n9];omega)
  (λs _=>by simp only[b7m,dge,yaa])
  (λi y s hx hi=>by
   have hlt:=(zL hx)
   refine ⟨?_,λs' hs'=>?_⟩
   ·simp only[b7m,dlt hlt,d8,hx,yac,wS i,wS s];cases decide (y.Due<day)<;>rfl
   ·cases hs'
    cases decide (y.Due<day)<;>simp<;>omega) 0 (by omega)
 rw[a0f]at h;simp only;rw[show b9 b7m (day,0,m,(m.length:Int),0,())=_ from h,d0k,yaI]
def h2d {l:List Loan} {p day:Int} (hl:l.length<1000000000):qf3 l p day=some (c0c p day l):=by
 unfold qf3 c0c;have h:=t6 (step:=c4x) (λ(i:Nat) (s:Nat)=>s≤i) (λi s=>(l,p,day,(s:Int),(i:Int),())) l
  (λi y s=>.inl (bif y.Patron==p&&decide (y.Due<day) then s+1 else s)) (λs=>((s:Int),())) (by rw[n9];omega)
  (λs _=>by simp only[c4x,dge,yaa])
  (λi y s hx hi=>by
   have hlt:=(zL hx)
   refine ⟨?_,λs' hs'=>?_⟩
   ·simp -zeta only[c4x,dlt hlt,d8,hx,yac,p9,wS i,wS s];dsimp only;cases (y.Patron==p&&decide (y.Due<day))<;>rfl
   ·cases hs'
    cases (y.Patron==p&&decide (y.Due<day))<;>simp<;>omega) 0 (by omega)
 rw[a0f]at h;rw[show b9 c4x (l,p,day,0,0,())=_ from h,d0k,yaI]
def a42 (p:Patron) (day a8s late:Int):List Int:=(bif p.Stopped then [1] else [])++((bif decide (p.Until<day) then [2] else [])++((bif decide (1000<a8s) then [3] else [])++(bif decide (2<late) then [4] else [])))
def h2a (p:Patron) (day a8s late:Int):qeq p day a8s late=some (a42 p day a8s late):=by
 unfold qeq a42;cases p.Stopped<;>cases decide (p.Until<day)<;>cases decide (1000<a8s)<;>cases decide (2<late)<;>rfl
def h03 (p:Patron) (day a8s late:Int):qai p day a8s late=some (a42 p day a8s late):=by
 unfold qai a42;generalize p.Stopped=b1;generalize decide (p.Until<day)=b2;generalize decide (1000<a8s)=b3;generalize decide (2<late)=b4;have h:b9 e2o ((([b1,b2,b3,b4]).length:Int),0,([]:List Int),[b1,b2,b3,b4],())=some (((bif b1 then [1] else [])++((bif b2 then [2] else [])++((bif b3 then [3] else [])++(bif b4 then [4] else [])))),()):=by
  refine o6 5 (by rw[n9];omega) ?_;cases b1<;>cases b2<;>cases b3<;>cases b4<;>rfl
 rw[h]
def f4s {c:Circ} {p:Patron} (hs:Short c) (hc:o9 c.Charges=0):qcr c p=some (decide (0<((a42 p c.Today (a8s p.ID c.Charges) (c0c p.ID c.Today c.Loans)).length:Int))):=by
 obtain ⟨h1,h2⟩:=b0f hc;unfold qcr;rw[h0x (by omega) h2,h0z hs.loans];dsimp only;rw[h03]
def f4z {c:Circ} {id:Int} (hs:Short c) (hc:o9 c.Charges=0):qen c id=some (decide (0<((a42 (a3e c.Patrons id).1 c.Today (a8s id c.Charges) (c0c id c.Today c.Loans)).length:Int))):=by
 obtain ⟨h1,h2⟩:=b0f hc;unfold qen;rw[a5w hs.patrons,h2e (by omega) h2,h2d hs.loans];dsimp only;rw[h2a]
end
section
def a3z (r:Rule):Int:=(bif !(r.Patron==0) then 4 else 0)+((bif !(r.Item==0) then 2 else 0)+(bif !(r.Branch==0) then 1 else 0))
def h1w (r:Rule):qe0 r=some (a3z r):=by
 unfold qe0 a3z;cases r.Patron==0<;>cases r.Item==0<;>cases r.Branch==0<;>rfl
def h08 (r:Rule):qav r=some (a3z r):=by
 unfold qav;have st:∀(a b c n:Int),(∀(m:Int),b1f (m,3,0,[a,b,c],())=some (.inl (bif !(a==0) then wr .i64 ((wr .i64 (m*2))+1) else wr .i64 (m*2),3,1,[a,b,c],())))∧
  (∀(m:Int),b1f (m,3,1,[a,b,c],())=some (.inl (bif !(b==0) then wr .i64 ((wr .i64 (m*2))+1) else wr .i64 (m*2),3,2,[a,b,c],())))∧
  (∀(m:Int),b1f (m,3,2,[a,b,c],())=some (.inl (bif !(c==0) then wr .i64 ((wr .i64 (m*2))+1) else wr .i64 (m*2),3,3,[a,b,c],()))):=λa b c n=>
  ⟨λm=>by show (bif !(a==0) then _ else _)=_;cases a==0<;>rfl,λm=>by show (bif !(b==0) then _ else _)=_;cases b==0<;>rfl,λm=>by show (bif !(c==0) then _ else _)=_;cases c==0<;>rfl⟩
 obtain ⟨s0,s1,s2⟩:=st r.Patron r.Item r.Branch 0;have s3:∀m:Int,b1f (m,3,3,[r.Patron,r.Item,r.Branch],())=some (.inr (m,())):=λm=>rfl
 have h:b9 b1f (0,(([r.Patron,r.Item,r.Branch]).length:Int),0,[r.Patron,r.Item,r.Branch],())=some (a3z r,()):=by
  refine o6 4 (by rw[n9];omega) ?_;show o7 b1f 4 (0,3,0,[r.Patron,r.Item,r.Branch],())=_
  simp only[o7,s0,s1,s2,s3];unfold a3z;cases r.Patron==0<;>cases r.Item==0<;>cases r.Branch==0<;>rfl
 rw[h]
def b6a (r:Rule) (p i b:Int):Bool:=(r.Patron==0||r.Patron==p)&&(r.Item==0||r.Item==i)&&(r.Branch==0||r.Branch==b)
def f46 (r:Rule) (p i b:Int):qf9 r p i b=some (b6a r p i b):=by
 unfold qf9 b6a;simp -zeta only[a0s,p9]
 try rfl
def h1o (a b:Int):qdc a b=some (a==0||a==b):=by
 unfold qdc;cases a==0<;>rfl
def f4n (r:Rule) (p i b:Int):qbg r p i b=some (b6a r p i b):=by
 unfold qbg b6a;simp -zeta only[h1o,a0s,p9]
 try dsimp only
def wB (l:List Rule) (b:Int):Int:=match n8 l b with|some y=>a3z y|none=>0
def c1o (l:List Rule) (p it br:Int) (i:Nat) (x:Rule) (b:Int):Int:=bif b6a x p it br&&(decide (b<0)||decide (wB l b<a3z x)) then (i:Int) else b
def e63 (l:List Rule) (p it br:Int):Int:=a3p (λi x b=>.inl (c1o l p it br i x b)) (λb=>b) 0 l (-1)
def a7c (l:List Rule) (b:Int):Prop:=b<0∨∃k:Nat,b=(k:Int)∧k<l.length
def c1p {l:List Rule} {b:Int} (h:a7c l b) (hb:decide (b<0)=false):∃y,n8 l b=some y∧wB l b=a3z y:=by
 rcases h with h|⟨k,rfl,hk⟩
 ·rw[yaf]at hb;omega
 ·have:n8 l (k:Int)=some l[k]:=by rw[d8,yab hk]
  exact ⟨_,this,by unfold wB;rw[this]⟩
def b2u {l:List Rule} {p it br:Int} {i:Nat} {x:Rule} {b:Int} (h:a7c l b) (hi:i<l.length):a7c l (c1o l p it br i x b):=by
 unfold c1o;cases b6a x p it br&&(decide (b<0)||decide (wB l b<a3z x)) with
 |true=>exact .inr ⟨i,rfl,hi⟩
 |false=>exact h
def c5t {X σ β γ:Type} {f:Nat→X→σ→σ} {g:σ→β} (k:β→γ):∀{l:List X} {i:Nat} {s:σ},k (a3p (λi x s=>.inl (f i x s)) g i l s)=a3p (λi x s=>.inl (f i x s)) (λs=>k (g s)) i l s:=by
 intro l
 induction l with
 |nil=>intros;rfl
 |cons x l ih=>intro i s;simp only[a3p];exact ih
def h06 {l:List Rule} {p it br:Int} (hl:l.length<1000000000):qas l p it br=some (e63 l p it br):=by
 have h:=t6 (step:=b4t) (λ(i:Nat) (b:Int)=>a7c l b) (λi b=>(l,p,it,br,b,l,(l.length:Int),(i:Int),())) l
  (λi x b=>.inl (c1o l p it br i x b)) (λb=>(b,())) (by rw[n9];omega)
  (λb _=>by simp only[b4t,dge,yaa])
  (λi x b hx hi=>by
   have hlt:=(zL hx)
   refine ⟨?_,λs' hs'=>by cases hs';exact b2u hi hlt⟩;unfold c1o;cases hb:decide (b<0) with
   |true=>
    simp only[b4t,dlt hlt,d8,hx,yac,f4n,hb,wS i];cases b6a x p it br<;>rfl
   |false=>
    obtain ⟨y,h1,h2⟩:=c1p hi hb;simp only[b4t,dlt hlt,d8,hx,yac,yaa,f4n,h08,h1,h2,hb,wS i];cases b6a x p it br<;>cases decide (a3z y<a3z x)<;>rfl) (-1) (.inl (by omega))
 unfold qas;rw[show b9 b4t (l,p,it,br,(-1),l,(l.length:Int),0,())=_ from h,←c5t (g:=λb=>b) (λb:Int=>(b,()))]
 try rfl
def f5c {l:List Rule} {p it br:Int} (hl:l.length<1000000000):qfk l p it br=some (e63 l p it br):=by
 have h:=t6 (step:=b78) (λ(i:Nat) (b:Int)=>a7c l b) (λi b=>(l,p,it,br,b,(i:Int),())) l
  (λi x b=>.inl (c1o l p it br i x b)) (λb=>(b,())) (by rw[n9];omega)
  (λb _=>by simp only[b78,dge,yaa])
  (λi x b hx hi=>by
   have hlt:=(zL hx)
   refine ⟨?_,λs' hs'=>by cases hs';exact b2u hi hlt⟩;unfold c1o;cases hb:decide (b<0) with
   |true=>
    simp only[b78,dlt hlt,d8,hx,yac,f46,hb,wS i];cases b6a x p it br<;>rfl
   |false=>
    obtain ⟨y,h1,h2⟩:=c1p hi hb;simp only[b78,dlt hlt,d8,hx,yac,yaa,f46,h1w,h1,h2,hb,wS i];cases b6a x p it br<;>cases decide (a3z y<a3z x)<;>rfl) (-1) (.inl (by omega))
 unfold qfk;rw[show b9 b78 (l,p,it,br,(-1),0,())=_ from h,←c5t (g:=λb=>b) (λb:Int=>(b,()))]
 try rfl
def g22 {l:List Rule} {p it br:Int} (hl:l.length<1000000000):qc2 l p it br=qga l p it br:=by
 unfold qc2 qga;rw[h06 hl,f5c hl]
 try rfl
def c0v {c:Circ} {p:Int} {x:Item} (hs:Short c):qbs c p x=qfv c p x:=by
 unfold qbs qfv;rw[d2s hs.patrons,a5w hs.patrons];dsimp only;rw[g22 hs.rules]
 try rfl
def e6d (c:Circ) (b:Int):Calendar:=bif b==1 then c.Cals.x0 else bif b==2 then c.Cals.x1 else bif b==3 then c.Cals.x2 else c.Cals.x3
def b61 {n:Int} (h:rng 1 4 n=true):n=1∨n=2∨n=3∨n=4:=by
 have:=y9.1 h;omega
def e3d {c:Circ} {b:Int} (h:rng 1 4 b=true):qt c b=some (e6d c b):=by
 rcases b61 h with h|h|h|h<;>subst h<;>rfl
def c4l {c:Circ} {b:Int} (h:rng 1 4 b=true):qbt c b=some (e6d c b):=by
 rcases b61 h with h|h|h|h<;>subst h<;>rfl
end
section
def a0t (week:Int) (i:Nat):Bool:=(wr .i64 (BitVec.ofInt 64 (week.fdiv (2 ^ (min i 64))) &&& BitVec.ofInt 64 1).toNat)==0
def f4h (c:Calendar):qae c=some ⟨a0t c.Week 0,a0t c.Week 1,a0t c.Week 2,a0t c.Week 3,a0t c.Week 4,a0t c.Week 5,a0t c.Week 6⟩:=by
 have h:b9 e2n (0,c,(⟨false,false,false,false,false,false,false⟩:V7 Bool),(⟨false,false,false,false,false,false,false⟩:V7 Bool),())=some ((⟨false,false,false,false,false,false,false⟩:V7 Bool),(⟨a0t c.Week 0,a0t c.Week 1,a0t c.Week 2,a0t c.Week 3,a0t c.Week 4,a0t c.Week 5,a0t c.Week 6⟩:V7 Bool),()):=by
  refine o6 8 (by rw[n9];omega) ?_
  try rfl
 unfold qae;rw[h]
def f1v:Int→Nat→Int
 |n,0=>n
 |n,k+1=>f1v (wr .i64 (n.tdiv 2)) k
def d56 {day n:Int} {c:Calendar}:∀(k:Nat) (i:Nat) (n:Int),i+k<100→o7 c47 (k+1) (day,n,((i+k:Nat):Int),(i:Int),c,())=some (day,f1v n k,c,()):=by
 intro k
 induction k with
 |zero=>
  intro i n hi;have:decide ((i:Int)<((i+0:Nat):Int))=false:=by rw[yaf];omega
  simp only[o7,c47,this,yaa,f1v]
 |succ k ih=>
  intro i n hi;have:decide ((i:Int)<((i+(k+1):Nat):Int))=true:=by rw[yad];omega
  rw[o7];simp only[c47,this,yac,wS i,f1v];have:=ih (i+1) (wr .i64 (n.tdiv 2)) (by omega);rw[show i+1+k=i+(k+1) by omega]at this;exact this
def d6x:((List.range 127).all λn=>(List.range 7).all λw=>a0t (n:Int) w==!((f1v (n:Int) w).tmod 2==1))=true:=kr
def e55 {week:Int} {w:Nat} (h1:0≤week) (h2:week≤126) (hw:w<7):a0t week w=!((f1v week w).tmod 2==1):=by
 obtain ⟨n,rfl⟩:∃n:Nat,week=(n:Int):=⟨week.toNat,by omega⟩
 have h:=d6x;rw[yaj]at h;have h3:=h n (ybE.2 (by omega));rw[yaj]at h3;have h4:=h3 w (ybE.2 hw);simpa using h4
def lbS (t:Int) (l:List Int):Nat:=(l.takeWhile (λx=>decide (x<t))).length
def h41 {t:Int} {l:List Int}:lbS t l≤l.length:=by
 unfold lbS;have:=(List.takeWhile_prefix (λx=>decide (x<t)) (l:=l)).length_le;exact this
def c28 {t:Int}:∀{l:List Int} {k:Nat} {x:Int},k<lbS t l→l[k]?=some x→x<t:=by
 intro l
 induction l with
 |nil=>intro k x h;simp[lbS]at h
 |cons y l ih=>
  intro k x h hx;unfold lbS at h ih;rw[List.takeWhile_cons]at h;by_cases hy:y<t
  ·simp only[hy,decide_true,ybD,yaR]at h;cases k with
   |zero=>simp at hx;omega
   |succ k=>exact ih (k:=k) (by omega) (by simpa using hx)
  ·simp[hy]at h
def h0o {t:Int}:∀{l:List Int} {x:Int},l[lbS t l]?=some x→¬x<t:=by
 intro l
 induction l with
 |nil=>intro x h;simp[lbS]at h
 |cons y l ih=>
  intro x hx;unfold lbS at hx ih;rw[List.takeWhile_cons]at hx;by_cases hy:y<t
  ·simp only[hy,decide_true,ybD,yaR,yaL]at hx;exact ih hx
  ·simp[hy]at hx;omega
def f4c {t:Int} {l:List Int} (hsort:∀(j i:Nat) (x y:Int),i<j→l[i]?=some x→l[j]?=some y→x<y) {k:Nat} {x:Int} (hx:l[k]?=some x):decide (x<t)=decide (k<lbS t l):=by
 rw[decide_eq_decide];constructor
 ·intro h;by_cases hk:k<lbS t l
  ·exact hk
  ·exfalso;have hlt:lbS t l<l.length:=by have:=(zL hx);omega
   have hz:l[lbS t l]?=some l[lbS t l]:=yab hlt;have:=h0o hz;by_cases e:lbS t l=k
   ·subst e;rw[hz]at hx;cases hx;exact this h
   ·have:=hsort k (lbS t l) _ _ (by omega) hz hx;omega
 ·intro h;exact c28 h hx
def c4c {i j:Nat} (h:i+j<2000000000):wr .i64 ((wr .u64 (wr .i64 ((i:Int)+(j:Int)))).fdiv (2 ^ 1))=(((i+j) / 2:Nat):Int):=by
 rw[a0g (n:=(i:Int)+(j:Int)) (by omega) (by omega)];have:wr .u64 ((i:Int)+(j:Int))=(i:Int)+(j:Int):=by
  unfold wr;simp[IntKind.wrap,IntKind.bits,IntKind.signed];omega
 rw[this,Int.fdiv_eq_ediv_of_nonneg _ (by omega)];have e:((i:Int)+(j:Int)) / 2 ^ 1=(((i+j) / 2:Nat):Int):=by omega
 rw[e,a0g (by omega) (by omega)]
def h1m (x y:Int):qd2 x y=some (decide (x<y)):=by
 have e:∀z:Int,qdx z=some false:=λz=>by unfold qdx;simp
 unfold qd2;rw[e]
 try rfl
def d6l {l:List Int} {t:Int} (hl:l.length<1000000000) (hsort:∀(j i:Nat) (x y:Int),i<j→l[i]?=some x→l[j]?=some y→x<y) :
 b9 b7p (l,t,(l.length:Int),0,(l.length:Int),())=some (l,t,(l.length:Int),(lbS t l:Int),()):=by
 refine e56 (step:=b7p) (λa=>∃i j:Nat,a=(l,t,(l.length:Int),(i:Int),(j:Int),())∧i≤lbS t l∧lbS t l≤j∧j≤l.length) (λa=>(a.2.2.2.2.1-a.2.2.2.1).toNat) (λ_=>(l,t,(l.length:Int),(lbS t l:Int),())) ?_ ⟨0,l.length,rfl,by omega,h41,by omega⟩ (by rw[n9];show ((l.length:Int)-0).toNat<_;omega);rintro a ⟨i,j,rfl,h1,h2,h3⟩;by_cases hij:i<j
 ·left;have d:decide ((i:Int)<(j:Int))=true:=by rw[yad];omega
  have hm:(i+j) / 2<l.length:=by omega
  have hx:l[(i+j) / 2]?=some l[(i+j) / 2]:=yab hm;have hlb:=f4c (t:=t) hsort hx;simp only[b7p,d,yac,c4c (show i+j<2000000000 by omega),d8,hx,h1m,hlb];by_cases hk:(i+j) / 2<lbS t l
  ·rw[show decide ((i+j) / 2<lbS t l)=true by rw[yad];exact hk];simp only[yac,w9 (show (i+j) / 2<9223372036854775807 by omega)];exact ⟨_,rfl,⟨(i+j) / 2+1,j,rfl,by omega,h2,h3⟩,by simp only;omega,trivial⟩
  ·rw[show decide ((i+j) / 2<lbS t l)=false by rw[yaf];exact hk];simp only[yaa];exact ⟨_,rfl,⟨i,(i+j) / 2,rfl,h1,by omega,by omega⟩,by simp only;omega,trivial⟩
 ·right;have d:decide ((i:Int)<(j:Int))=false:=by rw[yaf];omega
  have hi:i=lbS t l:=by omega
  subst hi;simp only[b7p,d,yaa]
def e3x {l:List Int} {t:Int} (hl:l.length<1000000000) (hsort:∀(j i:Nat) (x y:Int),i<j→l[i]?=some x→l[j]?=some y→x<y) :
 qag l t=some ((lbS t l:Int),l.any (λx=>x==t)):=by
 unfold qag;rw[d6l hl hsort];by_cases hk:lbS t l<l.length
 ·have d:decide ((lbS t l:Int)<(l.length:Int))=true:=by rw[yad];omega
  have hx:l[lbS t l]?=some l[lbS t l]:=yab hk;have hn:qc7 l[lbS t l]=some false:=by unfold qc7;simp
  simp only[d,yac,d8,hx,hn,yaa];have e:(l[lbS t l]==t)=l.any (λx=>x==t):=by
   rw[ybj,List.any_eq_true];constructor
   ·intro h;exact ⟨_,ybB hk,h⟩
   ·rintro ⟨x,hm,he⟩;have he':x=t:=by simpa using he
    obtain ⟨i,hi⟩:=yaw hm;have h1:=f4c (t:=t) hsort hi;have h2:=h0o hx;rw[decide_eq_decide]at h1;by_cases e:i=lbS t l
    ·rw[e,hx]at hi;cases hi;exact he
    ·have:lbS t l<i:=by omega
     have:=hsort _ _ _ _ this hx hi;omega
  rw[←e];cases l[lbS t l]==t<;>rfl
 ·have d:decide ((lbS t l:Int)<(l.length:Int))=false:=by rw[yaf];omega
  have e:l.any (λx=>x==t)=false:=by
   rw[ybL];intro x hm he;have he':x=t:=by simpa using he
   obtain ⟨i,hi⟩:=yaw hm;have:=(zL hi)
   have:=c28 (t:=t) (show i<lbS t l by omega) hi;omega
  simp only[d,yaa,e]
end
section
def b3r {l:List Int} (h:e6f l=true):∀(j i:Nat) (x y:Int),i<j→l[i]?=some x→l[j]?=some y→x<y:=by
 have h2:∀i x,l[i]?=some x→u7 l i (λy=>decide (x≤y))=false:=by
  intro i x hx;have:=(a39.1 h) i x hx;rw[yaI]at this;simpa using this
 exact a2e (key:=λx:Int=>x) h2
structure CalOk (c:Calendar):Prop where
 w1:0≤c.Week
 w2:c.Week≤126
 len:c.Closed.length<1000000000
 inc:e6f c.Closed=true
def e66 {c:Calendar} (h:(a0j c==0)=true):CalOk c:=by
 have h:a0j c=0:=by simpa using h
 unfold a0j at h;have h1:=a0q h (by decide);rw[h1]at h;simp only[yaa]at h;have h2:=a0q h (by decide);rw[h2]at h;simp only[yaa]at h;simp only[yai,yaf]at h1 h2;cases h3:c.Closed.all (λx=>!(decide (x<0)||decide (109572<x))) with
 |false=>rw[h3]at h;cases h
 |true=>
  rw[h3]at h;cases h4:e6f c.Closed with
  |false=>rw[h4]at h;cases h
  |true=>exact ⟨by omega,by omega,by omega,h4⟩
def a67 (c:Calendar) (d:Int):Bool:=rng 0 109572 d&&(!(c.Closed.any (λx=>x==d))&&a0t c.Week (d.tmod 7).toNat)
def g56 {d:Int} (h:0≤d):0≤d.tmod 7∧d.tmod 7<7:=by
 rw[Int.tmod_eq_emod_of_nonneg h];omega
def d2r {c:Calendar} (hc:CalOk c) (d:Int):qbp c d=some (a67 c d):=by
 unfold qbp a67;rw[e2t];dsimp only;cases hr:rng 0 109572 d with
 |false=>rfl
 |true=>
  simp -zeta only[yak,yaa,ya8];rw[e3x hc.len (b3r hc.inc)];dsimp only;cases c.Closed.any (λx=>x==d) with
  |true=>rfl
  |false=>
   have hk:qcg d=some (d.tmod 7):=by
    have e:qea d=some (rng 0 109572 d):=by
     unfold qea;simp -zeta only[p9]
     try rfl
    unfold qcg;rw[e,hr]
    try rfl
   simp only[yar,yac,f4h,hk,ya8];obtain ⟨h1,h2⟩:=g56 (y9.1 hr).1;generalize d.tmod 7=w at h1 h2;have:w=0∨w=1∨w=2∨w=3∨w=4∨w=5∨w=6:=by omega
   rcases this with h|h|h|h|h|h|h<;>subst h<;>rfl
def c8p {c:Calendar} {d:Int} (hl:c.Closed.length<1000000000):b9 b02 (d,0,c,())=some (bif c.Closed.all (λx=>!(x==d)) then .inl () else .inr (false,())):=by
 have h:=j9 (step:=b02) (λi=>(d,(i:Int),c,())) c.Closed (λ_ x=>!(x==d)) (.inr (false,())) (.inl ()) hl
  (by simp only[b02,dge,yaa])
  (λi x hx=>by
   have hi:=(zL hx)
   simp only[b02,dlt hi,d8,hx,yac,wS i];cases x==d<;>rfl)
 rw[show b9 b02 (d,0,c,())=_ from h,o0]
def b5b {c:Calendar} (hc:CalOk c) (d:Int):qgb c d=some (a67 c d):=by
 unfold qgb a67;simp -zeta only[a0s];dsimp only;rw[←a3n];cases hr:rng 0 109572 d with
 |false=>rfl
 |true=>
  have hk:qer d=some (d.tmod 7):=by
   have e:qgr d=some (rng 0 109572 d):=by
    unfold qgr;simp -zeta only[p9]
    try rfl
   unfold qer;rw[e,hr]
   try rfl
  simp only[yak,yaa,ya8,hk];obtain ⟨h1,h2⟩:=g56 (y9.1 hr).1;generalize d.tmod 7=w at h1 h2;obtain ⟨n,rfl⟩:∃n:Nat,w=(n:Int):=⟨w.toNat,by omega⟩
  have hn:n<7:=by omega
  have hw:b9 c47 (d,c.Week,(n:Int),0,c,())=some (d,f1v c.Week n,c,()):=by
   have:=d56 (day:=d) (n:=0) (c:=c) n 0 c.Week (by omega);rw[yaI]at this;exact o6 (n+1) (by rw[n9];omega) this
  simp only[hw,yaB,e55 hc.w1 hc.w2 hn,c8p hc.len];cases (f1v c.Week n).tmod 2==1 with
  |true=>simp
  |false=>
   simp only[yaa,yar,ybW,b84,yb6];cases c.Closed.all (λx=>!(x==d))<;>rfl
def b1m {α β:Type} {s1 s2:α→Option (α⊕β)} (Inv:α→Prop) (h:∀a,Inv a→s1 a=s2 a) (hi:∀a b,Inv a→s1 a=some (.inl b)→Inv b) {a:α} (ha:Inv a):b9 s1 a=b9 s2 a:=by
 have key:∀n a,Inv a→o7 s1 n a=o7 s2 n a:=by
  intro n
  induction n with
  |zero=>intro a _;rfl
  |succ n ih=>
   intro a ha;simp only[o7];rw[←h a ha];cases hs:s1 a with
   |none=>rfl
   |some x=>
    cases x with
    |inl b=>exact ih b (hi a b ha hs)
    |inr b=>rfl
 exact key c1a a ha
def e3f {c:Calendar} (hc:CalOk c) (d:Int):qx c d=qgc c d:=by
 have h:∀d0:Int,b9 e3e (d0,c,())=b9 b1i (d0,c,()):=λd0=>by
  refine b1m (λa=>a.2.1=c) ?_ ?_ rfl
  ·rintro ⟨d,c',_⟩ (rfl:c'=c);simp only[e3e,b1i,d2r hc,b5b hc]
  ·rintro ⟨d,c',_⟩ b (rfl:c'=c) hb;simp only[e3e,d2r hc]at hb;cases hq:decide (d≤109572) with
   |false=>rw[hq]at hb;cases hb
   |true=>
    rw[hq]at hb;simp only[yac]at hb;cases ho:a67 c' d with
    |true=>rw[ho]at hb;cases hb
    |false=>rw[ho]at hb;cases hb;rfl
 unfold qx qgc;rw[h]
 try rfl
def g2y {c:Calendar} (hc:CalOk c) (d:Int):qa3 c d=qe1 c d:=by
 have h:∀d0:Int,b9 c4i (d0,c,())=b9 c4n (d0,c,()):=λd0=>by
  refine b1m (λa=>a.2.1=c) ?_ ?_ rfl
  ·rintro ⟨d,c',_⟩ (rfl:c'=c);simp only[c4i,c4n,d2r hc,b5b hc]
  ·rintro ⟨d,c',_⟩ b (rfl:c'=c) hb;simp only[c4i,d2r hc]at hb;cases hq:decide (0≤d) with
   |false=>rw[hq]at hb;cases hb
   |true=>
    rw[hq]at hb;simp only[yac]at hb;cases ho:a67 c' d with
    |true=>rw[ho]at hb;cases hb
    |false=>rw[ho]at hb;cases hb;rfl
 unfold qa3 qe1;rw[h]
 try rfl
end
section
def d6y {α β:Type} {step:α→Option (α⊕β)} (Inv:α→Prop) (hi:∀a b,Inv a→step a=some (.inl b)→Inv b) {a:α} (ha:Inv a) {r:β} (h:b9 step a=some r):∃b,Inv b∧step b=some (.inr r):=by
 have key:∀n a,Inv a→o7 step n a=some r→∃b,Inv b∧step b=some (.inr r):=by
  intro n
  induction n with
  |zero=>intro a _ h;cases h
  |succ n ih=>
   intro a ha h;simp only[o7]at h;cases hs:step a with
   |none=>rw[hs]at h;cases h
   |some x=>
    rw[hs]at h;cases x with
    |inl b=>exact ih b (hi a b ha hs) h
    |inr b=>cases h;exact ⟨a,ha,hs⟩
 exact key c1a a ha h
def g2m {c:Calendar} (hc:CalOk c) {s d:Int} (hs:s≤109573) (h:qgc c s=some (d,0)):s≤d:=by
 unfold qgc at h;cases hw:b9 b1i ((if s<0 then 0 else s),c,()) with
 |none=>rw[hw]at h;cases h
 |some r=>
  rw[hw]at h;obtain ⟨b,hb,hstep⟩:=d6y (λa=>s≤a.1∧0≤a.1∧a.1≤109573∧a.2.1=c) (by
   rintro ⟨d,c',_⟩ b ⟨h1,h2,h3,(rfl:c'=c)⟩ hb;simp only[b1i,b5b hc]at hb;cases hq:decide (d≤109572) with
   |false=>rw[hq]at hb;cases hb
   |true=>
    rw[yad]at hq;rw[show decide (d≤109572)=true by rw[yad];exact hq]at hb;simp only[yac]at hb;cases ho:a67 c' d with
    |true=>rw[ho]at hb;cases hb
    |false=>
     rw[ho]at hb;simp only[yaa]at hb;simp only at h1 h2;rw[a0g (by omega) (by omega)]at hb;cases hb
     exact ⟨by show s≤d+1;omega,by show 0≤d+1;omega,by show d+1≤109573;omega,rfl⟩) (a:=((if s<0 then 0 else s),c,())) ⟨by show s≤if s<0 then 0 else s;split<;>omega,by show 0≤if s<0 then 0 else s;split<;>omega,by show (if s<0 then 0 else s)≤109573;split<;>omega,rfl⟩ hw
  obtain ⟨d',c',_⟩:=b;obtain ⟨h1,h2,h3,(rfl:c'=c)⟩:=hb;simp only[b1i,b5b hc]at hstep;cases hq:decide (d'≤109572) with
  |false=>rw[hq]at hstep;cases hstep;cases h
  |true=>
   rw[hq]at hstep;simp only[yac]at hstep;cases ho:a67 c' d' with
   |true=>rw[ho]at hstep;cases hstep;cases h;exact h1
   |false=>rw[ho]at hstep;cases hstep
def c8f {r:Rule} {c:Calendar} (hc:CalOk c) (hr:a5x r=true) (day u:Int):qdi r c day u=qgk r c day u:=by
 have hd:0≤r.Days∧r.Days≤365:=by
  unfold a5x at hr;simp only[yae,y9]at hr;omega
 unfold qdi qgk;simp -zeta only[f4l,e20,a0s,p9];cases h1:rng 0 109572 day with
 |false=>rfl
 |true=>
  cases h2:rng 0 109572 u with
  |false=>rfl
  |true=>
   have hday:=y9.1 h1;have hu:=y9.1 h2;dsimp only;simp only[yak,Bool.or_self,yaa];cases h3:r.Days==0 with
   |true=>simp only[Bool.true_or,yac];cases decide (0<r.Fixed)<;>rfl
   |false=>
    have hd1:r.Days≠0:=by simpa using h3
    simp only[ybg,yaa];have core:∀last:Int,last≤109572→
     (bif decide (last≤day) then (some (0,15):Option (Int×Int)) else match qx c (if last<wr .i64 (day+r.Days) then last else wr .i64 (day+r.Days)) with
      |some (r7,r8)=>(bif (r8==0&&decide (r7≤last)) then some (r7,0) else match qa3 c last with
       |some (r11,r12)=>(bif (!(r12==0)||decide (r11≤day)) then some (0,15) else some (r11,0))
       |none=>none)
      |none=>none) =
     (bif decide (last≤day) then (some (0,15):Option (Int×Int)) else match qgc c (if last<wr .i64 (day+r.Days) then last else wr .i64 (day+r.Days)) with
      |some (r6,r7)=>(bif (!(r7==0)||decide (last<r6)) then (match qe1 c last with
       |some (r10,r11)=>(bif (!(r11==0)||decide (r10≤day)) then some (0,15) else some (r10,0))
       |none=>none) else (bif (!(r7==0)||decide (r6≤day)) then some (0,15) else some (r6,0)))
      |none=>none):=by
     intro last hlast;cases h4:decide (last≤day) with
     |true=>rfl
     |false=>
      rw[yaf]at h4;simp only[yaa,e3f hc,g2y hc];rw[a0g (n:=day+r.Days) (by omega) (by omega)];cases hn:qgc c (if last<day+r.Days then last else day+r.Days) with
      |none=>rfl
      |some p=>
       obtain ⟨d,e⟩:=p;dsimp only;by_cases he:e=0
       ·subst he;have hge:=g2m hc (by split<;>omega) hn;have hgt:¬d≤day:=by split at hge<;>omega
        have e1:decide (d≤day)=false:=by rw[yaf];exact hgt
        have e2:decide (last<d)=!(decide (d≤last)):=by
         rw[ybj];simp
        rw[e1,e2];cases decide (d≤last)<;>rfl
       ·have e1:(e==0)=false:=by simpa using he
        rw[e1]
        try rfl
    cases decide (0<r.Fixed) with
    |true=>exact core _ (by split<;>omega)
    |false=>exact core _ (by omega)
end
section
def g25 {r:Rule} {c:Calendar} (hc:CalOk c) (hr:a5x r=true) (n:Loan) (day u:Int):qdf r c n day u=qfm r c n day u:=by
 unfold qdf qfm;rw[c8f hc hr]
 try rfl
def a6y {l:List Loan} {item:Int} (hl:l.length<1000000000):qa9 (λ(g:Unit×Int×Unit) x0=>qbn x0 g.2.1) l ((),(item,())) =
 some (match l.find? (λn=>n.Item==item) with|some x=>(x,a66 (λn=>n.Item==item) l)|none=>((⟨0,0,0,0,0,false⟩:Loan),-1)):=by
 unfold qa9;rw[e2y (p:=λ(g:Unit×Int×Unit) x0=>qbn x0 g.2.1) (g:=((),(item,()))) (λx=>x.Item==item) hl (λx _=>rfl)];rcases o8 (λx:Loan=>x.Item==item) l with ⟨h1,h2⟩|⟨i,x,h1,h2,h3,h4⟩
 ·simp only[h1,h2,a6a,yac]
 ·simp only[h1,h4,a4f,yaa,d8,h2]
def e2r {l:List Loan} (hl:l.length<1000000000):qb6 l=some (bif !(o4 l==0) then ([],o4 l) else (l,0)):=by
 unfold qb6;rw[f4g hl];cases h:o4 l==0<;>simp[h]
def f40 {l:List Loan} (hl:l.length<1000000000):qeo l=some (bif !(o4 l==0) then ([],o4 l) else (l,0)):=by
 unfold qeo;rw[f47 hl];cases h:o4 l==0<;>simp[h]
def c3d {l:List Loan} {i:Nat} {x y:Loan} (hl:l.length<1000000000) (h:l[i]?=some x):qc9 l (i:Int) y=some (l.set i y):=by
 unfold qc9 qbj;rw[a5r hl];simp only[yac,yaU,d8,h,yaB]
def h3s (l:List Loan) (i:Nat) (y:Loan):List Loan×Int:=bif !(o4 (l.set i y)==0) then ([],o4 (l.set i y)) else (l.set i y,0)
def a7x (l:List Loan) (item due:Int):List Loan×Int:=
 match l.find? (λn=>n.Item==item) with
 |some x=>bif x.Recalled then ([],12) else h3s l (a66 (λn=>n.Item==item) l).toNat ⟨x.Item,x.Patron,x.Out,due,wr .i64 (x.Renewals+1),x.Recalled⟩
 |none=>([],9)
def h1n {l:List Loan} {item due:Int} (hl:l.length<1000000000):qd9 l item due=some (a7x l item due):=by
 unfold qd9 a7x qz;dsimp only;rw[a6y hl];rcases o8 (λx:Loan=>x.Item==item) l with ⟨h1,h2⟩|⟨i,x,h1,h2,h3,h4⟩
 ·simp only[h2,a6a,yac]
 ·simp only[h4,h1,a4f,yaa];cases x.Recalled with
  |true=>rfl
  |false=>
   have hk:∀y:Loan,qb6 (l.set i y)=some (bif !(o4 (l.set i y)==0) then ([],o4 (l.set i y)) else (l.set i y,0)):=λy=>e2r (by rw[List.length_set];exact hl)
   simp only[yaa,c3d hl h2,hk,yaB,h3s]
def f48 {l:List Loan} {item due:Int} (hl:l.length<1000000000):qfd l item due=some (a7x l item due):=by
 unfold qfd a7x;rw[d2w hl];rcases o8 (λx:Loan=>x.Item==item) l with ⟨h1,h2⟩|⟨i,x,h1,h2,h3,h4⟩
 ·simp only[h1,h2,a6a,yac]
 ·have hlt:=(zL h2)
  have hset:∀y:Loan,(l.set i y)[i]?=some y:=λy=>by rw[ybx hlt]
  simp only[h4,h1,a4f,yaa,d8,h2,yaU,yaB,hset,List.set_set,a5r hl,yac];cases x.Recalled with
  |true=>rfl
  |false=>
   have hk:∀y:Loan,qeo (l.set i y)=some (bif !(o4 (l.set i y)==0) then ([],o4 (l.set i y)) else (l.set i y,0)):=λy=>f40 (by rw[List.length_set];exact hl)
   simp only[yaa,hk,h3s]
def i7 (c:Circ) (l:List Loan):Circ:=⟨c.Today,c.Items,c.Patrons,l,c.Holds,c.Charges,c.Rules,c.Cals,c.Moves,c.NextHold,c.NextCharge,c.Local⟩
def a9k (c:Circ) (l:List Loan):qb2 l 0 ⟨c,0⟩=some ((),⟨i7 c l,0⟩):=rfl
def a8q (c:Circ) (l:List Loan) (e:Int) (he:e≠0):qb2 l e ⟨c,0⟩=some ((),⟨i7 c c.Loans,e⟩):=by
 have h:(e==0)=false:=by simpa using he
 unfold qb2 qr;simp only[h,yar,yac,yal,yaa]
 try rfl
def a6d (c:Circ) (x:Item):Bool:=c.Holds.any (λh=>h.State==1&&decide (h.Asleep≤c.Today)&&(h.Record==x.Record&&(h.Item==0||h.Item==x.ID)))
def h1b (h:Hold) (c:Circ) (x:Item):qby h c x=some (h.State==1&&decide (h.Asleep≤c.Today)&&(h.Record==x.Record&&(h.Item==0||h.Item==x.ID))):=by
 unfold qby qct;simp -zeta only[a0s,p9];dsimp only;simp -zeta only[a0s,p9]
def f5e (h:Hold) (x:Item):qfx h x=some (h.Record==x.Record&&(h.Item==0||h.Item==x.ID)):=by
 unfold qfx;simp -zeta only[a0s,p9]
 try rfl
def b43 {c:Circ} {item:Int} {n:Loan} {x:Item} (hs:Short c):b9 a7w (item,0,c,y6,n,x,())=some (bif a6d c x then .inr (0,16,y6,()) else .inl (item,c,y6,n,x,())):=by
 have h:=j9 (step:=a7w) (λi=>(item,(i:Int),c,y6,n,x,())) c.Holds (λ_ h=>!(h.State==1&&decide (h.Asleep≤c.Today)&&(h.Record==x.Record&&(h.Item==0||h.Item==x.ID)))) (.inr (0,16,y6,())) (.inl (item,c,y6,n,x,())) hs.holds
  (by simp only[a7w,dge,yaa])
  (λi h hx=>by
   have hi:=(zL hx)
   have:=hs.holds;simp -zeta only[a7w,dlt hi,d8,hx,yac,f5e,p9,wS i];dsimp only;cases (h.State==1&&decide (h.Asleep≤c.Today)&&(h.Record==x.Record&&(h.Item==0||h.Item==x.ID)))<;>rfl)
 rw[show b9 a7w (item,0,c,y6,n,x,())=_ from h,o0];unfold a6d;rw[b84];cases c.Holds.all (λh=>!(h.State==1&&decide (h.Asleep≤c.Today)&&(h.Record==x.Record&&(h.Item==0||h.Item==x.ID))))<;>rfl
end
section
structure FitP (c:Circ):Prop where
 charges:o9 c.Charges=0
 loans:o4 c.Loans=0
 holds:w8 c.Holds=0
 rules:a2w c.Rules=0
 patrons:a05 c.Patrons=0
 cal0:CalOk c.Cals.x0
 cal1:CalOk c.Cals.x1
 cal2:CalOk c.Cals.x2
 cal3:CalOk c.Cals.x3
 items:a1d c=true
 loanG:∀n∈c.Loans,a3m c n=true
 itemG:∀x∈c.Items,(a3r c.Loans x.ID).2=a3f x.Custody
 holdG:∀h∈c.Holds,a3k c h=true
 readyG:∀x∈c.Items,a1l c x=true
 nums:a36 c=true
def h5t {c:Circ} (h:a4u c=true):FitP c:=by
 unfold a4u at h;rw[a7o]at h;simp only[yae]at h;obtain ⟨h1,h2,h3,h4,h5,h6,h7⟩:=h;unfold a3l at h2;simp only[yan,yai,yay,ya6]at h2;unfold a3i at h3;simp only[yae]at h3;unfold a2b at h6;unfold a4i at h7;simp only[yae,yaj,ya6]at h6 h7;exact ⟨h2.1.2,h2.1.1.1.2,h2.1.1.2,h2.2,h2.1.1.1.1,e66 h3.1,e66 h3.2.1,e66 h3.2.2.1,e66 h3.2.2.2,h5,h6.1,h6.2,h7.1,h7.2,h1⟩
def a8v {c:Circ} (h:FitP c) (b:Int):CalOk (e6d c b):=by
 unfold e6d;cases b==1 with
 |true=>exact h.cal0
 |false=>
  cases b==2 with
  |true=>exact h.cal1
  |false=>
   cases b==3 with
   |true=>exact h.cal2
   |false=>exact h.cal3
def c0x {c:Circ} (h:FitP c) {r:Rule} (hr:r∈c.Rules):a5x r=true:=by
 have h:=h.rules;unfold a2w at h;rw[a0q h (by decide)]at h;obtain ⟨i,hi⟩:=yaw hr;have:=a9p (k:=0) h i r hi;rw[yaI]at this;unfold a4q at this;have:=a0q this (by decide);simpa using this
def a6v (c:Custody):Prop:=rng 1 4 c.Branch=true
def c5p {c:Custody} (h:a88 c=true):a6v c:=by
 unfold a88 at h;unfold a6v;cases hq:(decide (c.State<1)||decide (12<c.State)||decide (c.Branch<1)||decide (4<c.Branch)) with
 |true=>rw[hq]at h;cases h
 |false=>
  simp only[yai,yaf]at hq;rw[y9];omega
def c06 {m:Move} (h:a87 m=true):rng 1 4 m.Branch=true:=by
 unfold a87 at h;simp only[yae,yad]at h;rw[y9];omega
def a9f {c:Custody} {m:Move} (h:((p8 c m).2==0)=true):a6v (p8 c m).1:=by
 unfold p8 at h ⊢;cases e1:(!(a88 c)||!(a87 m)) with
 |true=>rw[e1]at h;cases h
 |false=>
  have e0:=e1;simp only[yai,yay]at e0;have b1:=c5p e0.1;have b2:=c06 e0.2;rw[e1]at h;simp only[yaa]at h ⊢;cases e2:!(a64 c.State m.Kind) with
  |true=>rw[e2]at h;cases h
  |false=>
   rw[e2]at h;simp only[yaa]at h ⊢;cases e3:(m.Kind==3&&c.State==5&&!(m.Who==c.Who)) with
   |true=>rw[e3]at h;cases h
   |false=>
    rw[e3]at h;simp only[yaa]at h ⊢;cases e4:!(c0w c m) with
    |true=>rw[e4]at h;cases h
    |false=>
     simp only[yaa];cases (a0u m.Kind==2) with
     |true=>exact b2
     |false=>
      simp only[yaa];cases (a0u m.Kind==4||(a0u m.Kind==5||a0u m.Kind==8)) with
      |true=>exact b1
      |false=>
       simp only[yaa];cases e5:(a0u m.Kind==6) with
       |true=>exact b1
       |false=>
        simp only[yaa];cases (a0u m.Kind==9||a0u m.Kind==10) with
        |true=>exact b1
        |false=>exact b1
def b6k:∀{l:List Move} {i:Nat} {item:Int} {c d:Custody},a6v c→a0i i l item c=.inl d→a6v d:=by
 intro l
 induction l with
 |nil=>intro i item c d hc h;simp only[a0i]at h;cases h;exact hc
 |cons x l ih=>
  intro i item c d hc h;simp only[a0i]at h;cases e:x.Item==item with
  |false=>rw[e]at h;exact ih hc h
  |true=>
   rw[e]at h;simp only[yac]at h;cases e2:(p8 c x).2==0 with
   |true=>rw[e2]at h;exact ih (a9f e2) h
   |false=>rw[e2]at h;cases h
def b5d {c:Circ} {x:Item} (h:a1a c x=true):a6v x.Custody:=by
 unfold a1a at h;simp only[yan,yai,yay,ya6]at h;obtain ⟨h1,h2⟩:=h;have e:=a2a.1 h2;rw[←e];unfold a0v at h1 ⊢;cases hb:(decide (x.Branch<1)||decide (4<x.Branch)) with
 |true=>rw[hb]at h1;cases h1
 |false=>
  rw[hb]at h1;simp only[yaa]at h1 ⊢;have hb2:a6v (b1w x.Branch):=by
   simp only[yai,yaf]at hb;show rng 1 4 x.Branch=true
   rw[y9];omega
  cases hr:a0i 0 c.Moves x.ID (b1w x.Branch) with
  |inl d=>exact b6k hb2 hr
  |inr p=>
   rw[hr]at h1;exfalso;obtain ⟨i,e⟩:=p;simp only at h1;have key:∀(l:List Move) (i:Nat) (c:Custody) (p:Int×Int),a0i i l x.ID c=.inr p→p.2≠0:=by
    intro l
    induction l with
    |nil=>intro i c p h;simp only[a0i]at h;cases h
    |cons y l ih=>
     intro i c p h;simp only[a0i]at h;cases e:y.Item==x.ID with
     |false=>rw[e]at h;exact ih _ _ _ h
     |true=>
      rw[e]at h;simp only[yac]at h;cases e2:(p8 c y).2==0 with
      |true=>rw[e2]at h;exact ih _ _ _ h
      |false=>rw[e2]at h;cases h;simpa using e2
   exact key _ _ _ _ hr h1
def b0l {c:Circ} (h:FitP c) {x:Item} (hx:x∈c.Items):rng 1 4 x.Custody.Branch=true:=b5d (a7p h.items hx)
def d97 {c:Circ} (h:FitP c) {item:Int} {n:Loan} (hn:c.Loans.find? (λn=>n.Item==item)=some n):n∈c.Loans∧n.Item=item:=⟨yaZ hn,by have:=ybs hn;simpa using this⟩
def b0r {c:Circ} (h:FitP c) {n:Loan} (hn:n∈c.Loans):∃x p,c.Items.find? (λx=>x.ID==n.Item)=some x∧x∈c.Items∧x.ID=n.Item∧a3e c.Patrons n.Patron=(p,true)∧p.ID=n.Patron∧a3f x.Custody=true∧x.Custody.Who=n.Patron:=by
 have hg:=h.loanG n hn;unfold a3m at hg;cases hf:c.Items.find? (λx=>x.ID==n.Item) with
 |none=>rw[hf]at hg;cases hg
 |some x=>
  rw[hf]at hg;simp only[yan,yai,yay,ya6]at hg;obtain ⟨⟨g1,g2⟩,g3⟩:=hg;unfold a3e at g1 ⊢;cases hp:c.Patrons.find? (λp=>p.ID==n.Patron) with
  |none=>rw[hp]at g1;cases g1
  |some p=>exact ⟨x,p,rfl,yaZ hf,by have:=ybs hf;simpa using this,rfl,by have:=ybs hp;simpa using this,g2,g3⟩
def e8n {l:List Patron} {id:Int} {p:Patron} (h:a3e l id=(p,true)):p∈l∧p.ID=id:=by
 unfold a3e at h;cases hp:l.find? (λp=>p.ID==id) with
 |none=>rw[hp]at h;cases h
 |some q=>rw[hp]at h;cases h;exact ⟨yaZ hp,by have:=ybs hp;simpa using this⟩
def d70 {l:List Rule} {p it br:Int}:a7c l (e63 l p it br):=by
 have key:∀(m:List Rule) (i:Nat) (b:Int),i+m.length=l.length→a7c l b→a7c l (a3p (σ:=Int) (β:=Int) (λi x b=>.inl (c1o l p it br i x b)) (λb=>b) i m b):=by
  intro m
  induction m with
  |nil=>intro i b _ h;exact h
  |cons x m ih=>intro i b hi h;simp only[a3p];simp only[yaR]at hi;exact ih _ _ (by omega) (b2u h (by omega))
 exact key l 0 (-1) (by omega) (.inl (by omega))
def b5g {c:Circ} (hs:Short c) {p:Int} {x:Item}:∃r b,qfv c p x=some (r,b)∧(b=true→r∈c.Rules):=by
 unfold qfv;rw[a5w hs.patrons];dsimp only;cases (a3e c.Patrons p).2 with
 |false=>exact ⟨_,false,rfl,λh=>by cases h⟩
 |true=>
  simp only[yak,yaa];unfold qga;rw[f5c hs.rules];dsimp only;rcases d70 (l:=c.Rules) (p:=(a3e c.Patrons p).1.Kind) (it:=x.Kind) (br:=x.Branch) with h|⟨k,hk,hlt⟩
  ·rw[show decide (e63 c.Rules (a3e c.Patrons p).1.Kind x.Kind x.Branch<0)=true by rw[yad];exact h];exact ⟨_,false,rfl,λh=>by cases h⟩
  ·rw[hk,show decide ((k:Int)<0)=false by rw[yaf];omega];simp only[yaa,d8,yab hlt];exact ⟨_,true,rfl,λ_=>ybB hlt⟩
end
section
def c88 {l:List Loan} {item due:Int} (h:(a7x l item due).2=0) (hl:l.length<1000000000):(a7x l item due).1.length<1000000000:=by
 unfold a7x at h ⊢;cases hf:l.find? (λn=>n.Item==item) with
 |none=>rw[hf]at h;cases h
 |some x=>
  rw[hf]at h;simp only at h ⊢;cases x.Recalled with
  |true=>simp
  |false=>
   simp only[yaa]at h ⊢;unfold h3s at h ⊢;cases (!(o4 (l.set (a66 (λn=>n.Item==item) l).toNat ⟨x.Item,x.Patron,x.Out,due,wr .i64 (x.Renewals+1),false⟩)==0)) with
   |true=>simp
   |false=>simp;exact hl
def a7h {c:Circ} {l:List Loan} (hs:Short c) (hl:l.length<1000000000):Short (i7 c l):=by
 obtain ⟨h1,h2,h3,h4,h5,h6,h7,h8,h9,h10,h11,h12,h13⟩:=hs;exact ⟨h1,h2,hl,h4,h5,h6,h7,h8,h9,h10,h11,h12,h13⟩
def a73 {α β:Type} {step:α→Option (α⊕β)} (Inv:α→Prop) (μ:α→Nat) (h:∀a,Inv a→(∃a',step a=some (.inl a')∧Inv a'∧μ a'<μ a)∨∃b,step a=some (.inr b)) {a:α} (ha:Inv a) (hm:μ a<c1a):∃r,b9 step a=some r:=by
 have key:∀n a,Inv a→μ a<n→∃r,o7 step n a=some r:=by
  intro n
  induction n with
  |zero=>intro a _ h;omega
  |succ n ih=>
   intro a hi hn;simp only[o7];rcases h a hi with ⟨a',h1,h2,h3⟩|⟨b,h1⟩
   ·rw[h1];exact ih a' h2 (by omega)
   ·rw[h1];exact ⟨b,rfl⟩
 exact key c1a a ha hm
def b4d {c:Calendar} (hc:CalOk c) (d:Int):∃a b,qgc c d=some (a,b):=by
 obtain ⟨r,hr⟩:=a73 (step:=b1i) (λa=>0≤a.1∧a.2.1=c) (λa=>(109573-a.1).toNat) (by
  rintro ⟨d,c',_⟩ ⟨h0,(rfl:c'=c)⟩;simp only at h0;simp only[b1i,b5b hc];by_cases hq:d≤109572
  ·rw[show decide (d≤109572)=true by rw[yad];exact hq];simp only[yac];cases a67 c' d with
   |true=>exact .inr ⟨_,rfl⟩
   |false=>
    simp only[yaa];rw[a0g (by omega) (by omega)];exact .inl ⟨_,rfl,⟨by show 0≤d+1;omega,rfl⟩,by show (109573-(d+1)).toNat<(109573-d).toNat;omega⟩
  ·rw[show decide (d≤109572)=false by rw[yaf];exact hq];exact .inr ⟨_,rfl⟩) (a:=((if d<0 then 0 else d),c,())) ⟨by show 0≤if d<0 then 0 else d;split<;>omega,rfl⟩ (by rw[n9];show (109573-if d<0 then 0 else d).toNat<_;split<;>omega)
 unfold qgc;rw[hr];rcases r with _|⟨a,b,_⟩
 ·exact ⟨_,_,rfl⟩
 ·exact ⟨_,_,rfl⟩
def c6j {c:Calendar} (hc:CalOk c) (d:Int):∃a b,qe1 c d=some (a,b):=by
 obtain ⟨r,hr⟩:=a73 (step:=c4n) (λa=>a.1≤109572∧a.2.1=c) (λa=>(a.1+1).toNat) (by
  rintro ⟨d,c',_⟩ ⟨h0,(rfl:c'=c)⟩;simp only at h0;simp only[c4n,b5b hc];by_cases hq:0≤d
  ·rw[show decide (0≤d)=true by rw[yad];exact hq];simp only[yac];cases a67 c' d with
   |true=>exact .inr ⟨_,rfl⟩
   |false=>
    simp only[yaa];rw[a0g (by omega) (by omega)];exact .inl ⟨_,rfl,⟨by show d-1≤109572;omega,rfl⟩,by show (d-1+1).toNat<(d+1).toNat;omega⟩
  ·rw[show decide (0≤d)=false by rw[yaf];exact hq];exact .inr ⟨_,rfl⟩) (a:=((if 109572<d then 109572 else d),c,())) ⟨by show (if 109572<d then 109572 else d)≤109572;split<;>omega,rfl⟩ (by rw[n9];show ((if 109572<d then 109572 else d)+1).toNat<_;split<;>omega)
 unfold qe1;rw[hr];rcases r with _|⟨a,b,_⟩
 ·exact ⟨_,_,rfl⟩
 ·exact ⟨_,_,rfl⟩
def a1q {α β:Type} {b:Bool} {x y:Option (α×β)} (hx:∃u v,x=some (u,v)) (hy:∃u v,y=some (u,v)):∃u v,(bif b then x else y)=some (u,v):=by
 cases b
 ·exact hy
 ·exact hx
def b9v {r:Rule} {c:Calendar} (hc:CalOk c) (day u:Int):∃a b,qgk r c day u=some (a,b):=by
 have core:∀last:Int,∃a b,(bif decide (last≤day) then (some (0,15):Option (Int×Int)) else match qgc c (if last<wr .i64 (day+r.Days) then last else wr .i64 (day+r.Days)) with
  |some (r6,r7)=>(bif (!(r7==0)||decide (last<r6)) then (match qe1 c last with
   |some (r10,r11)=>(bif (!(r11==0)||decide (r10≤day)) then some (0,15) else some (r10,0))
   |none=>none) else (bif (!(r7==0)||decide (r6≤day)) then some (0,15) else some (r6,0)))
  |none=>none)=some (a,b):=by
  intro last;refine a1q ⟨_,_,rfl⟩ ?_;obtain ⟨a,b,h⟩:=b4d hc (if last<wr .i64 (day+r.Days) then last else wr .i64 (day+r.Days));obtain ⟨a2,b2,h2⟩:=c6j hc last;rw[h,h2];simp only;exact a1q (a1q ⟨_,_,rfl⟩ ⟨_,_,rfl⟩) (a1q ⟨_,_,rfl⟩ ⟨_,_,rfl⟩)
 unfold qgk;simp -zeta only[e20,a0s,p9];dsimp only;refine a1q ⟨_,_,rfl⟩ (a1q ⟨_,_,rfl⟩ ?_);refine a1q ?_ ?_
 ·exact core _
 ·exact core _
def d6g {r:Rule} {c:Calendar} (hc:CalOk c) (n:Loan) (day u:Int):∃a b,qfm r c n day u=some (a,b):=by
 unfold qfm;simp -zeta only[a0s];dsimp only;refine a1q ⟨_,_,rfl⟩ ?_;obtain ⟨a,b,h⟩:=b9v (r:=r) hc day u;rw[h];simp only;exact a1q ⟨_,_,rfl⟩ (a1q ⟨_,_,rfl⟩ ⟨_,_,rfl⟩)
def b09 (a b:Option (Circ×Int×Int)):Prop:=∃c n e,a=some (c,n,e)∧b=some (c,n,e)∧Short c
def w6 {e:Int}:b09 (some (y6,0,e)) (some (y6,0,e)):=⟨_,_,_,rfl,rfl,c4d⟩
def c89 {c:Circ} {item:Int} (hs:Short c) (h:FitP c):b09 (qbd c item) (qe7 c item):=by
 unfold qbd qe7;rw[f4q hs.loans,e23 hs.loans];cases hn:c.Loans.find? (λn=>n.Item==item) with
 |none=>
  have e:a3r c.Loans item=((⟨0,0,0,0,0,false⟩:Loan),false):=by unfold a3r;rw[hn]
  rw[e];rw[f0u hs.items];exact w6
 |some n=>
  obtain ⟨hm,hit⟩:=d97 h hn;have e:a3r c.Loans item=(n,true):=by unfold a3r;rw[hn]
  obtain ⟨x,p,hx,hxm,hxi,hp,hpi,hw,hwho⟩:=b0r h hm;rw[hit]at hx;rw[e];rcases b2f (item:=item) hs.items with ⟨q1,q2⟩|⟨i,y,q1,q2,q3,q4⟩
  ·rw[hx]at q2;cases q2
  ·rw[hx]at q4;cases q4
   have q1':qgm c item=some (i:Int):=by rw[a96 hs.items,←f0u hs.items,q1]
   have hb:=b0l h hxm;simp -zeta only[q1,q1',q2,d8,a4f,yak,yaa,Bool.or_self,a0s,a9z];dsimp only;simp only[yaa];cases hst:x.Custody.State==4 with
   |false=>exact w6
   |true=>
    simp only[yak,yaa,d2s hs.patrons,hp,f4s hs h.charges,f4z hs h.charges,hpi];cases decide (0<((a42 p c.Today (a8s n.Patron c.Charges) (c0c n.Patron c.Today c.Loans)).length:Int)) with
    |true=>exact w6
    |false=>
     have hc:=e2q (p:=λ(g:Unit×Circ×Item×Unit) x0=>qby x0 g.2.1 g.2.2.1) (g:=((),(c,x,()))) (λh=>h.State==1&&decide (h.Asleep≤c.Today)&&(h.Record==x.Record&&(h.Item==0||h.Item==x.ID))) hs.holds (λh _=>h1b h c x);have hl10:=b43 (item:=item) (n:=n) (x:=x) hs;simp only[yaa,hc];rw[show c.Holds.any (λh=>h.State==1&&decide (h.Asleep≤c.Today)&&(h.Record==x.Record&&(h.Item==0||h.Item==x.ID)))=a6d c x from rfl];rw[show b9 a7w (item,0,c,ZN,n,x,())=_ from hl10];cases a6d c x with
     |true=>exact w6
     |false=>
      obtain ⟨r,b,hr,hrm⟩:=b5g (p:=n.Patron) (x:=x) hs;simp only[yaa,c0v hs,hr,a5w hs.patrons,hp];cases b with
      |false=>exact w6
      |true=>
       simp only[yak,yaa,c4l hb,e3d hb,g25 (a8v h _) (c0x h (hrm rfl))];obtain ⟨due,err,hq⟩:=d6g (r:=r) (a8v h x.Custody.Branch) n c.Today p.Until;rw[hq]
       ·simp only;cases he:err==0 with
        |false=>exact w6
        |true=>
         simp only[yak,yaa,qb9,h1n hs.loans,f48 hs.loans];cases hrl:a7x c.Loans item due with
         |mk l e2=>
          simp only;by_cases h2:e2=0
          ·subst h2;have hlen:=c88 (l:=c.Loans) (item:=item) (due:=due) (by rw[hrl]) hs.loans;rw[hrl]at hlen;exact ⟨i7 c l,due,0,rfl,rfl,a7h hs hlen⟩
          ·have h3:(e2==0)=false:=by simpa using h2
           rw[a8q c l e2 h2];simp only[h3,yar,yac,qbi];exact w6
end
section
def c2r (l:List Hold) (id:Int):Hold×Bool:=match l.find? (λh=>h.ID==id) with|some h=>(h,true)|none=>(a93,false)
def f4w {l:List Hold} {id:Int} (hl:l.length<1000000000):qdo l id=some (c2r l id):=by
 unfold qdo qay c2r;rw[b7n (p:=λ(g:Unit×Int×Unit) x0=>qc3 x0 g.2.1) (g:=((),(id,()))) (λx=>x.ID==id) hl (λx _=>rfl)];rcases o8 (λx:Hold=>x.ID==id) l with ⟨h1,h2⟩|⟨i,x,h1,h2,h3,h4⟩
 ·simp only[h1,h2]
  try rfl
 ·have d:decide ((0:Int)≤(i:Int))=true:=by rw[yad];omega
  simp only[h1,h4,d,yac,d8,h2]
def b8e {l:List Hold} {id:Int} (hl:l.length<1000000000):qgf l id=some (c2r l id):=by
 unfold qgf c2r;have h:=w7 (step:=c48) (λi=>(l,id,(i:Int),a93,())) l (λx=>x.ID==id) (λ_ x=>(.inr (true,x,()):(Hold×Unit)⊕(Bool×Hold×Unit))) (.inl (a93,())) hl
  (by simp only[c48,dge,yaa])
  (λi x hx=>by
   have hi:=(zL hx)
   simp only[c48,dlt hi,d8,hx,yac,wS i])
 rw[show b9 c48 (l,id,0,(⟨0,0,0,0,0,0,0,0,0,0,0⟩:Hold),())=_ from h,b0k];cases l.find? (λx=>x.ID==id)<;>rfl
def c57 {α β γ:Type} {s1:α→Option (α⊕β)} {s2:γ→Option (γ⊕β)} (Inv:α→Prop) (φ:α→γ)
 (h:∀a,Inv a→s2 (φ a)=(match s1 a with|none=>none|some (.inl b)=>some (.inl (φ b))|some (.inr b)=>some (.inr b)))
 (hi:∀a b,Inv a→s1 a=some (.inl b)→Inv b) {a:α} (ha:Inv a):b9 s2 (φ a)=b9 s1 a:=by
 have key:∀n a,Inv a→o7 s2 n (φ a)=o7 s1 n a:=by
  intro n
  induction n with
  |zero=>intro a _;rfl
  |succ n ih=>
   intro a ha;simp only[o7];rw[h a ha];cases hs:s1 a with
   |none=>rfl
   |some x=>
    cases x with
    |inl b=>exact ih b (hi a b ha hs)
    |inr b=>rfl
 exact key c1a a ha
def e2m {c:Calendar} (hc:CalOk c) (day n:Int):qa6 c day n=qfo c day n:=by
 have hw:b9 b8b (n,day,0,c,())=b9 b7l (day,n,0,c,()):=by
  refine c57 (s1:=b7l) (s2:=b8b) (λa=>a.2.2.2.1=c) (λa=>(a.2.1,a.1,a.2.2.1,a.2.2.2.1,())) ?_ ?_ (a:=(day,n,0,c,())) rfl
  ·rintro ⟨d,n,i,c',_⟩ (rfl:c'=c);simp only[b7l,b8b,e3f hc];cases decide (i<n) with
   |false=>rfl
   |true=>
    simp only[yac];cases qgc c' (wr .i64 (d+1)) with
    |none=>rfl
    |some p=>
     obtain ⟨a,b⟩:=p;simp only;cases !(b==0)<;>rfl
  ·rintro ⟨d,n,i,c',_⟩ b (rfl:c'=c) hb;simp only[b7l]at hb;cases hq:decide (i<n) with
   |false=>rw[hq]at hb;cases hb
   |true=>
    rw[hq]at hb;simp only[yac]at hb;cases hn:qx c' (wr .i64 (d+1)) with
    |none=>rw[hn]at hb;cases hb
    |some p=>
     obtain ⟨a,b2⟩:=p;rw[hn]at hb;simp only at hb;cases he:!(b2==0) with
     |true=>rw[he]at hb;cases hb
     |false=>rw[he]at hb;cases hb;rfl
 unfold qa6 qfo;simp -zeta only[a0s,e2t,e3f hc];dsimp only;rw[hw,←a3n 0 109572]
 try rfl
end
section
def g05 {c:Circ} (h:FitP c) {x:Item} (hx:x∈c.Items):1≤x.ID∧x.ID≤9999:=by
 have h:=h.items;unfold a1d at h;simp only[yae]at h;obtain ⟨i,hi⟩:=yaw hx;have:=(a39.1 h.2.1) i x hi;rw[yaI]at this;simp only[yan,yai,yay]at this;have h2:=this.1;unfold a0a at h2;simp only[yae,y9]at h2;omega
def h0s:Loan:=⟨0,0,0,0,0,false⟩
def g0y (h:Hold) (x:Item):Bool:=h.Record==x.Record&&(h.Item==0||h.Item==x.ID)
def h1j (h:Hold) (x:Item):qct h x=some (g0y h x):=by
 unfold qct g0y;simp -zeta only[a0s,p9]
 try rfl
def b0p {c:Calendar} (hc:CalOk c) (d n:Int):∃a b,qfo c d n=some (a,b):=by
 unfold qfo;simp -zeta only[a0s];dsimp only;cases hb:(decide (n<0)||decide (1000<n)) with
 |true=>exact ⟨_,_,rfl⟩
 |false=>
  simp only[yai,yaf]at hb;simp only[yaa];refine a1q ⟨_,_,rfl⟩ (a1q ?_ ?_)
  ·obtain ⟨a,b,h⟩:=b4d hc d;rw[h];exact ⟨_,_,rfl⟩
  ·obtain ⟨r,hr⟩:=a73 (step:=b8b) (λa=>a.1=n∧0≤a.2.2.1∧a.2.2.2.1=c) (λa=>(n-a.2.2.1).toNat) (by
    rintro ⟨n',d,i,c',_⟩ ⟨(rfl:n'=n),h0,(rfl:c'=c)⟩;simp only at h0;simp only[b8b];by_cases hq:i<n'
    ·rw[show decide (i<n')=true by rw[yad];exact hq];obtain ⟨a,b,h⟩:=b4d hc (wr .i64 (d+1));simp only[yac,h];cases !(b==0) with
     |true=>exact .inr ⟨_,rfl⟩
     |false=>
      simp only[yaa];rw[a0g (n:=i+1) (by omega) (by omega)];exact .inl ⟨_,rfl,⟨rfl,by show 0≤i+1;omega,rfl⟩,by show (n'-(i+1)).toNat<(n'-i).toNat;omega⟩
    ·rw[show decide (i<n')=false by rw[yaf];exact hq];exact .inr ⟨_,rfl⟩) (a:=(n,d,0,c,())) ⟨rfl,by show (0:Int)≤0;omega,rfl⟩ (by rw[n9];show (n-0).toNat<_;omega)
   rw[hr];rcases r with ⟨a,_⟩|⟨a,b,_⟩
   ·exact ⟨_,_,rfl⟩
   ·exact ⟨_,_,rfl⟩
end
section
def b1s {X:Type} (lt:X→X→Bool) (y:X):List X→List X→List X
 | [],rest=>y::rest
 |z::zs,rest=>bif lt y z then b1s lt y zs (z::rest) else zs.reverse++z::y::rest
def e0o {X:Type} {lt:X→X→Bool} {y:X}:∀{r rest more:List X},b1s lt y r (rest++more)=b1s lt y r rest++more:=by
 intro r
 induction r with
 |nil=>intro rest more;rfl
 |cons z zs ih=>
  intro rest more;simp only[b1s];cases lt y z with
  |true=>simp only[yac];rw[←ybA,ih]
  |false=>simp
def d4r {X:Type} {lt:X→X→Bool} {y:X}:∀{B A rest:List X},(∀b∈B,lt y b=true)→(∀a∈A,lt y a=false)→b1s lt y (B++A) rest=A.reverse++y::(B.reverse++rest):=by
 intro B
 induction B with
 |nil=>
  intro A rest _ hA;cases A with
  |nil=>rfl
  |cons a A=>simp only[yaU,b1s,hA a (yaK ..),yaa,List.reverse_cons,ya0,List.reverse_nil];rfl
 |cons b B ih=>
  intro A rest hB hA;simp only[ybA,b1s,hB b (yaK ..),yac];rw[ih (λb hb=>hB b (yaN _ hb)) hA];simp
def atP {X:Type} {pre l:List X} {k:Nat}:(pre++l)[pre.length+k]?=l[k]?:=by
 rw[yaG (by omega)];congr 1;omega
def f4f {X:Type} {pre l:List X} {k:Nat} {x:X}:(pre++l).set (pre.length+k) x=pre++l.set k x:=by
 rw[List.set_append_right _ _ (by omega)];congr 2;omega
section
variable {γ:Type} {p:γ→Hold→Hold→Option Int} {g:γ} {lt:Hold→Hold→Bool}
def g03 (hp:∀y z,∃n,p g y z=some n∧decide (n<0)=lt y z) {b i:Int} {pre:List Hold} (hpre:pre.length<100000):∀(r:List Hold) (y:Hold) (rest:List Hold),r.length<100000→
 o7 (d6b p) (r.length+1) ((pre.length:Int),b,g,i,((pre.length+r.length:Nat):Int),pre++(r.reverse++y::rest),())=some ((pre.length:Int),b,g,i,pre++b1s lt y r rest,()):=by
 intro r
 induction r with
 |nil=>
  intro y rest _;have d:decide ((pre.length:Int)<((pre.length+0:Nat):Int))=false:=by rw[yaf];omega
  simp only[ybh,o7,b1s,d6b,d]
  try rfl
 |cons z zs ih=>
  intro y rest hl;simp only[yaR]at hl;obtain ⟨n,h1,h2⟩:=hp y z;have d:decide ((pre.length:Int)<((pre.length+(zs.length+1):Nat):Int))=true:=by rw[yad];omega
  have w:wr .i64 (((pre.length+(zs.length+1):Nat):Int)-1)=((pre.length+zs.length:Nat):Int):=by
   rw[a0g (by omega) (by omega)];omega
  have e:(z::zs).reverse++y::rest=zs.reverse++z::y::rest:=by simp
  have gy:(zs.reverse++z::y::rest)[zs.length+1]?=some y:=by rw[yaG (by simp)];simp
  have gz:(zs.reverse++z::y::rest)[zs.length]?=some z:=by rw[yaG (by simp)];simp
  have s1:(zs.reverse++z::y::rest).set (zs.length+1) z=zs.reverse++z::z::rest:=by
   rw[List.set_append_right _ _ (by simp)];simp
  have gz2:(zs.reverse++z::z::rest)[zs.length]?=some z:=by rw[yaG (by simp)];simp
  have s2:(zs.reverse++z::z::rest).set zs.length y=zs.reverse++y::z::rest:=by
   rw[List.set_append_right _ _ (by simp)];simp
  rw[o7,e];simp only[yaR,d6b,d,yac,w,d8,yaB,atP,gy,gz,h1,h2,f4f,s1,gz2,s2,b1s];cases lt y z with
  |true=>simp only[yac];exact ih y (z::rest) (by omega)
  |false=>rfl
def a5h (lt:Hold→Hold→Bool) (l:List Hold):List Hold:=l.foldl (λpre y=>b1s lt y pre.reverse []) []
def a6q {l:List Hold} {y:Hold}:a5h lt (l++[y])=b1s lt y (a5h lt l).reverse []:=by
 unfold a5h;rw[List.foldl_append];rfl
def c7l {y:Hold}:∀{r rest:List Hold},(b1s lt y r rest).length=r.length+1+rest.length:=by
 intro r
 induction r with
 |nil=>intro rest;simp[b1s];omega
 |cons z zs ih=>
  intro rest;simp only[b1s];cases lt y z with
  |true=>simp only[yac];rw[ih];simp;omega
  |false=>simp;omega
def a71:∀{l:List Hold},(a5h lt l).length=l.length:=by
 have key:∀(l pre:List Hold),(l.foldl (λpre y=>b1s lt y pre.reverse []) pre).length=pre.length+l.length:=by
  intro l
  induction l with
  |nil=>intro pre;rfl
  |cons y l ih=>intro pre;rw[ybp,ih,c7l];simp;omega
 intro l;unfold a5h;rw[key];simp
def f06 (hp:∀y z,∃n,p g y z=some n∧decide (n<0)=lt y z) {pre l rest:List Hold} (hpre:pre.length<100000) (hl:l.length<100000):∀(k i:Nat),i+k=l.length→
 o7 (c8s p) (k+1) ((pre.length:Int),((pre.length+l.length:Nat):Int),g,((pre.length+i:Nat):Int),pre++(a5h lt (l.take i)++(l.drop i++rest)),())=some (pre++(a5h lt l++rest),()):=by
 intro k
 induction k with
 |zero=>
  intro i hi;have:i=l.length:=by omega
  subst this;simp only[o7,c8s,dge,yaa,List.take_length,List.drop_length,yaU]
 |succ k ih=>
  intro i hi;have hlt:i<l.length:=by omega
  have d:decide (((pre.length+i:Nat):Int)<((pre.length+l.length:Nat):Int))=true:=by rw[yad];omega
  have hlen:(a5h lt (l.take i)).length=i:=by rw[a71,yaD];omega
  have hr:=g03 (p:=p) (g:=g) (lt:=lt) hp (b:=((pre.length+l.length:Nat):Int)) (i:=((pre.length+i:Nat):Int)) hpre (a5h lt (l.take i)).reverse l[i] (l.drop (i+1)++rest) (by rw[List.length_reverse,hlen];omega);rw[List.length_reverse,List.reverse_reverse,hlen,←ybA,←yby hlt]at hr;have hw:b9 (d6b p) ((pre.length:Int),((pre.length+l.length:Nat):Int),g,((pre.length+i:Nat):Int),((pre.length+i:Nat):Int),pre++(a5h lt (l.take i)++(l.drop i++rest)),())=_:=o6 (i+1) (by rw[n9];omega) hr;rw[o7];simp only[c8s,d,yac,hw,w9 (show pre.length+i<9223372036854775807 by omega)];have e:b1s lt l[i] (a5h lt (l.take i)).reverse (l.drop (i+1)++rest)=a5h lt (l.take (i+1))++(l.drop (i+1)++rest):=by
   have:=e0o (lt:=lt) (y:=l[i]) (r:=(a5h lt (l.take i)).reverse) (rest:=[]) (more:=l.drop (i+1)++rest);rw[yaU]at this;rw[this,List.take_succ_eq_append_getElem hlt,a6q]
  rw[e];exact ih (i+1) (by omega)
def e0p (hp:∀y z,∃n,p g y z=some n∧decide (n<0)=lt y z) {pre l rest:List Hold} (hpre:pre.length<100000) (hl:l.length<100000) :
 ql p (pre++(l++rest)) (pre.length:Int) ((pre.length+l.length:Nat):Int) g=some (pre++(a5h lt l++rest)):=by
 unfold ql;have hw:b9 (c8s p) ((pre.length:Int),((pre.length+l.length:Nat):Int),g,wr .i64 ((pre.length:Int)+1),pre++(l++rest),())=some (pre++(a5h lt l++rest),()):=by
  rw[w9 (by omega)];cases l with
  |nil=>
   refine o6 1 (by rw[n9];omega) ?_;have d:decide (((pre.length+1:Nat):Int)<((pre.length+0:Nat):Int))=false:=by rw[yaf];omega
   simp only[o7,c8s,ybh,d,yaa]
   try rfl
  |cons y m=>
   have:=f06 (p:=p) (g:=g) (lt:=lt) hp (pre:=pre) (l:=y::m) (rest:=rest) hpre hl m.length 1 (by simp only[yaR];omega);exact o6 (m.length+1) (by rw[n9];simp only[yaR]at hl;omega) this
 rw[hw]
def g52 (hp:∀y z,∃n,p g y z=some n∧decide (n<0)=lt y z) {l:List Hold} (hl:l.length<20):qcu p l g=some (a5h lt l):=by
 have h1:b9 (d6c p) ((l.length:Int),g,20,0,20,l,())=some ((l.length:Int),g,20,0,l,()):=by
  refine o6 1 (by rw[n9];omega) ?_;have d:decide ((20:Int)≤(l.length:Int))=false:=by rw[yaf];omega
  simp only[o7,d6c,d,yaa]
 have h2:∀m:List Hold,b9 (c8t p) ((l.length:Int),g,20,m,())=some (m,()):=λm=>by
  refine o6 1 (by rw[n9];omega) ?_;have d:decide ((20:Int)<(l.length:Int))=false:=by rw[yaf];omega
  simp only[o7,c8t,d,yaa]
 have h3:ql p l 0 (l.length:Int) g=some (a5h lt l):=by
  have:=e0p (p:=p) (g:=g) (lt:=lt) hp (pre:=[]) (l:=l) (rest:=[]) (by simp) (by omega);simpa using this
 unfold qcu qm;rw[h1];simp only[h3,h2]
end
end
section
def rk (k:Int) (l:List Hold):List Hold:=l.filter (λx=>x.Rank==k)
def ltR (y z:Hold):Bool:=decide (z.Rank<y.Rank)
def o5 (l:List Hold):List Hold:=rk 9 l++(rk 8 l++(rk 7 l++(rk 6 l++(rk 5 l++(rk 4 l++(rk 3 l++(rk 2 l++(rk 1 l++rk 0 l))))))))
def b8s {k:Int} {l:List Hold} {x:Hold} (h:x∈rk k l):x.Rank=k:=by
 unfold rk at h;rw[yaE]at h;simpa using h.2
def a6b (k:Int) (l:List Hold) (y:Hold):rk k (l++[y])=rk k l++(bif y.Rank==k then [y] else []):=by
 unfold rk;rw[List.filter_append,ybq];cases y.Rank==k<;>simp
def e0q {A B:List Hold} {y:Hold} (hA:∀a∈A,y.Rank≤a.Rank) (hB:∀b∈B,b.Rank<y.Rank):b1s ltR y (A++B).reverse []=A++y::B:=by
 rw[List.reverse_append,d4r (by intro b hb;rw[List.mem_reverse]at hb;unfold ltR;rw[yad];exact hB b hb) (by intro a ha;rw[List.mem_reverse]at ha;unfold ltR;rw[yaf];have:=hA a ha;omega)];simp
def b5q:∀(m:List Hold) (l:List Hold),l=m.reverse→(∀x∈l,rng 0 9 x.Rank=true)→a5h ltR l=o5 l:=by
 intro m
 induction m with
 |nil=>intro l h _;subst h;rfl
 |cons y m ih=>
  intro l h hr;rw[List.reverse_cons]at h;subst h;have hy:=y9.1 (hr y (by simp));rw[a6q,ih m.reverse rfl (λx hx=>hr x (by simp at hx ⊢;exact .inl hx))];generalize m.reverse=l;have hc:y.Rank=0∨y.Rank=1∨y.Rank=2∨y.Rank=3∨y.Rank=4∨y.Rank=5∨y.Rank=6∨y.Rank=7∨y.Rank=8∨y.Rank=9:=by omega
  have mid:∀(A B:List Hold),o5 l=A++B→(∀a∈A,y.Rank≤a.Rank)→(∀b∈B,b.Rank<y.Rank)→b1s ltR y (o5 l).reverse []=A++y::B:=λA B e hA hB=>by rw[e];exact e0q hA hB
  have mm:∀(k:Int) (x:Hold),x∈rk k l→x.Rank=k:=λk x h=>b8s h
  rcases hc with h|h|h|h|h|h|h|h|h|h
  ·rw[mid (rk 9 l++(rk 8 l++(rk 7 l++(rk 6 l++(rk 5 l++(rk 4 l++(rk 3 l++(rk 2 l++(rk 1 l++rk 0 l))))))))) [] (by simp[o5]) (by intro a ha;simp only[yau]at ha;rcases ha with h|h|h|h|h|h|h|h|h|h<;>(have:=mm _ _ h;omega)) (by intro b hb;cases hb)];simp[o5,a6b,h]
  ·rw[mid (rk 9 l++(rk 8 l++(rk 7 l++(rk 6 l++(rk 5 l++(rk 4 l++(rk 3 l++(rk 2 l++rk 1 l)))))))) (rk 0 l) (by simp[o5]) (by intro a ha;simp only[yau]at ha;rcases ha with h|h|h|h|h|h|h|h|h<;>(have:=mm _ _ h;omega)) (by intro b hb;have:=mm _ _ hb;omega)];simp[o5,a6b,h]
  ·rw[mid (rk 9 l++(rk 8 l++(rk 7 l++(rk 6 l++(rk 5 l++(rk 4 l++(rk 3 l++rk 2 l))))))) (rk 1 l++rk 0 l) (by simp[o5]) (by intro a ha;simp only[yau]at ha;rcases ha with h|h|h|h|h|h|h|h<;>(have:=mm _ _ h;omega)) (by intro b hb;simp only[yau]at hb;rcases hb with h|h<;>(have:=mm _ _ h;omega))];simp[o5,a6b,h]
  ·rw[mid (rk 9 l++(rk 8 l++(rk 7 l++(rk 6 l++(rk 5 l++(rk 4 l++rk 3 l)))))) (rk 2 l++(rk 1 l++rk 0 l)) (by simp[o5]) (by intro a ha;simp only[yau]at ha;rcases ha with h|h|h|h|h|h|h<;>(have:=mm _ _ h;omega)) (by intro b hb;simp only[yau]at hb;rcases hb with h|h|h<;>(have:=mm _ _ h;omega))];simp[o5,a6b,h]
  ·rw[mid (rk 9 l++(rk 8 l++(rk 7 l++(rk 6 l++(rk 5 l++rk 4 l))))) (rk 3 l++(rk 2 l++(rk 1 l++rk 0 l))) (by simp[o5]) (by intro a ha;simp only[yau]at ha;rcases ha with h|h|h|h|h|h<;>(have:=mm _ _ h;omega)) (by intro b hb;simp only[yau]at hb;rcases hb with h|h|h|h<;>(have:=mm _ _ h;omega))];simp[o5,a6b,h]
  ·rw[mid (rk 9 l++(rk 8 l++(rk 7 l++(rk 6 l++rk 5 l)))) (rk 4 l++(rk 3 l++(rk 2 l++(rk 1 l++rk 0 l)))) (by simp[o5]) (by intro a ha;simp only[yau]at ha;rcases ha with h|h|h|h|h<;>(have:=mm _ _ h;omega)) (by intro b hb;simp only[yau]at hb;rcases hb with h|h|h|h|h<;>(have:=mm _ _ h;omega))];simp[o5,a6b,h]
  ·rw[mid (rk 9 l++(rk 8 l++(rk 7 l++rk 6 l))) (rk 5 l++(rk 4 l++(rk 3 l++(rk 2 l++(rk 1 l++rk 0 l))))) (by simp[o5]) (by intro a ha;simp only[yau]at ha;rcases ha with h|h|h|h<;>(have:=mm _ _ h;omega)) (by intro b hb;simp only[yau]at hb;rcases hb with h|h|h|h|h|h<;>(have:=mm _ _ h;omega))];simp[o5,a6b,h]
  ·rw[mid (rk 9 l++(rk 8 l++rk 7 l)) (rk 6 l++(rk 5 l++(rk 4 l++(rk 3 l++(rk 2 l++(rk 1 l++rk 0 l)))))) (by simp[o5]) (by intro a ha;simp only[yau]at ha;rcases ha with h|h|h<;>(have:=mm _ _ h;omega)) (by intro b hb;simp only[yau]at hb;rcases hb with h|h|h|h|h|h|h<;>(have:=mm _ _ h;omega))];simp[o5,a6b,h]
  ·rw[mid (rk 9 l++rk 8 l) (rk 7 l++(rk 6 l++(rk 5 l++(rk 4 l++(rk 3 l++(rk 2 l++(rk 1 l++rk 0 l))))))) (by simp[o5]) (by intro a ha;simp only[yau]at ha;rcases ha with h|h<;>(have:=mm _ _ h;omega)) (by intro b hb;simp only[yau]at hb;rcases hb with h|h|h|h|h|h|h|h<;>(have:=mm _ _ h;omega))];simp[o5,a6b,h]
  ·rw[mid (rk 9 l) (rk 8 l++(rk 7 l++(rk 6 l++(rk 5 l++(rk 4 l++(rk 3 l++(rk 2 l++(rk 1 l++rk 0 l)))))))) (by simp[o5]) (by intro a ha;have:=mm _ _ ha;omega) (by intro b hb;simp only[yau]at hb;rcases hb with h|h|h|h|h|h|h|h|h<;>(have:=mm _ _ h;omega))];simp[o5,a6b,h]
def a0d (record day:Int) (x:Hold):Bool:=x.Record==record&&x.State==1&&decide (x.Asleep≤day)
def e54 (record day:Int) (x:Hold):(x.State==1&&x.Record==record&&decide (x.Asleep≤day))=a0d record day x:=by
 unfold a0d;cases x.Record==record<;>cases x.State==1<;>rfl
def c5f (y z:Hold) (hy:rng 0 9 y.Rank=true) (hz:rng 0 9 z.Rank=true):decide (wr .i64 (z.Rank-y.Rank)<0)=ltR y z:=by
 have h1:=y9.1 hy;have h2:=y9.1 hz;rw[a0g (by omega) (by omega)];unfold ltR;rw[decide_eq_decide];omega
def e8s {lt:Hold→Hold→Bool} {y x:Hold}:∀{r rest:List Hold},x∈b1s lt y r rest→x=y∨x∈r∨x∈rest:=by
 intro r
 induction r with
 |nil=>intro rest h;simp only[b1s,yaM]at h;rcases h with h|h<;>simp[h]
 |cons z zs ih=>
  intro rest h;simp only[b1s]at h;cases hb:lt y z with
  |true=>
   rw[hb]at h;rcases ih h with h|h|h
   ·exact .inl h
   ·exact .inr (.inl (yaN _ h))
   ·rcases yaM.1 h with h|h
    ·subst h;exact .inr (.inl (yaK ..))
    ·exact .inr (.inr h)
  |false=>
   rw[hb]at h;simp only[yaa,yau,List.mem_reverse,yaM]at h;rcases h with h|h|h|h
   ·exact .inr (.inl (yaN _ h))
   ·subst h;exact .inr (.inl (yaK ..))
   ·exact .inl h
   ·exact .inr (.inr h)
def d4q {lt lt':Hold→Hold→Bool} {y:Hold}:∀{r rest:List Hold},(∀z∈r,lt y z=lt' y z)→b1s lt y r rest=b1s lt' y r rest:=by
 intro r
 induction r with
 |nil=>intros;rfl
 |cons z zs ih=>
  intro rest h;simp only[b1s];rw[h z (yaK ..),ih (λz hz=>h z (yaN _ hz))]
def e5r {lt lt':Hold→Hold→Bool}:∀(m l:List Hold),l=m.reverse→(∀x∈l,∀y∈l,lt x y=lt' x y)→a5h lt l=a5h lt' l∧∀x∈a5h lt' l,x∈l:=by
 intro m
 induction m with
 |nil=>intro l h _;subst h;exact ⟨rfl,λx hx=>by cases hx⟩
 |cons y m ih=>
  intro l h hc;rw[List.reverse_cons]at h;subst h;obtain ⟨e1,e2⟩:=ih m.reverse rfl (λa ha b hb=>hc a (by simp at ha ⊢;exact .inl ha) b (by simp at hb ⊢;exact .inl hb));rw[a6q,a6q,e1];refine ⟨d4q (λz hz=>hc y (by simp) z ?_),λx hx=>?_⟩
  ·rw[List.mem_reverse]at hz;have:=e2 z hz;simp at this ⊢;exact .inl this
  ·rcases e8s hx with h|h|h
   ·subst h;simp
   ·rw[List.mem_reverse]at h;have:=e2 x h;simp at this ⊢;exact .inl this
   ·cases h
end
section
def a4v (l:List Hold):Prop:=l.Pairwise (λa b=>b.Rank≤a.Rank)
def a8g {A B:List Hold}:a4v (A++B)↔a4v A∧a4v B∧∀a∈A,∀b∈B,b.Rank≤a.Rank:=List.pairwise_append
def a52 {l:List Hold} (h:a4v l) {i j:Nat} {x y:Hold} (hij:i≤j) (hx:l[i]?=some x) (hy:l[j]?=some y):y.Rank≤x.Rank:=by
 rcases ybv i j with hl|hl
 ·obtain ⟨h1,e1⟩:=yaA.1 hx;obtain ⟨h2,e2⟩:=yaA.1 hy;have:=ya3.1 h i j h1 h2 hl;rw[e1,e2]at this;exact this
 ·have:i=j:=by omega
  subst this;rw[hx]at hy;cases hy;omega
def c5q (k:Int) (A B:List Hold):rk k (A++B)=rk k A++rk k B:=List.filter_append ..
def e3s {k:Int} {l:List Hold} (h:∀x∈l,x.Rank≠k):rk k l=[]:=by
 unfold rk;rw[List.filter_eq_nil_iff];intro x hx;simpa using h x hx
structure MG (A B M:List Hold):Prop where
 srt:a4v M
 len:M.length=A.length+B.length
 rks:∀k,rk k M=rk k A++rk k B
def MG.mem {A B M:List Hold} (h:MG A B M) {x:Hold} (hx:x∈M):x∈A∨x∈B:=by
 have h1:x∈rk x.Rank M:=by unfold rk;rw[yaE];exact ⟨hx,by simp⟩
 rw[h.rks,yau]at h1;rcases h1 with h1|h1
 ·exact .inl (yaE.1 h1).1
 ·exact .inr (yaE.1 h1).1
def MG.left {A:List Hold} (h:a4v A):MG A [] A:=⟨h,by simp,λk=>by simp[rk]⟩
def MG.right {B:List Hold} (h:a4v B):MG [] B B:=⟨h,by simp,λk=>by simp[rk]⟩
def MG.join {A1 A2 B1 B2 M1 M2:List Hold} (hA:a4v (A1++A2)) (hB:a4v (B1++B2)) (h1:MG A1 B1 M1) (h2:MG A2 B2 M2)
 (hx:∀a∈A1,∀b∈B2,b.Rank≤a.Rank) (hy:∀b∈B1,∀a∈A2,a.Rank<b.Rank):MG (A1++A2) (B1++B2) (M1++M2):=by
 have hA2:=(a8g.1 hA).2.2;have hB2:=(a8g.1 hB).2.2;refine ⟨a8g.2 ⟨h1.srt,h2.srt,λa ha b hb=>?_⟩,?_,λk=>?_⟩
 ·rcases h1.mem ha with p|p<;>rcases h2.mem hb with q|q
  ·exact hA2 a p b q
  ·exact hx a p b q
  ·have:=hy a p b q;omega
  ·exact hB2 a p b q
 ·simp only[yaP,h1.len,h2.len];omega
 ·rw[c5q,c5q,c5q,h1.rks,h2.rks];by_cases hb:rk k B1=[]
  ·rw[hb];simp
  ·have ha:rk k A2=[]:=by
    apply e3s;intro a ha e;obtain ⟨b,hb1⟩:=List.exists_mem_of_ne_nil _ hb;have hb2:=yaE.1 hb1;have:=hy b hb2.1 a ha;have:b.Rank=k:=by simpa using hb2.2
    omega
   rw[ha];simp
def c6l {σ β:Type} {step:σ→Option (σ⊕β)} (st:Nat→Nat→σ) (fin:Nat→β) (Q:Nat→Bool) {lo hi:Nat} (hh:hi<100000) (hle:lo≤hi)
 (h1:∀i j,lo≤i→i<j→j≤hi→step (st i j)=some (.inl (bif Q ((i+j) / 2) then st ((i+j) / 2+1) j else st i ((i+j) / 2))))
 (h2:∀i,lo≤i→i≤hi→step (st i i)=some (.inr (fin i))) :
 ∃i,lo≤i∧i≤hi∧(lo<i→Q (i-1)=true)∧(i<hi→Q i=false)∧b9 step (st lo hi)=some (fin i):=by
 have key:∀(n i j:Nat),j-i≤n→lo≤i→i≤j→j≤hi→(lo<i→Q (i-1)=true)→(j<hi→Q j=false)→
  ∃r,lo≤r∧r≤hi∧(lo<r→Q (r-1)=true)∧(r<hi→Q r=false)∧o7 step (n+1) (st i j)=some (fin r):=by
  intro n
  induction n with
  |zero=>
   intro i j hn a b c d e;have:i=j:=by omega
   subst this;refine ⟨i,a,c,d,e,?_⟩;rw[o7,h2 i a c]
  |succ n ih=>
   intro i j hn a b c d e;rcases ybv i j with hl|hl
   ·cases hq:Q ((i+j) / 2) with
    |true=>
     obtain ⟨r,r1,r2,r3,r4,r5⟩:=ih ((i+j) / 2+1) j (by omega) (by omega) (by omega) c (λ_=>by simpa using hq) e;refine ⟨r,r1,r2,r3,r4,?_⟩;rw[o7,h1 i j a hl c,hq];exact r5
    |false=>
     obtain ⟨r,r1,r2,r3,r4,r5⟩:=ih i ((i+j) / 2) (by omega) a (by omega) (by omega) d (λ_=>hq);refine ⟨r,r1,r2,r3,r4,?_⟩;rw[o7,h1 i j a hl c,hq];exact r5
   ·have:i=j:=by omega
    subst this;refine ⟨i,a,c,d,e,?_⟩;rw[o7,h2 i a c]
 obtain ⟨r,r1,r2,r3,r4,r5⟩:=key (hi-lo) lo hi (yav _) (yav _) hle (yav _) (λh=>absurd h (Nat.lt_irrefl _)) (λh=>absurd h (Nat.lt_irrefl _));exact ⟨r,r1,r2,r3,r4,o6 _ (by rw[n9];omega) r5⟩
def a5k {a b:Nat} (h:b≤a) (ha:a<1000000):wr .i64 ((a:Int)-(b:Int))=((a-b:Nat):Int):=by
 rw[a0g (by omega) (by omega)];omega
def d28 {a b:Nat} (h:a+b<1000000):wr .i64 ((a:Int)+(b:Int))=((a+b:Nat):Int):=by
 rw[a0g (by omega) (by omega)];omega
section
variable {γ:Type} {p:γ→Hold→Hold→Option Int} {g:γ}
def f09 {P M R:List Hold}:∀(X2 Y2 X1 Y1:List Hold),X2.length=Y2.length→X1.length=Y1.length→P.length+X1.length+X2.length+M.length+X1.length+X2.length<100000→∀a b n:Nat,a=P.length→b=P.length+X1.length+X2.length+M.length→n=X1.length+X2.length→
 o7 (d5n p) (X2.length+1) ((a:Int),(b:Int),(n:Int),(X1.length:Int),P++(Y1++(X2++(M++(X1++(Y2++R))))),())=some (P++(Y1++(Y2++(M++(X1++(X2++R))))),()):=by
 intro X2
 induction X2 with
 |nil=>
  intro Y2 X1 Y1 h1 h2 hs a b n ha hb hn;have:Y2=[]:=yaq h1.symm;subst this;simp only[ybh,ya9]at hn;subst hn;simp only[ybh,o7,d5n,dge,yaa]
 |cons x X2 ih=>
  intro Y2 X1 Y1 h1 h2 hs a b n ha hb hn;cases Y2 with
  |nil=>cases h1
  |cons y Y2=>
   simp only[yaR]at h1 hs hb hn ⊢;have d:decide ((X1.length:Int)<(n:Int))=true:=by rw[yad];omega
   have ga:∀z,(P++(Y1++(z::X2++(M++(X1++(y::Y2++R))))))[a+X1.length]?=some z:=λz=>by
    rw[ha,h2,←ya0,show P.length+Y1.length=(P++Y1).length+0 by simp,atP];rfl
   have gb:∀z,(P++(Y1++(z::X2++(M++(X1++(y::Y2++R))))))[b+X1.length]?=some y:=λz=>by
    have e:P++(Y1++(z::X2++(M++(X1++(y::Y2++R)))))=(P++(Y1++(z::X2++(M++X1))))++(y::Y2++R):=by simp
    rw[e,show b+X1.length=(P++(Y1++(z::X2++(M++X1)))).length+0 by simp;omega,atP];rfl
   have sa:(P++(Y1++(x::X2++(M++(X1++(y::Y2++R)))))).set (a+X1.length) y=P++(Y1++(y::X2++(M++(X1++(y::Y2++R))))):=by
    rw[ha,h2,f4f,show Y1.length=Y1.length+0 from rfl,f4f];rfl
   have sb:(P++(Y1++(y::X2++(M++(X1++(y::Y2++R)))))).set (b+X1.length) x=P++(Y1++(y::X2++(M++(X1++(x::Y2++R))))):=by
    have e:P++(Y1++(y::X2++(M++(X1++(y::Y2++R)))))=(P++(Y1++(y::X2++(M++X1))))++(y::Y2++R):=by simp
    rw[e,show b+X1.length=(P++(Y1++(y::X2++(M++X1)))).length+0 by simp;omega,f4f];simp
   have:=ih Y2 (X1++[x]) (Y1++[y]) (by omega) (by simp;omega) (by simp;omega) a b n ha (by simp;omega) (by simp;omega);rw[o7];simp only[d5n,d,yac,d28 (show b+X1.length<1000000 by omega),d28 (show a+X1.length<1000000 by omega),d8,yaB,ga,gb,sa,sb,w9 (show X1.length<9223372036854775807 by omega)];simp only[yaP,yaR,ybh,ya0,List.singleton_append,ybA,yaU,yaI]at this ⊢;exact this
def c9o {P X M Y R:List Hold} (h:X.length=Y.length) (hs:P.length+X.length+M.length+X.length<100000) {a b n:Nat} (ha:a=P.length) (hb:b=P.length+X.length+M.length) (hn:n=X.length) :
 q8 p (P++(X++(M++(Y++R)))) (a:Int) (b:Int) (n:Int) g=some (P++(Y++(M++(X++R)))):=by
 have:=f09 (p:=p) (P:=P) (M:=M) (R:=R) X Y [] [] h rfl (by simp;omega) a b n ha (by simp;omega) (by simp;omega);unfold q8;rw[show b9 (d5n p) ((a:Int),(b:Int),(n:Int),0,P++(X++(M++(Y++R))),())=_ from o6 (X.length+1) (by rw[n9];omega) this]
 try rfl
def d6i:∀(N:Nat) (P X Y R:List Hold),X.length+Y.length≤N→1≤X.length→1≤Y.length→P.length+X.length+Y.length<100000→∀m i j:Nat,m=P.length+X.length→i=X.length→j=Y.length→
 ∃(i':Nat) (l':List Hold),i'≤m∧o7 (b4o p) (N+1) ((m:Int),g,(i:Int),(j:Int),P++(X++(Y++R)),())=some ((m:Int),g,(i':Int),l',())∧
  q8 p l' ((m-i':Nat):Int) (m:Int) (i':Int) g=some (P++(Y++(X++R))):=by
 intro N
 induction N with
 |zero=>intro P X Y R h hx;omega
 |succ N ih=>
  intro P X Y R h hx hy hs m i j hm hi hj;rcases ycc i j with hij|hij|hij
  ·
   have d1:((i:Int)==(j:Int))=false:=by rw[yaY];omega
   have d2:decide ((j:Int)<(i:Int))=false:=by rw[yaf];omega
   have hY:Y.take (j-i)++Y.drop (j-i)=Y:=ya2 ..;have l1:(Y.take (j-i)).length=j-i:=by rw[yaD];omega
   have l2:(Y.drop (j-i)).length=i:=by rw[yaV];omega
   generalize Y.take (j-i)=Y1 at hY l1;generalize Y.drop (j-i)=Y2 at hY l2;subst hY;simp only[yaP]at h hs hj;have e:P++(X++(Y1++Y2++R))=P++(X++(Y1++(Y2++R))):=by simp
   have hw:=c9o (p:=p) (g:=g) (P:=P) (X:=X) (M:=Y1) (Y:=Y2) (R:=R) (by omega) (by omega) (a:=m-i) (b:=m+j-i) (n:=i) (by omega) (by omega) (by omega);obtain ⟨i',l',q1,q2,q3⟩:=ih P Y2 Y1 (X++R) (by omega) (by omega) (by omega) (by omega) m i (j-i) (by omega) (by omega) (by omega);refine ⟨i',l',q1,?_,by rw[q3];simp⟩;rw[o7];simp only[b4o,d1,yar,yac,d2,yaa,a5k (show i≤m by omega) (by omega),d28 (show m+j<1000000 by omega),a5k (show i≤m+j by omega) (by omega),e,hw,a5k (show i≤j by omega) (by omega)];exact q2
  ·
   have d1:((i:Int)==(j:Int))=true:=by rw[ya6];omega
   have hw:=c9o (p:=p) (g:=g) (P:=P) (X:=X) (M:=[]) (Y:=Y) (R:=R) (by omega) (by simp;omega) (a:=m-i) (b:=m) (n:=i) (by omega) (by simp;omega) (by omega);simp only[yaU]at hw;refine ⟨i,P++(X++(Y++R)),by omega,?_,hw⟩;rw[o7];simp only[b4o,d1,yak,yaa]
  ·
   have d1:((i:Int)==(j:Int))=false:=by rw[yaY];omega
   have d2:decide ((j:Int)<(i:Int))=true:=by rw[yad];omega
   have hX:X.take j++X.drop j=X:=ya2 ..;have l1:(X.take j).length=j:=by rw[yaD];omega
   have l2:(X.drop j).length=i-j:=by rw[yaV];omega
   generalize X.take j=X1 at hX l1;generalize X.drop j=X2 at hX l2;subst hX;simp only[yaP]at h hs hi hm;have e:P++(X1++X2++(Y++R))=P++(X1++(X2++(Y++R))):=by simp
   have hw:=c9o (p:=p) (g:=g) (P:=P) (X:=X1) (M:=X2) (Y:=Y) (R:=R) (by omega) (by omega) (a:=m-i) (b:=m) (n:=j) (by omega) (by omega) (by omega);obtain ⟨i',l',q1,q2,q3⟩:=ih (P++Y) X2 X1 R (by omega) (by omega) (by omega) (by simp;omega) m (i-j) j (by simp;omega) (by omega) (by omega);refine ⟨i',l',q1,?_,by rw[q3];simp⟩;rw[o7];simp only[b4o,d1,yar,yac,d2,a5k (show i≤m by omega) (by omega),e,hw,a5k (show j≤i by omega) (by omega)];rw[ya0]at q2;exact q2
def e3t {P X Y R:List Hold} (hx:1≤X.length) (hy:1≤Y.length) (hs:P.length+X.length+Y.length<100000) {a m b:Nat} (ha:a=P.length) (hm:m=a+X.length) (hb:b=m+Y.length) :
 qa1 p (P++(X++(Y++R))) (a:Int) (m:Int) (b:Int) g=some (P++(Y++(X++R))):=by
 obtain ⟨i',l',q1,q2,q3⟩:=d6i (p:=p) (g:=g) (X.length+Y.length) P X Y R (yav _) hx hy hs m X.length Y.length (by omega) rfl rfl;unfold qa1;rw[a5k (show a≤m by omega) (by omega),a5k (show m≤b by omega) (by omega),show m-a=X.length by omega,show b-m=Y.length by omega];rw[show b9 (b4o p) ((m:Int),g,(X.length:Int),(Y.length:Int),P++(X++(Y++R)),())=_ from o6 _ (by rw[n9];omega) q2];simp only[a5k q1 (show m<1000000 by omega),q3]
def h3z {R:List Hold} {x:Hold}:∀(B P:List Hold),P.length+B.length<100000→∀i k:Nat,k=P.length→i=k+B.length+1→
 o7 (c8e p) (B.length+1) ((i:Int),(k:Int),P++(x::(B++R)),())=some (P++(B++(x::R)),()):=by
 intro B
 induction B with
 |nil=>
  intro P hs i k hk hi;have d:decide ((k:Int)<wr .i64 ((i:Int)-1))=false:=by rw[a0g (by omega) (by omega),yaf];simp at hi;omega
  simp only[ybh,o7,c8e,d,yaa,yaU]
 |cons y B ih=>
  intro P hs i k hk hi;simp only[yaR]at hs hi ⊢;have d:decide ((k:Int)<wr .i64 ((i:Int)-1))=true:=by rw[a0g (by omega) (by omega),yad];omega
  have g0:∀z:Hold,(P++(z::(y::B++R)))[k]?=some z:=λz=>by rw[hk,show P.length=P.length+0 from rfl,atP];rfl
  have g1:∀z:Hold,(P++(z::(y::B++R)))[k+1]?=some y:=λz=>by rw[hk,atP];rfl
  have s0:(P++(x::(y::B++R))).set k y=P++(y::(y::B++R)):=by rw[hk,show P.length=P.length+0 from rfl,f4f];rfl
  have s1:(P++(y::(y::B++R))).set (k+1) x=P++(y::(x::B++R)):=by rw[hk,f4f];rfl
  have:=ih (P++[y]) (by simp;omega) i (k+1) (by simp;omega) (by omega);rw[o7];simp only[c8e,d,yac,wS k,d8,yaB,g0,g1,s0,s1];simp only[ya0,List.singleton_append,ybA,yaU]at this ⊢;exact this
def e8a {R P:List Hold} {y:Hold}:∀(A Z:List Hold),P.length+A.length<100000→∀i k:Nat,i=P.length→k=i+A.length→
 o7 (b40 p) (A.length+1) ((i:Int),(k:Int),P++(A.reverse++(y::(Z++R))),())=some (P++(y::(A.reverse++(Z++R))),()):=by
 intro A
 induction A with
 |nil=>
  intro Z hs i k hi hk;have d:decide ((i:Int)<(k:Int))=false:=by rw[yaf];simp at hk;omega
  simp only[ybh,o7,b40,d,yaa,List.reverse_nil,yaU]
 |cons x A ih=>
  intro Z hs i k hi hk;simp only[yaR]at hs hk ⊢;have d:decide ((i:Int)<(k:Int))=true:=by rw[yad];omega
  have w:wr .i64 ((k:Int)-1)=((k-1:Nat):Int):=by rw[a0g (by omega) (by omega)];omega
  have e:∀(u v:Hold),P++(A.reverse++(u::v::(Z++R)))=(P++A.reverse)++(u::v::(Z++R)):=λu v=>by simp
  have lk:k-1=(P++A.reverse).length+0:=by simp;omega
  have lk1:k=(P++A.reverse).length+1:=by simp;omega
  have e0:P++((x::A).reverse++(y::(Z++R)))=P++(A.reverse++(x::y::(Z++R))):=by simp
  have g1:∀(u v:Hold),(P++(A.reverse++(u::v::(Z++R))))[k-1]?=some u:=λu v=>by rw[e,lk,atP];rfl
  have g0:∀(u v:Hold),(P++(A.reverse++(u::v::(Z++R))))[k]?=some v:=λu v=>by rw[e,lk1,atP];rfl
  have s0:(P++(A.reverse++(x::y::(Z++R)))).set k x=P++(A.reverse++(x::x::(Z++R))):=by rw[e,e,lk1,f4f];rfl
  have s1:(P++(A.reverse++(x::x::(Z++R)))).set (k-1) y=P++(A.reverse++(y::x::(Z++R))):=by rw[e,e,lk,f4f];rfl
  have:=ih (x::Z) (by omega) i (k-1) hi (by omega);rw[o7];simp only[b40,d,yac,w,e0,d8,yaB,g0,g1,s0,s1];simp only[ybA]at this;rw[this];simp
def a8c {X:Type} {l:List X} {s:Nat} {x:X} (h:x∈l.take s):∃i,i<s∧l[i]?=some x:=by
 obtain ⟨i,hi⟩:=yaw h;rw[yaH]at hi;split at hi
 ·exact ⟨i,by assumption,hi⟩
 ·cases hi
def a8b {X:Type} {l:List X} {s:Nat} {x:X} (h:x∈l.drop s):∃i,s≤i∧l[i]?=some x:=by
 obtain ⟨i,hi⟩:=yaw h;rw[ybH]at hi;exact ⟨s+i,by omega,hi⟩
def b2k {l:List Hold} (h:a4v l) (s:Nat):a4v (l.take s)∧a4v (l.drop s):=by
 rw[←ya2 s l]at h;have:=a8g.1 h;exact ⟨this.1,this.2.1⟩
def okL (l:List Hold):Prop:=∀x∈l,rng 0 9 x.Rank=true
section
variable (hp:∀y z,rng 0 9 y.Rank=true→rng 0 9 z.Rank=true→∃n,p g y z=some n∧decide (n<0)=ltR y z)
include hp
def e8u {P B Q:List Hold} {x:Hold} (hB:a4v B) (ho:okL (x::B)) (hs:P.length+B.length<50000) {a m b:Nat} (ha:a=P.length) (hm:m=a+1) (hb:b=m+B.length) :
 ∃M,MG [x] B M∧∃i:Nat,b9 (c4m p) ((a:Int),g,(m:Int),(b:Int),P++(x::(B++Q)),())=some ((a:Int),(i:Int),P++(x::(B++Q)),())∧
  b9 (c8e p) ((i:Int),(a:Int),P++(x::(B++Q)),())=some (P++(M++Q),()):=by
 have hx:(P++(x::(B++Q)))[a]?=some x:=by rw[ha,show P.length=P.length+0 from rfl,atP];rfl
 have hy:∀h,m≤h→h<b→∃y,B[h-m]?=some y∧(P++(x::(B++Q)))[h]?=some y:=by
  intro h h1 h2;obtain ⟨k,rfl⟩:∃k,h=m+k:=⟨h-m,by omega⟩
  have hl:k<B.length:=by omega
  refine ⟨B[k],by rw[ybS];exact yab hl,?_⟩;rw[show m+k=P.length+(k+1) by omega,atP,yaL,yat hl];exact yab hl
 obtain ⟨i,i1,i2,i3,i4,i5⟩:=c6l (step:=c4m p) (λi j=>((a:Int),g,(i:Int),(j:Int),P++(x::(B++Q)),())) (λi=>((a:Int),(i:Int),P++(x::(B++Q)),()))
  (λh=>match B[h-m]? with|some y=>ltR y x|none=>false) (lo:=m) (hi:=b) (by omega) (by omega)
  (λi j q1 q2 q3=>by
   obtain ⟨y,y1,y2⟩:=hy ((i+j) / 2) (by omega) (by omega);obtain ⟨n,n1,n2⟩:=hp y x (ho y (yaN _ (yag y1))) (ho x (yaK ..));simp only[c4m,dlt q2,yac,c4c (show i+j<2000000000 by omega),d8,yaB,y2,hx,n1,n2,y1,w9 (show (i+j) / 2<9223372036854775807 by omega)];cases ltR y x<;>rfl)
  (λi q1 q2=>by simp only[c4m,dge,yaa])
 have hc:=ya2 (i-m) B;have k1:∀y∈B.take (i-m),x.Rank<y.Rank:=by
  intro y hy1;obtain ⟨j,j1,j2⟩:=a8c hy1;obtain ⟨z,z1,-⟩:=hy (i-1) (by omega) (by omega);have:=i3 (by omega);rw[z1]at this;have hz:x.Rank<z.Rank:=by simpa[ltR]using this
  have:=a52 hB (show j≤i-1-m by omega) j2 z1;omega
 have k2:∀y∈B.drop (i-m),y.Rank≤x.Rank:=by
  intro y hy1;obtain ⟨j,j1,j2⟩:=a8b hy1;have jl:=(zL j2)
  obtain ⟨z,z1,-⟩:=hy i (by omega) (by omega);have:=i4 (by omega);rw[z1]at this;have hz:z.Rank≤x.Rank:=by simpa[ltR]using this
  have:=a52 hB (show i-m≤j by omega) z1 j2;omega
 have hl:(B.take (i-m)).length=i-m:=by rw[yaD];omega
 have so:=b2k hB (i-m);refine ⟨B.take (i-m)++(x::B.drop (i-m)),?_,i,i5,?_⟩
 ·have s1:a4v [x]:=List.pairwise_singleton ..;have j1:MG ([x]++[]) ([]++B.drop (i-m)) ([x]++B.drop (i-m)):=MG.join (by simpa using s1) (by simpa using so.2) (MG.left s1) (MG.right so.2) (λa ha b hb=>by
   rw[yba]at ha;subst ha;exact k2 b hb) (λb hb=>by cases hb)
  have j2:MG ([]++[x]) (B.take (i-m)++B.drop (i-m)) (B.take (i-m)++([x]++B.drop (i-m))):=MG.join (by simpa using s1) (by rw[hc];exact hB) (MG.right so.1) (by simpa using j1) (λa ha=>by cases ha) (λb hb a ha=>by
   rw[yba]at ha;subst ha;exact k1 b hb)
  rw[hc]at j2;exact j2
 ·have:=h3z (p:=p) (R:=B.drop (i-m)++Q) (x:=x) (B.take (i-m)) P (by omega) i a ha (by omega);have e1:B.take (i-m)++(B.drop (i-m)++Q)=B++Q:=by rw[←ya0,hc]
  rw[e1]at this;rw[o6 _ (by rw[n9];omega) this];simp
def e3r {P A Q:List Hold} {y:Hold} (hA:a4v A) (ho:okL (y::A)) (hs:P.length+A.length<50000) {a m:Nat} (ha:a=P.length) (hm:m=a+A.length) :
 ∃M,MG A [y] M∧∃i:Nat,b9 (b1g p) ((m:Int),g,(a:Int),(m:Int),P++(A++(y::Q)),())=some ((m:Int),(i:Int),P++(A++(y::Q)),())∧
  b9 (b40 p) ((i:Int),(m:Int),P++(A++(y::Q)),())=some (P++(M++Q),()):=by
 have hx:(P++(A++(y::Q)))[m]?=some y:=by rw[hm,ha,atP,show A.length=A.length+0 from rfl,atP];rfl
 have hy:∀h,a≤h→h<m→∃x,A[h-a]?=some x∧(P++(A++(y::Q)))[h]?=some x:=by
  intro h h1 h2;obtain ⟨k,rfl⟩:∃k,h=a+k:=⟨h-a,by omega⟩
  have hl:k<A.length:=by omega
  refine ⟨A[k],by rw[ybS];exact yab hl,?_⟩;rw[ha,atP,yat hl];exact yab hl
 obtain ⟨i,i1,i2,i3,i4,i5⟩:=c6l (step:=b1g p) (λi j=>((m:Int),g,(i:Int),(j:Int),P++(A++(y::Q)),())) (λi=>((m:Int),(i:Int),P++(A++(y::Q)),()))
  (λh=>match A[h-a]? with|some x=>!(ltR y x)|none=>false) (lo:=a) (hi:=m) (by omega) (by omega)
  (λi j q1 q2 q3=>by
   obtain ⟨x,y1,y2⟩:=hy ((i+j) / 2) (by omega) (by omega);obtain ⟨n,n1,n2⟩:=hp y x (ho y (yaK ..)) (ho x (yaN _ (yag y1)));simp only[b1g,dlt q2,yac,c4c (show i+j<2000000000 by omega),d8,yaB,y2,hx,n1,n2,y1,w9 (show (i+j) / 2<9223372036854775807 by omega)];cases ltR y x<;>rfl)
  (λi q1 q2=>by simp only[b1g,dge,yaa])
 have hc:=ya2 (i-a) A;have k1:∀x∈A.take (i-a),y.Rank≤x.Rank:=by
  intro x hx1;obtain ⟨j,j1,j2⟩:=a8c hx1;obtain ⟨z,z1,-⟩:=hy (i-1) (by omega) (by omega);have:=i3 (by omega);rw[z1]at this;have hz:y.Rank≤z.Rank:=by simpa[ltR]using this
  have:=a52 hA (show j≤i-1-a by omega) j2 z1;omega
 have k2:∀x∈A.drop (i-a),x.Rank<y.Rank:=by
  intro x hx1;obtain ⟨j,j1,j2⟩:=a8b hx1;have jl:=(zL j2)
  obtain ⟨z,z1,-⟩:=hy i (by omega) (by omega);have:=i4 (by omega);rw[z1]at this;have hz:z.Rank<y.Rank:=by simpa[ltR]using this
  have:=a52 hA (show i-a≤j by omega) z1 j2;omega
 have hl:(A.drop (i-a)).length=m-i:=by rw[yaV];omega
 have so:=b2k hA (i-a);refine ⟨A.take (i-a)++(y::A.drop (i-a)),?_,i,i5,?_⟩
 ·have s1:a4v [y]:=List.pairwise_singleton ..;have j1:MG ([]++A.drop (i-a)) ([y]++[]) ([y]++A.drop (i-a)):=MG.join (by simpa using so.2) (by simpa using s1) (MG.right s1) (MG.left so.2) (λa ha=>by cases ha) (λb hb a ha=>by
   rw[yba]at hb;subst hb;exact k2 a ha)
  have j2:MG (A.take (i-a)++A.drop (i-a)) ([]++[y]) (A.take (i-a)++([y]++A.drop (i-a))):=MG.join (by rw[hc];exact hA) (by simpa using s1) (MG.left so.1) (by simpa using j1) (λa ha b hb=>by
   rw[yba]at hb;subst hb;exact k1 a ha) (λb hb=>by cases hb)
  rw[hc]at j2;exact j2
 ·have:=e8a (p:=p) (R:=Q) (P:=P++A.take (i-a)) (y:=y) (A.drop (i-a)).reverse [] (by simp;omega) i m (by simp;omega) (by simp;omega);have e1:P++A.take (i-a)++((A.drop (i-a)).reverse.reverse++(y::([]++Q)))=P++(A++(y::Q)):=by
   rw[List.reverse_reverse,yaU,ya0,←ya0 (A.take (i-a)),hc]
  rw[e1]at this;rw[o6 _ (by rw[n9,List.length_reverse];omega) this];simp
def g0l {P A B Q:List Hold} (hA:a4v A) (hB:a4v B) (hoA:okL A) (hoB:okL B) (hs:P.length+A.length+B.length<50000) {a m b md lo hi:Nat} (ha:a=P.length) (hm:m=a+A.length) (hb:b=m+B.length)
 (f1:a≤lo) (f2:lo≤hi) (f3:hi≤m) (f4:hi≤md) (f5:md+m≤b+lo) (f6:lo=a∨lo+b=md+m) (f7:hi=m∨hi=md) (f8:md≤b) :
 ∃s,lo≤s∧s≤hi∧(∀x∈A.take (s-a),∀y∈B.drop (md-s),y.Rank≤x.Rank)∧(∀y∈B.take (md-s),∀x∈A.drop (s-a),x.Rank<y.Rank)∧
  b9 (b1h p) ((a:Int),(m:Int),(b:Int),g,(md:Int),((md+m:Nat):Int),(lo:Int),(hi:Int),wr .i64 (((md+m:Nat):Int)-1),P++(A++(B++Q)),())=some ((a:Int),(m:Int),(b:Int),g,(md:Int),((md+m:Nat):Int),(s:Int),P++(A++(B++Q)),()):=by
 have hx:∀h,a≤h→h<m→∃x,A[h-a]?=some x∧(P++(A++(B++Q)))[h]?=some x:=by
  intro h h1 h2;obtain ⟨k,rfl⟩:∃k,h=a+k:=⟨h-a,by omega⟩
  have hl:k<A.length:=by omega
  refine ⟨A[k],by rw[ybS];exact yab hl,?_⟩;rw[ha,atP,yat hl];exact yab hl
 have hy:∀h,m≤h→h<b→∃y,B[h-m]?=some y∧(P++(A++(B++Q)))[h]?=some y:=by
  intro h h1 h2;obtain ⟨k,rfl⟩:∃k,h=m+k:=⟨h-m,by omega⟩
  have hl:k<B.length:=by omega
  refine ⟨B[k],by rw[ybS];exact yab hl,?_⟩;rw[show m+k=P.length+(A.length+k) by omega,atP,atP,yat hl];exact yab hl
 rcases Nat.eq_or_lt_of_le f2 with heq|hlt
 ·
  subst heq;refine ⟨lo,yav _,yav _,λx hx1 y hy1=>?_,λy hy1 x hx1=>?_,?_⟩
  ·obtain ⟨i,i1,i2⟩:=a8c hx1;obtain ⟨j,j1,j2⟩:=a8b hy1;have:=(zL j2)
   omega
  ·obtain ⟨i,i1,i2⟩:=a8c hy1;obtain ⟨j,j1,j2⟩:=a8b hx1;have:=(zL j2)
   omega
  ·refine o6 1 (by rw[n9];omega) ?_;simp only[o7,b1h,dge,yaa]
 have w0:wr .i64 (((md+m:Nat):Int)-1)=((md+m-1:Nat):Int):=by rw[a0g (by omega) (by omega)];omega
 rw[w0];obtain ⟨s,i1,i2,i3,i4,i5⟩:=c6l (step:=b1h p) (λi j=>((a:Int),(m:Int),(b:Int),g,(md:Int),((md+m:Nat):Int),(i:Int),(j:Int),((md+m-1:Nat):Int),P++(A++(B++Q)),())) (λi=>((a:Int),(m:Int),(b:Int),g,(md:Int),((md+m:Nat):Int),(i:Int),P++(A++(B++Q)),()))
  (λh=>match B[md-1-h]?,A[h-a]? with|some y,some x=>!(ltR y x)|_,_=>false) (lo:=lo) (hi:=hi) (by omega) f2
  (λi j q1 q2 q3=>by
   obtain ⟨x,x1,x2⟩:=hx ((i+j) / 2) (by omega) (by omega);obtain ⟨y,y1,y2⟩:=hy (md+m-1-(i+j) / 2) (by omega) (by omega);rw[show md+m-1-(i+j) / 2-m=md-1-(i+j) / 2 by omega]at y1;obtain ⟨n,n1,n2⟩:=hp y x (hoB y (yag y1)) (hoA x (yag x1));simp only[b1h,dlt q2,yac,c4c (show i+j<2000000000 by omega),a5k (show (i+j) / 2≤md+m-1 by omega) (show md+m-1<1000000 by omega),d8,yaB,y2,x2,n1,n2,y1,x1,w9 (show (i+j) / 2<9223372036854775807 by omega)];cases ltR y x<;>rfl)
  (λi q1 q2=>by simp only[b1h,dge,yaa])
 refine ⟨s,i1,i2,λx hx1 y hy1=>?_,λy hy1 x hx1=>?_,i5⟩
 ·obtain ⟨i,j1,j2⟩:=a8c hx1;obtain ⟨j,j3,j4⟩:=a8b hy1;have jl:=(zL j4)
  rcases Nat.eq_or_lt_of_le i1 with he|he
  ·omega
  obtain ⟨x0,x1,-⟩:=hx (s-1) (by omega) (by omega);obtain ⟨y0,y1,-⟩:=hy (md+m-s) (by omega) (by omega);have:=i3 he;rw[show md-1-(s-1)=md+m-s-m by omega,y1,x1]at this;have hz:y0.Rank≤x0.Rank:=by simpa[ltR]using this
  have:=a52 hA (show i≤s-1-a by omega) j2 x1;have:=a52 hB (show md+m-s-m≤j by omega) y1 j4;omega
 ·obtain ⟨i,j1,j2⟩:=a8c hy1;obtain ⟨j,j3,j4⟩:=a8b hx1;have jl:=(zL j4)
  rcases Nat.eq_or_lt_of_le i2 with he|he
  ·omega
  obtain ⟨x0,x1,-⟩:=hx s (by omega) (by omega);obtain ⟨y0,y1,-⟩:=hy (md+m-1-s) (by omega) (by omega);have:=i4 he;rw[show md-1-s=md+m-1-s-m by omega,y1,x1]at this;have hz:x0.Rank<y0.Rank:=by simpa[ltR]using this
  have:=a52 hA (show s-a≤j by omega) x1 j4;have:=a52 hB (show i≤md+m-1-s-m by omega) j2 y1;omega
end
@[reducible] def stg (b1 b2 b3 b4 b5 b6:Bool) (R S1 S2:List Hold→Option (List Hold)) (l:List Hold):Option (List Hold):=
 let k45:Bool→Option (List Hold):=λv=>
  let k44:(List Hold)→Option (List Hold):=λl32=>
   let k43:Bool→Option (List Hold):=λv33=>
    let k42:(List Hold)→Option (List Hold):=λl36=>
     let k41:Bool→Option (List Hold):=λv37=>
      let k:(List Hold)→Option (List Hold):=λl40=>some l40
      bif v37 then (match S2 l36 with|some l39=>k l39|none=>none) else k l36
     bif b5 then k41 b6 else k41 false
    bif v33 then (match S1 l32 with|some l35=>k42 l35|none=>none) else k42 l32
   bif b3 then k43 b4 else k43 false
  bif v then (match R l with|some l31=>k44 l31|none=>none) else k44 l
 bif b1 then k45 b2 else k45 false
def h3v (b1 b2 b3 b4 b5 b6:Bool) (R S1 S2:List Hold→Option (List Hold)) {l l1 l2 l3:List Hold} (h1:(bif b1&&b2 then R l else some l)=some l1) (h2:(bif b3&&b4 then S1 l1 else some l1)=some l2) (h3:(bif b5&&b6 then S2 l2 else some l2)=some l3) :
 stg b1 b2 b3 b4 b5 b6 R S1 S2 l=some l3:=by
 unfold stg;dsimp only;cases b1<;>cases b2<;>(have h1:=h1;simp only[yac,yaa,ybl,ybW,Bool.and_false]at h1;first|cases h1|skip)<;>
  cases b3<;>cases b4<;>(simp only[yac,yaa,ybl,ybW,Bool.and_false]at h2;first|cases h2|skip)<;>
   cases b5<;>cases b6<;>(simp only[yac,yaa,ybl,ybW,Bool.and_false]at h3;first|cases h3|skip)<;>simp_all only[yac,yaa]
def smT (p:γ→Hold→Hold→Option Int) (fuel:Nat) (data:List Hold) (a m b:Int) (g:γ) (md n start r:Int):Option (List Hold):=
 match b9 (b1h p) (a,m,b,g,md,n,start,r,wr .i64 (n-1),data,()) with
 |some (a24,m25,b26,g27,mid,n,s,l,_)=>stg (decide (s<m25)) (decide (m25<wr .i64 (n-s))) (decide (a24<s)) (decide (s<mid)) (decide (mid<wr .i64 (n-s))) (decide (wr .i64 (n-s)<b26))
  (λl=>qa1 p l s m25 (wr .i64 (n-s)) g27) (λl=>qd p fuel l a24 s mid g27) (λl=>qd p fuel l mid (wr .i64 (n-s)) b26 g27) l
 |none=>none
def h3t (fuel:Nat) (data:List Hold) (a m b:Int) (g:γ):qd p (fuel+1) data a m b g =
 bif (wr .i64 (m-a))==1 then
  match b9 (c4m p) (a,g,m,b,data,()) with
  |some (a4,i,l,_)=>(match b9 (c8e p) (i,a4,l,()) with|some (l8,_)=>some l8|none=>none)
  |none=>none
 else bif (wr .i64 (b-m))==1 then
  match b9 (b1g p) (m,g,a,m,data,()) with
  |some (m12,i13,l14,_)=>(match b9 (b40 p) (i13,m12,l14,()) with|some (l18,_)=>some l18|none=>none)
  |none=>none
 else bif decide (wr .i64 ((wr .u64 (wr .i64 (a+b))).fdiv (2 ^ 1))<m) then
  smT p fuel data a m b g (wr .i64 ((wr .u64 (wr .i64 (a+b))).fdiv (2 ^ 1))) (wr .i64 ((wr .i64 ((wr .u64 (wr .i64 (a+b))).fdiv (2 ^ 1)))+m)) (wr .i64 ((wr .i64 ((wr .i64 ((wr .u64 (wr .i64 (a+b))).fdiv (2 ^ 1)))+m))-b)) (wr .i64 ((wr .u64 (wr .i64 (a+b))).fdiv (2 ^ 1)))
 else smT p fuel data a m b g (wr .i64 ((wr .u64 (wr .i64 (a+b))).fdiv (2 ^ 1))) (wr .i64 ((wr .i64 ((wr .u64 (wr .i64 (a+b))).fdiv (2 ^ 1)))+m)) a m:=rfl
def c9p (hp:∀y z,rng 0 9 y.Rank=true→rng 0 9 z.Rank=true→∃n,p g y z=some n∧decide (n<0)=ltR y z):∀(fuel:Nat) (P A B Q:List Hold),1≤A.length→1≤B.length→A.length+B.length≤fuel→a4v A→a4v B→okL A→okL B→P.length+A.length+B.length<50000→
 ∀a m b:Nat,a=P.length→m=a+A.length→b=m+B.length→∃M,MG A B M∧qd p fuel (P++(A++(B++Q))) (a:Int) (m:Int) (b:Int) g=some (P++(M++Q)):=by
 intro fuel
 induction fuel with
 |zero=>intro P A B Q h1 h2 h3;omega
 |succ fuel ih=>
  intro P A B Q h1 h2 h3 hA hB hoA hoB hs a m b ha hm hb;by_cases c1:A.length=1
  ·
   obtain ⟨x,rfl⟩:=List.length_eq_one_iff.1 c1;obtain ⟨M,hM,i,e1,e2⟩:=e8u hp (g:=g) (P:=P) (Q:=Q) hB (by intro z hz;rw[yaM]at hz;rcases hz with rfl|hz;exact hoA _ (yba.2 rfl);exact hoB z hz) (by omega) ha (m:=m) (by simpa using hm) hb
   refine ⟨M,hM,?_⟩;have d:(((m-a:Nat):Int)==1)=true:=by rw[ya6];simp at hm;omega
   rw[h3t,a5k (show a≤m by omega) (by omega),d,yac];have e1:b9 (c4m p) ((a:Int),g,(m:Int),(b:Int),P++([x]++(B++Q)),())=some ((a:Int),(i:Int),P++(x::(B++Q)),()):=e1;rw[e1];dsimp only;rw[e2]
  ·have d:(((m-a:Nat):Int)==1)=false:=by rw[yaY];omega
   rw[h3t,a5k (show a≤m by omega) (by omega),d,yaa];by_cases c2:B.length=1
   ·
    obtain ⟨y,rfl⟩:=List.length_eq_one_iff.1 c2;obtain ⟨M,hM,i,e1,e2⟩:=e3r hp (g:=g) (P:=P) (Q:=Q) hA (by intro z hz;rw[yaM]at hz;rcases hz with rfl|hz;exact hoB _ (yba.2 rfl);exact hoA z hz) (by omega) ha hm
    refine ⟨M,hM,?_⟩;have d2:(((b-m:Nat):Int)==1)=true:=by rw[ya6];simp at hb;omega
    rw[a5k (show m≤b by omega) (by omega),d2,yac];have e1:b9 (b1g p) ((m:Int),g,(a:Int),(m:Int),P++(A++([y]++Q)),())=some ((m:Int),(i:Int),P++(A++(y::Q)),()):=e1;rw[e1];dsimp only;rw[e2]
   ·have d2:(((b-m:Nat):Int)==1)=false:=by rw[yaY];omega
    rw[a5k (show m≤b by omega) (by omega),d2,yaa,c4c (show a+b<2000000000 by omega)];obtain ⟨md,hmd⟩:∃md,md=(a+b) / 2:=⟨_,rfl⟩
    rw[←hmd,d28 (show md+m<1000000 by omega)];obtain ⟨lo,hi,f1,f2,f3,f4,f5,f6,f7,hk⟩:∃lo hi:Nat,a≤lo∧lo≤hi∧hi≤m∧hi≤md∧md+m≤b+lo∧(lo=a∨lo+b=md+m)∧(hi=m∨hi=md)∧
     ∀k:Int→Int→Option (List Hold),(bif decide ((md:Int)<(m:Int)) then k (wr .i64 (((md+m:Nat):Int)-(b:Int))) (md:Int) else k (a:Int) (m:Int))=k (lo:Int) (hi:Int):=by
     rcases ybv md m with hl|hl
     ·exact ⟨md+m-b,md,by omega,by omega,by omega,by omega,by omega,.inr (by omega),.inr rfl,λk=>by rw[dlt hl,yac,a5k (show b≤md+m by omega) (by omega)]⟩
     ·exact ⟨a,m,by omega,by omega,by omega,by omega,by omega,.inl rfl,.inl rfl,λk=>by rw[show decide ((md:Int)<(m:Int))=false by rw[yaf];omega,yaa]⟩
    rw[hk (smT p fuel (P++(A++(B++Q))) (a:Int) (m:Int) (b:Int) g (md:Int) ((md+m:Nat):Int))];unfold smT;obtain ⟨s,s1,s2,s3,s4,s5⟩:=g0l hp (g:=g) (P:=P) (Q:=Q) hA hB hoA hoB hs ha hm hb f1 f2 f3 f4 f5 f6 f7 (by omega);rw[s5];simp -zeta only;have cA:=ya2 (s-a) A;have cB:=ya2 (md-s) B;have lA1:(A.take (s-a)).length=s-a:=by rw[yaD];omega
    have lA2:(A.drop (s-a)).length=m-s:=by rw[yaV];omega
    have lB1:(B.take (md-s)).length=md-s:=by rw[yaD];omega
    have lB2:(B.drop (md-s)).length=b-(md+m-s):=by rw[yaV];omega
    have oA1:okL (A.take (s-a)):=λx hx=>hoA x (List.mem_of_mem_take hx)
    have oA2:okL (A.drop (s-a)):=λx hx=>hoA x (ybZ hx)
    have oB1:okL (B.take (md-s)):=λx hx=>hoB x (List.mem_of_mem_take hx)
    have oB2:okL (B.drop (md-s)):=λx hx=>hoB x (ybZ hx)
    have tA:=b2k hA (s-a);have tB:=b2k hB (md-s);generalize A.take (s-a)=A1 at *;generalize A.drop (s-a)=A2 at *;generalize B.take (md-s)=B1 at *;generalize B.drop (md-s)=B2 at *;subst cA cB;simp only[yaP]at h1 h2 h3 hs hm hb c1 c2;rw[a5k (show s≤md+m by omega) (show md+m<1000000 by omega)];have t1:(bif decide ((s:Int)<(m:Int))&&decide ((m:Int)<((md+m-s:Nat):Int)) then qa1 p (P++(A1++A2++(B1++B2++Q))) (s:Int) (m:Int) ((md+m-s:Nat):Int) g else some (P++(A1++A2++(B1++B2++Q))))=some (P++(A1++(B1++(A2++(B2++Q))))):=by
     by_cases c3:s<m∧m<md+m-s
     ·rw[dlt c3.1,dlt c3.2,ybl,yac];have:=e3t (p:=p) (g:=g) (P:=P++A1) (X:=A2) (Y:=B1) (R:=B2++Q) (by omega) (by omega) (by simp;omega) (a:=s) (m:=m) (b:=md+m-s) (by simp;omega) (by omega) (by omega);simp only[ya0]at this ⊢;exact this
     ·have:(decide ((s:Int)<(m:Int))&&decide ((m:Int)<((md+m-s:Nat):Int)))=false:=by
       rw[ya1,yaf,yaf];omega
      rw[this,yaa];rcases ybv s m with c4|c4
      ·have:B1=[]:=yaq (by omega);subst this;simp
      ·have:A2=[]:=yaq (by omega);subst this;simp
    obtain ⟨M1,hM1,t2⟩:∃M1,MG A1 B1 M1∧(bif decide ((a:Int)<(s:Int))&&decide ((s:Int)<(md:Int)) then qd p fuel (P++(A1++(B1++(A2++(B2++Q))))) (a:Int) (s:Int) (md:Int) g else some (P++(A1++(B1++(A2++(B2++Q))))))=some (P++(M1++(A2++(B2++Q)))):=by
     by_cases c3:a<s∧s<md
     ·rw[dlt c3.1,dlt c3.2,ybl,yac];exact ih P A1 B1 (A2++(B2++Q)) (by omega) (by omega) (by omega) tA.1 tB.1 oA1 oB1 (by omega) a s md ha (by omega) (by omega)
     ·have:(decide ((a:Int)<(s:Int))&&decide ((s:Int)<(md:Int)))=false:=by
       rw[ya1,yaf,yaf];omega
      rw[this,yaa];rcases ybv a s with c4|c4
      ·have:B1=[]:=yaq (by omega);subst this;exact ⟨A1,MG.left tA.1,rfl⟩
      ·have:A1=[]:=yaq (by omega);subst this;exact ⟨B1,MG.right tB.1,rfl⟩
    have lM:=hM1.len;obtain ⟨M2,hM2,t3⟩:∃M2,MG A2 B2 M2∧(bif decide ((md:Int)<((md+m-s:Nat):Int))&&decide (((md+m-s:Nat):Int)<(b:Int)) then qd p fuel (P++(M1++(A2++(B2++Q)))) (md:Int) ((md+m-s:Nat):Int) (b:Int) g else some (P++(M1++(A2++(B2++Q)))))=some (P++(M1++(M2++Q))):=by
     by_cases c3:md<md+m-s∧md+m-s<b
     ·rw[dlt c3.1,dlt c3.2,ybl,yac];obtain ⟨M2,q1,q2⟩:=ih (P++M1) A2 B2 Q (by omega) (by omega) (by omega) tA.2 tB.2 oA2 oB2 (by simp;omega) md (md+m-s) b (by simp;omega) (by omega) (by omega);simp only[ya0]at q2;exact ⟨M2,q1,q2⟩
     ·have:(decide ((md:Int)<((md+m-s:Nat):Int))&&decide (((md+m-s:Nat):Int)<(b:Int)))=false:=by
       rw[ya1,yaf,yaf];omega
      rw[this,yaa];rcases ybv md (md+m-s) with c4|c4
      ·have:B2=[]:=yaq (by omega);subst this;exact ⟨A2,MG.left tA.2,rfl⟩
      ·have:A2=[]:=yaq (by omega);subst this;exact ⟨B2,MG.right tB.2,rfl⟩
    refine ⟨M1++M2,MG.join hA hB hM1 hM2 s3 s4,?_⟩;have:=h3v _ _ _ _ _ _ (λl=>qa1 p l (s:Int) (m:Int) ((md+m-s:Nat):Int) g) (λl=>qd p fuel l (a:Int) (s:Int) (md:Int) g) (λl=>qd p fuel l (md:Int) ((md+m-s:Nat):Int) (b:Int) g) t1 t2 t3;rw[this];simp only[ya0]
end
def dn (q:List Hold):Nat→List Hold
 |0=>[]
 |k+1=>rk (k:Int) q++dn q k
def a6e (q:List Hold):o5 q=dn q 10:=by
 simp[o5,dn]
def b3j (q:List Hold):∀n,a4v (dn q n)∧∀x∈dn q n,x.Rank<(n:Int):=by
 intro n
 induction n with
 |zero=>exact ⟨List.Pairwise.nil,λx hx=>by cases hx⟩
 |succ n ih=>
  refine ⟨a8g.2 ⟨?_,ih.1,λa ha b hb=>?_⟩,λx hx=>?_⟩
  ·exact List.pairwise_of_forall_mem_list λa ha b hb=>by rw[b8s ha,b8s hb];omega
  ·have:=b8s ha;have:=ih.2 b hb;omega
  ·rw[dn,yau]at hx;rcases hx with hx|hx
   ·have:=b8s hx;omega
   ·have:=ih.2 x hx;omega
def h5g (k j:Int) (q:List Hold):rk k (rk j q)=bif k==j then rk k q else []:=by
 by_cases h:k=j
 ·subst h;simp[rk,ybV]
 ·rw[show (k==j)=false by simpa using h,yaa];exact e3s λx hx=>by rw[b8s hx];exact λe=>h e.symm
def g3e (k:Int) (q:List Hold):∀n:Nat,rk k (dn q n)=bif decide (0≤k)&&decide (k<(n:Int)) then rk k q else []:=by
 intro n
 induction n with
 |zero=>rw[show (decide (0≤k)&&decide (k<((0:Nat):Int)))=false by rw[ya1,yaf,yaf];omega];rfl
 |succ n ih=>
  rw[dn,c5q,h5g,ih];by_cases h:k=(n:Int)
  ·subst h;rw[show (decide ((0:Int)≤(n:Int))&&decide ((n:Int)<((n+1:Nat):Int)))=true by rw[yae,yad,yad];omega,dge];simp
  ·rw[show (k==(n:Int))=false by simpa using h,yaa,yaU];congr 1;rw[show decide (k<(n:Int))=decide (k<((n+1:Nat):Int)) by rw[decide_eq_decide];omega]
def b1p:∀(m M:List Hold),M=m.reverse→a4v M→a5h ltR M=M:=by
 intro m
 induction m with
 |nil=>intro M h _;subst h;rfl
 |cons y m ih=>
  intro M h hs;rw[List.reverse_cons]at h;subst h;have h1:=a8g.1 hs;rw[a6q,ih _ rfl h1.1];have:=e0q (A:=m.reverse) (B:=[]) (y:=y) (λa ha=>h1.2.2 a ha y (yba.2 rfl)) (λb hb=>by cases hb);rw[yb8]at this;exact this
def d6e {l:List Hold} (hl:l.length<40) (hr:∀x∈l,rng 0 9 x.Rank=true):qcu (λ(g:Unit×Unit) x0 x1=>qv x0 x1) l ((),())=some (o5 l):=by
 have hsw:∀q:List Hold,(∀x∈q,rng 0 9 x.Rank=true)→a5h (λy z=>decide (wr .i64 (z.Rank-y.Rank)<0)) q=o5 q:=λq hq=>by
  rw[(e5r q.reverse q (by simp) (λx hx y hy=>c5f x y (hq x hx) (hq y hy))).1];exact b5q q.reverse q (by simp) hq
 rcases ybv l.length 20 with h20|h20
 ·rw[g52 (lt:=λy z=>decide (wr .i64 (z.Rank-y.Rank)<0)) (λy z=>⟨_,rfl,rfl⟩) h20,hsw l hr]
 ·have hc:=ya2 20 l;have l1:(l.take 20).length=20:=by rw[yaD];omega
  have l2:(l.drop 20).length=l.length-20:=by rw[yaV]
  have r1:∀x∈l.take 20,rng 0 9 x.Rank=true:=λx hx=>hr x (List.mem_of_mem_take hx)
  have r2:∀x∈l.drop 20,rng 0 9 x.Rank=true:=λx hx=>hr x (ybZ hx)
  generalize l.take 20=A at *;generalize l.drop 20=B at *;subst hc;simp only[yaP]at hl h20 l2;have hp:∀y z,∃n,(λ(g:Unit×Unit) x0 x1=>qv x0 x1) ((),()) y z=some n∧decide (n<0)=(λy z:Hold=>decide (wr .i64 (z.Rank-y.Rank)<0)) y z:=λy z=>⟨_,rfl,rfl⟩
  have i1:=e0p (p:=λ(g:Unit×Unit) x0 x1=>qv x0 x1) (g:=((),())) hp (pre:=[]) (l:=A) (rest:=B) (by simp) (by omega);rw[hsw A r1]at i1;simp only[ybh,yaI,yaU,l1]at i1;have lb:(o5 A).length=20:=by rw[←hsw A r1,a71,l1]
  have i2:=e0p (p:=λ(g:Unit×Unit) x0 x1=>qv x0 x1) (g:=((),())) hp (pre:=o5 A) (l:=B) (rest:=[]) (by omega) (by omega);rw[hsw B r2]at i2;simp only[yb8,lb]at i2;have h1:b9 (d6c (λ(g:Unit×Unit) x0 x1=>qv x0 x1)) (((20+B.length:Nat):Int),((),()),20,0,20,A++B,())=some (((20+B.length:Nat):Int),((),()),20,20,o5 A++B,()):=by
   refine o6 2 (by rw[n9];omega) ?_;have d:decide ((20:Int)≤((20+B.length:Nat):Int))=true:=by rw[yad];omega
   have d2:decide ((40:Int)≤((20+B.length:Nat):Int))=false:=by rw[yaf];omega
   have i1':ql (λ(g:Unit×Unit) x0 x1=>qv x0 x1) (A++B) 0 20 ((),())=some (o5 A++B):=i1;simp only[o7,d6c,d,yac,i1',show wr .i64 (20+20)=40 from rfl,d2,yaa]
  have i2':ql (λ(g:Unit×Unit) x0 x1=>qv x0 x1) (o5 A++B) 20 ((20+B.length:Nat):Int) ((),())=some (o5 A++o5 B):=i2;have h2:b9 (c8t (λ(g:Unit×Unit) x0 x1=>qv x0 x1)) (((20+B.length:Nat):Int),((),()),20,o5 A++o5 B,())=some (o5 (A++B),()):=by
   rcases Nat.eq_zero_or_pos B.length with hb|hb
   ·have:B=[]:=yaq hb;subst this;refine o6 1 (by rw[n9];omega) ?_;have d:decide ((20:Int)<((20+([]:List Hold).length:Nat):Int))=false:=rfl;simp only[o7,c8t,d,yaa,yb8];rw[show o5 ([]:List Hold)=[] from rfl,yb8]
   ·have sA:a4v (o5 A):=by rw[a6e];exact (b3j A 10).1
    have sB:a4v (o5 B):=by rw[a6e];exact (b3j B 10).1
    have lB:(o5 B).length=B.length:=by rw[←hsw B r2,a71]
    have mB:∀q:List Hold,(∀x∈q,rng 0 9 x.Rank=true)→okL (o5 q):=λq hq x hx=>by
     rw[a6e]at hx;have h9:=(b3j q 10).2 x hx;have:rk x.Rank (dn q 10)≠[]:=λe=>by
      have:x∈rk x.Rank (dn q 10):=yaE.2 ⟨hx,by simp⟩;rw[e]at this;cases this
     rw[g3e]at this;cases hd:(decide (0≤x.Rank)&&decide (x.Rank<((10:Nat):Int))) with
     |true=>rw[yae,yad,yad]at hd;rw[y9];omega
     |false=>rw[hd]at this;exact absurd rfl this
    obtain ⟨M,hM,e⟩:=c9p (p:=λ(g:Unit×Unit) x0 x1=>qv x0 x1) (g:=((),())) (λy z hy hz=>⟨_,rfl,c5f y z hy hz⟩) 64 [] (o5 A) (o5 B) [] (by omega) (by omega) (by omega) sA sB (mB A r1) (mB B r2) (by simp;omega) 0 20 (20+B.length) rfl (by omega) (by omega);simp only[yaU,yb8]at e;have hMr:M=o5 (A++B):=by
     have oM:okL M:=λx hx=>by
      rcases hM.mem hx with h|h
      ·exact mB A r1 x h
      ·exact mB B r2 x h
     have e1:o5 M=M:=by rw[←b5q M.reverse M (by simp) oM];exact b1p M.reverse M (by simp) hM.srt
     rw[←e1];have ek:∀k:Int,0≤k→k<10→rk k M=rk k (A++B):=λk k0 k9=>by
      rw[hM.rks,a6e,a6e,g3e,g3e,show (decide (0≤k)&&decide (k<((10:Nat):Int)))=true by rw[yae,yad,yad];omega,c5q]
      try rfl
     unfold o5;rw[ek 9 (by omega) (by omega),ek 8 (by omega) (by omega),ek 7 (by omega) (by omega),ek 6 (by omega) (by omega),ek 5 (by omega) (by omega),ek 4 (by omega) (by omega),ek 3 (by omega) (by omega),ek 2 (by omega) (by omega),ek 1 (by omega) (by omega),ek 0 (by omega) (by omega)]
    refine o6 2 (by rw[n9];omega) ?_;have d:decide ((20:Int)<((20+B.length:Nat):Int))=true:=by rw[yad];omega
    have d3:decide ((40:Int)<((20+B.length:Nat):Int))=false:=by rw[yaf];omega
    have d4:decide ((40:Int)≤((20+B.length:Nat):Int))=false:=by rw[yaf];omega
    have h9:b9 (f0p (λ(g:Unit×Unit) x0 x1=>qv x0 x1)) (((20+B.length:Nat):Int),((),()),20,0,40,o5 A++o5 B,())=some (((20+B.length:Nat):Int),((),()),20,0,o5 A++o5 B,()):=by
     refine o6 1 (by rw[n9];omega) ?_;simp only[o7,f0p,d4,yaa]
    have e':qd (λ(g:Unit×Unit) x0 x1=>qv x0 x1) 64 (o5 A++o5 B) 0 20 ((20+B.length:Nat):Int) ((),())=some M:=e;simp only[o7,c8t,d,yac,show wr .i64 (2*20)=40 from rfl,h9,show wr .i64 (0+20)=20 from rfl,e',show wr .i64 (20*2)=40 from rfl,d3,yaa,hMr]
  unfold qcu qm;rw[yaP,l1,h1];simp only[i2',h2]
end
section
def a5a {X:Type} (p:X→Bool):∀(l o:List X),l.foldl (λs y=>bif p y then s++[y] else s) o=o++l.filter p:=by
 intro l
 induction l with
 |nil=>intro o;simp
 |cons x l ih=>intro o;rw[ybp,ih,ybq];cases p x<;>simp
def b1r {X Y:Type} (p:X→Bool) (f:X→Y):∀(l:List X) (o:List Y),l.foldl (λs y=>bif p y then s++[f y] else s) o=o++(l.filter p).map f:=by
 intro l
 induction l with
 |nil=>intro o;simp
 |cons x l ih=>intro o;rw[ybp,ih,ybq];cases p x<;>simp
def h44 {l:List Hold} {record day:Int} (hl:l.length<1000000) (h20:(l.filter (a0d record day)).length<40) (hr:∀x∈l,rng 0 9 x.Rank=true):qh l record day=some (o5 (l.filter (a0d record day))):=by
 have h:=t6 (step:=d58) (λ(i:Nat) (s:List Hold)=>s.length≤i) (λi s=>(record,day,l,(l.length:Int),(i:Int),s,())) l
  (λi y s=>.inl (bif a0d record day y then s++[y] else s)) (λs=>(s,())) (by rw[n9];omega)
  (λs _=>by simp only[d58,dge,yaa])
  (λi y s hx hi=>by
   have hlt:=(zL hx)
   have l1:decide (s.length+([y]:List Hold).length≤LIM)=true:=a1u (by simp;omega);refine ⟨?_,λs' hs'=>?_⟩
   ·simp -zeta only[d58,dlt hlt,d8,hx,yac,l1,p9,wS i];unfold a0d;dsimp only;cases (y.Record==record&&y.State==1&&decide (y.Asleep≤day))<;>rfl
   ·cases hs'
    cases a0d record day y<;>simp<;>omega) [] (by simp)
 rw[a0f]at h;unfold qh;rw[show b9 d58 (record,day,l,(l.length:Int),0,[],())=_ from h,a5a,yaU];simp only;rw[d6e h20 (λx hx=>hr x (yaE.1 hx).1)]
def d5y {l:List Hold} {record day rank:Int} (hl:l.length<1000000) (s:List Int) (hs:s.length<100000000):b9 b74 (l,record,day,rank,0,s,())=some (l,record,day,rank,s++(rk rank (l.filter (a0d record day))).map (λx=>x.ID),()):=by
 have h:=t6 (step:=b74) (λ(i:Nat) (o:List Int)=>o.length≤s.length+i) (λi o=>(l,record,day,rank,(i:Int),o,())) l
  (λi y o=>.inl (bif a0d record day y&&y.Rank==rank then o++[y.ID] else o)) (λo=>(l,record,day,rank,o,())) (by rw[n9];omega)
  (λo _=>by simp only[b74,dge,yaa])
  (λi y o hx hi=>by
   have hlt:=(zL hx)
   have l1:decide (o.length+([y.ID]:List Int).length≤LIM)=true:=a1u (by simp;omega);refine ⟨?_,λs' hs'=>?_⟩
   ·simp -zeta only[b74,dlt hlt,d8,hx,yac,l1,p9,wS i];dsimp only;rw[e54];cases (a0d record day y&&y.Rank==rank)<;>rfl
   ·cases hs'
    cases (a0d record day y&&y.Rank==rank)<;>simp<;>omega) s (by omega)
 rw[a0f]at h;rw[show b9 b74 (l,record,day,rank,0,s,())=_ from h];have e:(λ(s:List Int) (x:Hold)=>bif a0d record day x&&x.Rank==rank then s++[x.ID] else s)=(λs x=>bif (λy=>a0d record day y&&y.Rank==rank) x then s++[(λz:Hold=>z.ID) x] else s):=rfl;rw[e,b1r];unfold rk;rw[ybV];have e2:(λy:Hold=>a0d record day y&&y.Rank==rank)=(λa=>a.Rank==rank&&a0d record day a):=by funext y;rw[Bool.and_comm]
 rw[e2]
def c5r {k:Int} {q:List Hold}:(rk k q).length≤q.length:=yaX _ _
def g3b {l:List Hold} {record day:Int} (hl:l.length<1000000):∀(k:Nat) (s:List Int),k≤10→s.length+k*1000000<100000000→
 o7 d2t (k+1) (l,record,day,(k:Int)-1,s,())=some (s++(dn (l.filter (a0d record day)) k).map (λx=>x.ID),()):=by
 intro k
 induction k with
 |zero=>
  intro s _ _;simp only[o7,dn,List.map_nil,yb8]
  try rfl
 |succ k ih=>
  intro s hk hs;have e:((k+1:Nat):Int)-1=(k:Int):=by omega
  have hlen:(rk (k:Int) (l.filter (a0d record day))).length≤l.length:=ybt c5r (yaX _ _);rw[o7];have d2:decide ((0:Int)≤(k:Int))=true:=by rw[yad];omega
  simp only[d2t,d2,yac,e,d5y hl s (by omega)];rw[a0g (n:=(k:Int)-1) (by omega) (by omega),ih _ (by omega) (by rw[yaP,ybn];omega)];simp only[dn,List.map_append,ya0]
def h2g {l:List Hold} {record day:Int} (hl:l.length<1000000):qfa l record day=some ((o5 (l.filter (a0d record day))).map (λx=>x.ID)):=by
 have h:=g3b (record:=record) (day:=day) hl 10 [] (by omega) (by simp);unfold qfa;rw[show b9 d2t (l,record,day,9,([]:List Int),())=_ from o6 11 (by rw[n9];omega) h,yaU,a6e]
def a3v {q:List Hold} {x:Hold} (h:x∈o5 q):x∈q:=by
 have k:∀(k:Int),x∈rk k q→x∈q:=λk h=>(yaE.1 h).1
 unfold o5 at h;simp only[yau]at h;rcases h with h|h|h|h|h|h|h|h|h|h<;>exact k _ h
def b6h (branch:Int) (vlocal:Bool) (x:Item) (h:Hold) (first:Int):Int⊕Int:=
 bif !(h.Item==0)&&!(h.Item==x.ID) then .inl first
 else bif !vlocal||h.Pickup==branch then .inr h.ID
 else .inl (bif first==0 then h.ID else first)
def c4g (branch:Int) (vlocal:Bool) (x:Item) (h:Hold) (first:Int):Int⊕Int:=
 bif !(h.Item==0)&&!(h.Item==x.ID) then .inl first
 else bif vlocal&&h.Pickup==branch then .inr h.ID
 else .inl (bif first==0 then h.ID else first)
def b4l (branch:Int) (vlocal:Bool) (x:Item):List Hold→Int→Int
 | [],first=>first
 |h::q,first=>match b6h branch vlocal x h first with | .inl f=>b4l branch vlocal x q f | .inr r=>r
def a7t (branch:Int) (vlocal:Bool) (x:Item):List Hold→Int→Int
 | [],first=>first
 |h::q,first=>match c4g branch vlocal x h first with | .inl f=>a7t branch vlocal x q f | .inr r=>r
def d5h {branch:Int} {x:Item}:∀{q:List Hold} {f:Int},f≠0→a7t branch false x q f=f:=by
 intro q
 induction q with
 |nil=>intros;rfl
 |cons h q ih=>
  intro f hf;have h0:(f==0)=false:=by simpa using hf
  simp only[a7t,c4g,ybw,yaa,h0];cases (!(h.Item==0)&&!(h.Item==x.ID))<;>exact ih hf
def c4h {branch:Int} {vlocal:Bool} {x:Item}:∀{q:List Hold} {f:Int},(∀h∈q,h.ID≠0)→(vlocal=false→f=0)→b4l branch vlocal x q f=a7t branch vlocal x q f:=by
 intro q
 induction q with
 |nil=>intros;rfl
 |cons h q ih=>
  intro f hq hf;simp only[b4l,a7t,b6h,c4g];cases (!(h.Item==0)&&!(h.Item==x.ID)) with
  |true=>exact ih (λy hy=>hq y (yaN _ hy)) hf
  |false=>
   cases vlocal with
   |true=>
    cases h.Pickup==branch with
    |true=>rfl
    |false=>exact ih (λy hy=>hq y (yaN _ hy)) (λe=>by cases e)
   |false=>
    have:=hf rfl;subst this;exact (d5h (hq h (yaK ..))).symm
end
section
def a6x {l:List Hold} (hsort:∀i x,l[i]?=some x→u7 l i (λy=>decide (x.ID≤y.ID))=false) {h:Hold} (hm:h∈l):c2r l h.ID=(h,true):=by
 unfold c2r;rw[a22 (key:=λy:Hold=>y.ID) hsort hm]
def d5i {β:Type} {branch:Int} {vlocal:Bool} {x:Item} (fin:Int→β) (out:Int→β) (hfo:∀v:Int,True):∀(q:List Hold) (i:Nat) (f:Int),∃r:Int⊕Int,(match r with | .inl v=>v | .inr v=>v)=b4l branch vlocal x q f∧
 a3p (λ(_:Nat) h f=>match b6h branch vlocal x h f with | .inl f=>.inl f | .inr v=>.inr (out v)) fin i q f=(match r with | .inl v=>fin v | .inr v=>out v):=by
 intro q
 induction q with
 |nil=>intro i f;exact ⟨.inl f,rfl,rfl⟩
 |cons h q ih=>
  intro i f;simp only[a3p,b4l];cases b6h branch vlocal x h f with
  |inl f'=>exact ih (i+1) f'
  |inr v=>exact ⟨.inr v,rfl,rfl⟩
def d5j {β:Type} {branch:Int} {vlocal:Bool} {x:Item} (fin:Int→β) (out:Int→β) (hfo:∀v:Int,True):∀(q:List Hold) (i:Nat) (f:Int),∃r:Int⊕Int,(match r with | .inl v=>v | .inr v=>v)=a7t branch vlocal x q f∧
 a3p (λ(_:Nat) h f=>match c4g branch vlocal x h f with | .inl f=>.inl f | .inr v=>.inr (out v)) fin i q f=(match r with | .inl v=>fin v | .inr v=>out v):=by
 intro q
 induction q with
 |nil=>intro i f;exact ⟨.inl f,rfl,rfl⟩
 |cons h q ih=>
  intro i f;simp only[a3p,a7t];cases c4g branch vlocal x h f with
  |inl f'=>exact ih (i+1) f'
  |inr v=>exact ⟨.inr v,rfl,rfl⟩
def a9h {q:List Hold}:(o5 q).length≤10*q.length:=by
 have k:∀n:Int,(rk n q).length≤q.length:=λn=>c5r
 unfold o5;simp only[yaP];have:=k 0;have:=k 1;have:=k 2;have:=k 3;have:=k 4;have:=k 5;have:=k 6;have:=k 7;have:=k 8;have:=k 9;omega
def e2p {l:List Hold} {x:Item} {branch day:Int} {vlocal:Bool} (hl:l.length<1000000) (h20:(l.filter (a0d x.Record day)).length<40) (hr:∀x∈l,rng 0 9 x.Rank=true) :
 qaz l x branch day vlocal=some (b4l branch vlocal x (o5 (l.filter (a0d x.Record day))) 0):=by
 unfold qaz;rw[h44 hl h20 hr];have hq:(o5 (l.filter (a0d x.Record day))).length<1000:=by have:=a9h (q:=l.filter (a0d x.Record day));omega
 generalize o5 (l.filter (a0d x.Record day))=q at hq ⊢;have h:=a2g (step:=b7y) (λi f=>(branch,vlocal,f,q,(q.length:Int),(i:Int),x,())) q
  (λ_ h f=>match b6h branch vlocal x h f with | .inl f=>.inl f | .inr v=>.inr (.inr (v,()))) (λf=>.inl (f,())) (by rw[n9];omega)
  (λf=>by simp only[b7y,dge,yaa])
  (λi y f hx=>by
   have hlt:=(zL hx)
   simp -zeta only[b7y,dlt hlt,d8,hx,yac,a0s,p9,wS i];unfold b6h;dsimp only;cases (!(y.Item==0)&&!(y.Item==x.ID)) with
   |true=>rfl
   |false=>
    cases (!vlocal||y.Pickup==branch) with
    |true=>rfl
    |false=>cases f==0<;>rfl) 0
 obtain ⟨r,r1,r2⟩:=d5i (branch:=branch) (vlocal:=vlocal) (x:=x) (λf=>(.inl (f,()):(Int×Unit)⊕(Int×Unit))) (λv=>.inr (v,())) (λ_=>trivial) q 0 0;rw[r2]at h;simp only;rw[show b9 b7y (branch,vlocal,0,q,(q.length:Int),0,x,())=_ from h,←r1];cases r<;>rfl
def e22 {l:List Hold} {x:Item} {branch day:Int} {vlocal:Bool} (hl:l.length<1000000) (hsort:∀i x,l[i]?=some x→u7 l i (λy=>decide (x.ID≤y.ID))=false) :
 qf2 l x branch day vlocal=some (a7t branch vlocal x (o5 (l.filter (a0d x.Record day))) 0):=by
 unfold qf2;rw[h2g hl];have hq:(o5 (l.filter (a0d x.Record day))).length<100000000:=by
  have:=a9h (q:=l.filter (a0d x.Record day));have:=yaX (a0d x.Record day) l;omega
 have hm:∀h∈o5 (l.filter (a0d x.Record day)),h∈l:=λh hh=>(yaE.1 (a3v hh)).1
 generalize o5 (l.filter (a0d x.Record day))=q at hq hm ⊢;have h:=a2g (step:=c4w) (λi f=>(l,branch,vlocal,q.map (λx=>x.ID),f,(i:Int),x,())) q
  (λ_ h f=>match c4g branch vlocal x h f with | .inl f=>.inl f | .inr v=>.inr (.inr (v,()))) (λf=>.inl (f,())) (by rw[n9];omega)
  (λf=>by
   have d:decide ((q.length:Int)<((q.map (λx=>x.ID)).length:Int))=false:=by rw[yaf,ybn];omega
   simp only[c4w,d,yaa])
  (λi y f hx=>by
   have hlt:=(zL hx)
   have d:decide ((i:Int)<((q.map (λx=>x.ID)).length:Int))=true:=by rw[yad,ybn];omega
   have gx:(q.map (λx=>x.ID))[i]?=some y.ID:=by rw[yaO,hx];rfl
   simp -zeta only[c4w,d,d8,gx,yac,a0s,p9,b8e (show l.length<1000000000 by omega),a6x hsort (hm y (yag hx)),wS i];unfold c4g;dsimp only;cases (!(y.Item==0)&&!(y.Item==x.ID)) with
   |true=>rfl
   |false=>
    cases (vlocal&&y.Pickup==branch) with
    |true=>rfl
    |false=>cases f==0<;>rfl) 0
 obtain ⟨r,r1,r2⟩:=d5j (branch:=branch) (vlocal:=vlocal) (x:=x) (λf=>(.inl (f,()):(Int×Unit)⊕(Int×Unit))) (λv=>.inr (v,())) (λ_=>trivial) q 0 0;rw[r2]at h;simp only;rw[show b9 c4w (l,branch,vlocal,q.map (λx=>x.ID),0,0,x,())=_ from h,←r1];cases r<;>rfl
def a6k {c:Circ} (h:FitP c) {o:Hold} (ho:o∈c.Holds):rng 0 9 o.Rank=true∧o.ID≠0:=by
 have:=a3a h.holds ho;unfold s8 at this;have:=a0q this (by decide);simp only[yai,yaf]at this;obtain ⟨⟨hx,h1⟩,h2⟩:=this;refine ⟨by rw[y9];omega,?_⟩;have:=hx.1.1.1.1.1.1.1.1.1.1;omega
structure MidW (c:Circ):Prop where
 short:Short c
 moves:c.Moves.length≤2000
 holds:c.Holds.length≤64
 loans:c.Loans.length≤64
 few:∀r,(c.Holds.filter (λo=>o.Record==r)).length<40
def SmallP.w {c:Circ} (h:SmallP c):MidW c:=by
 have h1:=h.moves;have h2:=h.holds;have h3:=h.loans;exact ⟨h.short,by omega,by omega,by omega,λr=>by have:=yaX (λo:Hold=>o.Record==r) c.Holds;omega⟩
def d94 {l:List Hold} {r day:Int} (h:(l.filter (λo=>o.Record==r)).length<40):(l.filter (a0d r day)).length<40:=by
 have e:l.filter (a0d r day)=(l.filter (λo=>o.Record==r)).filter (a0d r day):=by
  rw[ybV];apply ycd;intro o _;unfold a0d;cases o.Record==r<;>simp
 rw[e];have:=yaX (a0d r day) (l.filter (λo=>o.Record==r));omega
def g21 {c:Circ} (hs:MidW c) (h:FitP c) {x:Item} {branch day:Int} {vlocal:Bool}:qaz c.Holds x branch day vlocal=qf2 c.Holds x branch day vlocal:=by
 have h1:=hs.holds;rw[e2p (by omega) (d94 (hs.few x.Record)) (λo ho=>(a6k h ho).1),e22 (by omega) (a0h h.holds)];congr 1;exact c4h (λo ho=>(a6k h (yaE.1 (a3v ho)).1).2) (λ_=>rfl)
end
section
def e6h (l:List Loan) (n:Loan):List Loan×Int:=
 bif decide (0≤a66 (λx=>x.Item==n.Item) l) then ([],7)
 else bif !(o4 (b1d (λx=>decide (n.Item<x.Item)) n l)==0) then ([],o4 (b1d (λx=>decide (n.Item<x.Item)) n l)) else (b1d (λx=>decide (n.Item<x.Item)) n l,0)
def h00 {l:List Loan} {n:Loan} (hl:l.length<100000000):qa8 l n=some (e6h l n):=by
 have hl2:l.length<1000000000:=by omega
 have hi:(b1d (λx=>decide (n.Item<x.Item)) n l).length<1000000000:=by rw[a8y];omega
 unfold qa8 qz e6h;dsimp only;rw[a6y hl2];rcases o8 (λx:Loan=>x.Item==n.Item) l with ⟨h1,h2⟩|⟨i,x,h1,h2,h3,h4⟩
 ·have hc:qbj l=some l:=by unfold qbj;rw[a5r hl2];rfl
  have e:=c7m (p:=λx:Loan=>decide (n.Item<x.Item)) (x:=n) hl2;have hI:∀i:Int,qcv l i [n]=b0m l i [n]:=λ_=>rfl
  have hf:qa9 (λ(g:Unit×Loan×Unit) x0=>qb0 x0 g.2.1) l ((),(n,()))=some (match l.find? (λx=>decide (n.Item<x.Item)) with|some x=>(x,a66 (λx=>decide (n.Item<x.Item)) l)|none=>((⟨0,0,0,0,0,false⟩:Loan),-1)):=by
   unfold qa9;rw[e2y (p:=λ(g:Unit×Loan×Unit) x0=>qb0 x0 g.2.1) (g:=((),(n,()))) (λx=>decide (n.Item<x.Item)) hl2 (λx _=>rfl)];rcases o8 (λx:Loan=>decide (n.Item<x.Item)) l with ⟨h1,h2⟩|⟨i,x,h1,h2,h3,h4⟩
   ·simp only[h1,h2,a6a,yac]
   ·simp only[h1,h4,a4f,yaa,d8,h2]
  have d:decide ((0:Int)≤-1)=false:=rfl;simp only[h1,h2,d,yaa,hf,hc];rcases o8 (λx:Loan=>decide (n.Item<x.Item)) l with ⟨g1,g2⟩|⟨i,x,g1,g2,g3,g4⟩
  ·rw[g1]at e;simp only[a6a,yac]at e;simp only[g2,a6a,yac,hI,e,e2r hi]
  ·rw[g1]at e;simp only[a4f,yaa]at e;simp only[g4,g1,a4f,yaa,hI,e,e2r hi]
 ·have d:decide ((0:Int)≤(i:Int))=true:=by rw[yad];omega
  simp only[h4,h1,d,yac]
def b96 {X:Type} {p q:X→Bool}:∀{l:List X},(∀x∈l,p x=q x)→l.findIdx? p=l.findIdx? q:=by
 intro l
 induction l with
 |nil=>intros;rfl
 |cons x l ih=>
  intro h;rw[ybI,ybI,h x (yaK ..),ih (λy hy=>h y (yaN _ hy))]
def d57 {l:List Loan} {n:Loan} (hl:l.length<1000000000):b9 b8f (l,0,n,())=some (l,(match l.findIdx? (λx=>!(decide (x.Item<n.Item))) with|some k=>(k:Int)|none=>(l.length:Int)),n,()):=by
 have h:=w7 (step:=b8f) (λi=>(l,(i:Int),n,())) l (λx=>!(decide (x.Item<n.Item))) (λi _=>(l,(i:Int),n,())) (l,(l.length:Int),n,()) hl
  (by simp only[b8f,dge,yaa])
  (λi x hx=>by
   have hi:=(zL hx)
   simp only[b8f,dlt hi,d8,hx,yac,wS i];cases decide (x.Item<n.Item)<;>rfl)
 rw[show b9 b8f (l,0,n,())=_ from h];congr 1;have key:∀(m:List Loan) (i:Nat) (d:Int),a2u (λx:Loan=>!(decide (x.Item<n.Item))) (λi _=>(l,(i:Int),n,())) (l,d,n,()) i m=(l,(match m.findIdx? (λx=>!(decide (x.Item<n.Item))) with|some k=>((i+k:Nat):Int)|none=>d),n,()):=by
  intro m
  induction m with
  |nil=>intro i d;rfl
  |cons x m ih=>
   intro i d;rw[ybI];simp only[a2u];cases !(decide (x.Item<n.Item)) with
   |true=>rfl
   |false=>
    simp only[yaa,yaz,ybd];rw[ih];cases m.findIdx? (λx=>!(decide (x.Item<n.Item))) with
    |none=>rfl
    |some k=>simp only[ybz];rw[show i+1+k=i+(k+1) by omega]
 rw[key l 0];simp
def f5g {l:List Loan} {n:Loan} (hl:l.length<100000000):qgg l n=some (e6h l n):=by
 have hl2:l.length<1000000000:=by omega
 have hi:(b1d (λx=>decide (n.Item<x.Item)) n l).length<1000000000:=by rw[a8y];omega
 unfold qgg e6h;rw[d2w hl2];dsimp only;rcases o8 (λx:Loan=>x.Item==n.Item) l with ⟨h1,h2⟩|⟨i,x,h1,h2,h3,h4⟩
 ·have d:decide ((0:Int)≤-1)=false:=rfl;have ec:l.findIdx? (λx=>!(decide (x.Item<n.Item)))=l.findIdx? (λx=>decide (n.Item<x.Item)):=b96 (λx hx=>by
   have hne:¬x.Item=n.Item:=by
    rw[ybF]at h2;have:=h2 x hx;simpa using this
   rw[ybj];simp;omega)
  simp only[h1,d,yaa,d57 hl2,ec];have fin:∀k:Nat,k≤l.length→b1d (λx=>decide (n.Item<x.Item)) n l=l.take k++n::l.drop k→
   (bif decide (0≤(0:Int))&&(decide ((0:Int)≤(k:Int))&&decide ((k:Int)≤(l.length:Int))) then
    bif decide (([]:List Loan).length+((l.take (k:Int).toNat).drop (0:Int).toNat).length≤LIM) then
    bif decide ((([])++((l.take (k:Int).toNat).drop (0:Int).toNat)).length+([n]:List Loan).length≤LIM) then
    bif decide (0≤(k:Int))&&(decide ((k:Int)≤(l.length:Int))&&decide ((l.length:Int)≤(l.length:Int))) then
    bif decide (((([])++((l.take (k:Int).toNat).drop (0:Int).toNat))++([n]:List Loan)).length+((l.take (l.length:Int).toNat).drop (k:Int).toNat).length≤LIM) then
    (match qeo (((([])++((l.take (k:Int).toNat).drop (0:Int).toNat))++([n]:List Loan))++((l.take (l.length:Int).toNat).drop (k:Int).toNat)) with
    |some (r6,r7)=>some (r6,r7)
    |none=>none)
    else none
    else none
    else none
    else none
    else none)=some (bif !(o4 (b1d (λx=>decide (n.Item<x.Item)) n l)==0) then ([],o4 (b1d (λx=>decide (n.Item<x.Item)) n l)) else (b1d (λx=>decide (n.Item<x.Item)) n l,0)):=by
   intro k hk e;have d1:decide ((0:Int)≤(k:Int))=true:=by rw[yad];omega
   have d2:decide ((k:Int)≤(l.length:Int))=true:=by rw[yad];omega
   have t1:decide (([]:List Loan).length+(l.take k).length≤LIM)=true:=a1u (by simp;omega);have t2:decide ((l.take k).length+([n]:List Loan).length≤LIM)=true:=a1u (by simp;omega);have t3:decide ((l.take k++[n]).length+(l.drop k).length≤LIM)=true:=a1u (by simp;omega);have e2:(l.take k++[n])++l.drop k=b1d (λx=>decide (n.Item<x.Item)) n l:=by rw[e];simp
   simp only[d1,d2,yaB,Int.toNat_zero,ybX,yaU,List.take_length,t1,t2,t3,Int.le_refl,decide_true,ybl,yac,e2,f40 hi]
  cases hx:l.findIdx? (λx=>decide (n.Item<x.Item)) with
  |none=>exact fin l.length (yav _) (by rw[b3s hx];simp)
  |some k=>
   obtain ⟨e1,e2⟩:=b3t (x:=n) hx;exact fin k e2 e1
 ·have d:decide ((0:Int)≤(i:Int))=true:=by rw[yad];omega
  simp only[h1,d,yac]
end
section
def a2m (l:List Hold) (id:Int):List Hold×Hold×Int:=
 match l.find? (λh=>h.ID==id) with|some h=>(l.filter (λx=>!(x.ID==id)),h,0)|none=>([],a93,9)
def d4c {l:List Hold} (hsort:∀i x,l[i]?=some x→u7 l i (λy=>decide (x.ID≤y.ID))=false) {i:Nat} {x:Hold} (hx:l[i]?=some x):l.take i++l.drop (i+1)=l.filter (λy=>!(y.ID==x.ID)):=by
 have hlt:=(zL hx)
 have e:l=l.take i++x::l.drop (i+1):=by
  have h2:l[i]=x:=(yaA.1 hx).2;rw[←h2,←yby hlt,ya2]
 have hA:(l.take i).filter (λy=>!(y.ID==x.ID))=l.take i:=by
  rw[List.filter_eq_self];intro y hy;obtain ⟨j,hj⟩:=yaw hy;have hj2:=(zL hj)
  rw[yaD]at hj2;rw[ybP (by omega)]at hj;have:=a2e (key:=λy:Hold=>y.ID) hsort i j y x (by omega) hj hx;have hne:¬y.ID=x.ID:=by omega
  simpa using hne
 have hB:(l.drop (i+1)).filter (λy=>!(y.ID==x.ID))=l.drop (i+1):=by
  rw[List.filter_eq_self];intro y hy;obtain ⟨j,hj⟩:=yaw hy;rw[ybH]at hj;have:=a2e (key:=λy:Hold=>y.ID) hsort (i+1+j) i x y (by omega) hx hj;have hne:¬y.ID=x.ID:=by omega
  simpa using hne
 conv=>rhs;rw[e]
 rw[List.filter_append,hA,ybq,hB];simp
def h1q {l:List Hold} {id:Int} (hl:l.length<100000000) (hsort:∀i x,l[i]?=some x→u7 l i (λy=>decide (x.ID≤y.ID))=false):qdh l id=some (a2m l id):=by
 have hl2:l.length<1000000000:=by omega
 unfold qdh qay a2m;rw[b7n (p:=λ(g:Unit×Int×Unit) x0=>qc3 x0 g.2.1) (g:=((),(id,()))) (λx=>x.ID==id) hl2 (λx _=>rfl)];dsimp only;rcases o8 (λx:Hold=>x.ID==id) l with ⟨h1,h2⟩|⟨i,x,h1,h2,h3,h4⟩
 ·simp only[h1,h2,a6a,yac]
  try rfl
 ·have hlt:=(zL h2)
  have hc:qbu l=some l:=by unfold qbu;rw[a5r hl2];rfl
  have hid:x.ID=id:=by simpa using h3
  have hd:qcw l (i:Int) ((i+1:Nat):Int)=some (l.take i++l.drop (i+1)):=by
   show a7e l (i:Int) ((i+1:Nat):Int)=_
   unfold a7e;have d1:decide ((0:Int)≤(i:Int))=true:=by rw[yad];omega
   have d2:decide ((i:Int)≤((i+1:Nat):Int))=true:=by rw[yad];omega
   have d3:decide (((i+1:Nat):Int)≤(l.length:Int))=true:=by rw[yad];omega
   have d4:decide (l.length≤1073741824)=true:=by rw[yad];omega
   simp only[d1,d2,d3,d4,ybl,yac,yaB]
  simp only[h4,h1,a4f,yaa,hc,wS i,hd,d8,h2];rw[d4c hsort h2,hid]
def f41 {l:List Hold} {id:Int} (hl:l.length<100000000):qeu l id=some (a2m l id):=by
 have hl2:l.length<1000000000:=by omega
 unfold qeu a2m;rw[b8e hl2];unfold c2r;cases hf:l.find? (λh=>h.ID==id) with
 |none=>rfl
 |some h=>
  have hw:=t6 (step:=c4r) (λ(i:Nat) (s:List Hold)=>s.length≤i) (λi s=>(l,id,(i:Int),a93,h,s,())) l
   (λi y s=>.inl (bif !(y.ID==id) then s++[y] else s)) (λs=>(a93,h,s,())) (by rw[n9];omega)
   (λs _=>by simp only[c4r,dge,yaa])
   (λi y s hx hi=>by
    have hlt:=(zL hx)
    have l1:decide (s.length+([y]:List Hold).length≤LIM)=true:=a1u (by simp;omega);refine ⟨?_,λs' hs'=>?_⟩
    ·simp only[c4r,dlt hlt,d8,hx,yac,l1,wS i];cases !(y.ID==id)<;>rfl
    ·cases hs'
     cases !(y.ID==id)<;>simp<;>omega) [] (by simp)
  rw[a0f]at hw;simp only[yak,yaa];rw[show b9 c4r (l,id,0,(⟨0,0,0,0,0,0,0,0,0,0,0⟩:Hold),h,([]:List Hold),())=_ from hw,a5a]
  try rfl
def t8 (c:Circ) (l:List Hold):Circ:=⟨c.Today,c.Items,c.Patrons,c.Loans,l,c.Charges,c.Rules,c.Cals,c.Moves,c.NextHold,c.NextCharge,c.Local⟩
def b9t (c:Circ) (l:List Hold):qb3 l 0 ⟨c,0⟩=some ((),⟨t8 c l,0⟩):=rfl
def a59 (c:Circ) (l:List Hold) (e:Int) (he:e≠0):qb3 l e ⟨c,0⟩=some ((),⟨t8 c c.Holds,e⟩):=by
 have h:(e==0)=false:=by simpa using he
 unfold qb3 qr;simp only[h,yar,yac,yal,yaa]
 try rfl
end
section
def b6n {X:Type} (i:Int) (upd:X→X):Nat→List X→List X
 |_,[]=>[]
 |k,x::l=>(bif (k:Int)==i then upd x else x)::b6n i upd (k+1) l
def d6s {X:Type} {i:Nat} {upd:X→X}:∀{l:List X} {k:Nat},i<k→b6n (i:Int) upd k l=l:=by
 intro l
 induction l with
 |nil=>intros;rfl
 |cons x l ih=>
  intro k h;have:((k:Int)==(i:Int))=false:=by
   have hne:¬(k:Int)=(i:Int):=by omega
   simpa using hne
  simp only[b6n,this,yaa];rw[ih (by omega)]
def e5u {X:Type} {upd:X→X} {x:X}:∀{l:List X} {k j:Nat},l[j]?=some x→b6n ((k+j:Nat):Int) upd k l=l.set j (upd x):=by
 intro l
 induction l with
 |nil=>intro k j h;simp at h
 |cons y l ih=>
  intro k j h;cases j with
  |zero=>
   simp at h;subst h;have:((k:Int)==((k+0:Nat):Int))=true:=by simp
   simp only[b6n,this,yac,List.set_cons_zero];rw[d6s (by omega)]
  |succ j=>
   have hne:((k:Int)==((k+(j+1):Nat):Int))=false:=by
    have:¬(k:Int)=((k+(j+1):Nat):Int):=by omega
    simpa using this
   simp only[b6n,hne,yaa,List.set_cons_succ];have:=ih (k:=k+1) (j:=j) (by simpa using h);rw[show k+1+j=k+(j+1) by omega]at this;rw[this]
def e3w {X β:Type} {i:Int} {upd:X→X} {g:List X→β}:∀{l:List X} {k:Nat} {s:List X},a3p (λ(k:Nat) x (s:List X)=>.inl (s++[bif (k:Int)==i then upd x else x])) g k l s=g (s++b6n i upd k l):=by
 intro l
 induction l with
 |nil=>intro k s;simp[a3p,b6n]
 |cons x l ih=>intro k s;simp only[a3p,b6n];rw[ih];simp
def a04 (u:Custody) (x:Item):Item:=⟨x.ID,x.Record,x.Branch,x.Kind,x.Price,x.Call,u⟩
def z8 (c:Circ) (i:Nat) (x:Item) (m:Move) (u:Custody):Circ:=⟨c.Today,c.Items.set i (a04 u x),c.Patrons,c.Loans,c.Holds,c.Charges,c.Rules,c.Cals,c.Moves++[m],c.NextHold,c.NextCharge,c.Local⟩
def b0t (c:Circ) (e:Int):Int:=bif e==0&&decide (2000≤(c.Moves.length:Int)) then 13 else e
def a7j {c:Circ} {i:Nat} {x:Item} {kind branch who:Int} (hs:Short c) (hm:c.Moves.length<100000000) (hx:c.Items[i]?=some x) :
 qa5 (i:Int) kind branch who ⟨c,0⟩=some ((),bif b0t c (p8 x.Custody ⟨c.Today,x.ID,kind,branch,who⟩).2==0 then ⟨z8 c i x ⟨c.Today,x.ID,kind,branch,who⟩ (p8 x.Custody ⟨c.Today,x.ID,kind,branch,who⟩).1,0⟩ else ⟨c,b0t c (p8 x.Custody ⟨c.Today,x.ID,kind,branch,who⟩).2⟩):=by
 have hc1:qcn c.Items=some c.Items:=by unfold qcn;rw[a5r hs.items];rfl
 have hc2:qcm c.Moves=some c.Moves:=by unfold qcm;rw[a5r hs.moves];rfl
 have l1:decide (c.Moves.length+([(⟨c.Today,x.ID,kind,branch,who⟩:Move)]:List Move).length≤LIM)=true:=a1u (by simp;omega);unfold qa5 b0t;simp -zeta only[yal,yak,yaa,d8,hx,f4u,p9];generalize p8 x.Custody ⟨c.Today,x.ID,kind,branch,who⟩=q;obtain ⟨u,e⟩:=q;dsimp only;cases hb:(e==0&&decide (2000≤(c.Moves.length:Int))) with
 |true=>
  simp only[yac,qr,yal]
  try rfl
 |false=>
  simp only[yaa];cases he:e==0 with
  |true=>
   have:e=0:=by simpa using he
   subst this;simp only[yak,yaa,yac,hc1,hc2,d8,hx,yaB,l1]
   try rfl
  |false=>
   simp only[yar,yac,yaa,qr,yal]
def c8h {c:Circ} {i:Nat} {m:Move} {u:Custody} (hs:Short c):b9 b0x ((i:Int),0,c,y6,m,u,[],())=some (c,y6,m,b6n (i:Int) (a04 u) 0 c.Items,()):=by
 have h:=t6 (step:=b0x) (λ(k:Nat) (s:List Item)=>s.length≤k) (λk s=>((i:Int),(k:Int),c,y6,m,u,s,())) c.Items
  (λk x s=>.inl (s++[bif (k:Int)==(i:Int) then a04 u x else x])) (λs=>(c,y6,m,s,())) (by rw[n9];have:=hs.items;omega)
  (λs _=>by simp only[b0x,dge,yaa])
  (λk x s hx hi=>by
   have hlt:=(zL hx)
   have:=hs.items;have l1:∀y:Item,decide (s.length+([y]:List Item).length≤LIM)=true:=λy=>a1u (by simp;omega)
   refine ⟨?_,λs' hs'=>?_⟩
   ·simp only[b0x,dlt hlt,d8,hx,yac,l1,wS k];cases (k:Int)==(i:Int)<;>rfl
   ·cases hs'
    simp;omega) [] (by simp)
 rw[e3w]at h;exact h
def e2x {c:Circ} {item:Int} {i:Nat} {x:Item} {kind branch who:Int} (hs:Short c) (hm:c.Moves.length<100000000) (hat:qgm c item=some (i:Int)) (hx:c.Items[i]?=some x) (hid:x.ID=item) :
 qe5 c item kind branch who=some (bif b0t c (p8 x.Custody ⟨c.Today,x.ID,kind,branch,who⟩).2==0 then (z8 c i x ⟨c.Today,x.ID,kind,branch,who⟩ (p8 x.Custody ⟨c.Today,x.ID,kind,branch,who⟩).1,0) else (y6,b0t c (p8 x.Custody ⟨c.Today,x.ID,kind,branch,who⟩).2)):=by
 subst hid;unfold qe5 b0t;rw[hat];simp only[d8,hx,f5a];generalize p8 x.Custody ⟨c.Today,x.ID,kind,branch,who⟩=q;obtain ⟨u,e⟩:=q;simp only;cases he:e==0 with
 |false=>simp only[yar,yac,ybw,yaa,he];rfl
 |true=>
  have:e=0:=by simpa using he
  subst this;simp only[yak,yaa,ya8];cases decide (2000≤(c.Moves.length:Int)) with
  |true=>rfl
  |false=>
   have hw:=c8h (i:=i) (m:=⟨c.Today,x.ID,kind,branch,who⟩) (u:=u) hs;have l1:decide (c.Moves.length≤LIM)=true:=by rw[yad];unfold LIM;omega
   have l2:decide (c.Moves.length+([(⟨c.Today,x.ID,kind,branch,who⟩:Move)]:List Move).length≤LIM)=true:=a1u (by simp;omega);have es:=e5u (upd:=a04 u) (l:=c.Items) (k:=0) (j:=i) hx;rw[yaI]at es;rw[es]at hw;simp only[yaa];rw[show b9 b0x ((i:Int),0,c,ZN,(⟨c.Today,x.ID,kind,branch,who⟩:Move),u,([]:List Item),())=_ from hw];simp only[l1,l2,yac]
   try rfl
end
section
def h2o {l:List Loan} {p:Int} (hl:l.length<1000000000):qgo l p=some (l.filter (λx=>x.Patron==p)):=by
 have h:=t6 (step:=c5b) (λ(i:Nat) (s:List Loan)=>s.length≤i) (λi s=>(l,p,(i:Int),s,())) l
  (λi y s=>.inl (bif y.Patron==p then s++[y] else s)) (λs=>(s,())) (by rw[n9];omega)
  (λs _=>by simp only[c5b,dge,yaa])
  (λi y s hx hi=>by
   have hlt:=(zL hx)
   have l1:decide (s.length+([y]:List Loan).length≤LIM)=true:=a1u (by simp;omega);refine ⟨?_,λs' hs'=>?_⟩
   ·simp only[c5b,dlt hlt,d8,hx,yac,l1,wS i];cases y.Patron==p<;>rfl
   ·cases hs'
    cases y.Patron==p<;>simp<;>omega) [] (by simp)
 rw[a0f]at h;unfold qgo;rw[show b9 c5b (l,p,0,[],())=_ from h,a5a,yaU]
def b4m {branch:Int} {vlocal:Bool} {x:Item}:∀{q:List Hold} {f:Int},a7t branch vlocal x q f=f∨∃h∈q,a7t branch vlocal x q f=h.ID:=by
 intro q
 induction q with
 |nil=>intro f;exact .inl rfl
 |cons h q ih=>
  intro f;have lift:∀g:Int,(a7t branch vlocal x q g=g∨∃o∈q,a7t branch vlocal x q g=o.ID)→(g=f∨g=h.ID)→(a7t branch vlocal x q g=f∨∃o∈h::q,a7t branch vlocal x q g=o.ID):=by
   intro g hg hgf;rcases hg with hg|⟨o,ho,hg⟩
   ·rcases hgf with e|e
    ·exact .inl (by rw[hg,e])
    ·exact .inr ⟨h,yaK ..,by rw[hg,e]⟩
   ·exact .inr ⟨o,yaN _ ho,hg⟩
  simp only[a7t,c4g];cases (!(h.Item==0)&&!(h.Item==x.ID)) with
  |true=>exact lift f ih (.inl rfl)
  |false=>
   cases (vlocal&&h.Pickup==branch) with
   |true=>exact .inr ⟨h,yaK ..,rfl⟩
   |false=>
    cases f==0 with
    |true=>exact lift h.ID ih (.inr rfl)
    |false=>exact lift f ih (.inl rfl)
def e0b {c:Circ} (h:FitP c) {x:Item} {branch day:Int} {vlocal:Bool} {v:Int} (hv:v=a7t branch vlocal x (o5 (c.Holds.filter (a0d x.Record day))) 0):(c2r c.Holds v).2=!(v==0):=by
 rcases b4m (branch:=branch) (vlocal:=vlocal) (x:=x) (q:=o5 (c.Holds.filter (a0d x.Record day))) (f:=0) with e|⟨o,ho,e⟩
 ·rw[e]at hv;subst hv;unfold c2r;have:c.Holds.find? (λh=>h.ID==0)=none:=by
   rw[ybF];intro o ho;have:=(a6k h ho).2;simpa using this
  rw[this]
  try rfl
 ·rw[e]at hv;subst hv;have hm:=(yaE.1 (a3v ho)).1;rw[a6x (a0h h.holds) hm];have:=(a6k h hm).2;simp[this]
end
section
def c0n {c:Circ} (hm:MidW c) (h:FitP c) {item patron branch:Int} {i:Nat} {x:Item} {p:Patron} (hat:qgm c item=some (i:Int)) (hx:c.Items[i]?=some x) (hp:a3e c.Patrons patron=(p,true)) :
 ∃a b,qdg c x p branch=some (a,b)∧qel c item patron branch=some (a,b):=by
 have hs:=hm.short;have hxm:=yag hx;have hpi:=(e8n hp).2;have hb:=b0l h hxm;have hpk:=e22 (l:=c.Holds) (x:=x) (branch:=x.Custody.Branch) (day:=c.Today) (vlocal:=c.Local) (by have:=hm.holds;omega) (a0h h.holds);have hpk2:=g21 (x:=x) (branch:=x.Custody.Branch) (day:=c.Today) (vlocal:=c.Local) hm h;rw[hpk]at hpk2;have hget:=e0b h (x:=x) (branch:=x.Custody.Branch) (day:=c.Today) (vlocal:=c.Local) rfl;generalize a7t x.Custody.Branch c.Local x (o5 (c.Holds.filter (a0d x.Record c.Today))) 0=v at hpk hpk2 hget;have e1:qcs c x=some v:=by unfold qcs;rw[hpk2]
 have e2:qfw c item=some v:=by unfold qfw;rw[hat];simp only[d8,hx,hpk]
 obtain ⟨r,b,hr,hrm⟩:=b5g (p:=patron) (x:=x) hs;unfold qdg qel;rw[hat];simp -zeta only[a5w hs.patrons,hp,d8,hx,e1,e2,f4w hs.holds,b8e hs.holds,f4s hs h.charges,f4z hs h.charges,hpi,c0v hs,hr,f4k hs.loans,h2o hs.loans,a4f,a0s,p9];dsimp only;simp only[yak,Bool.or_self,yaa];cases (!(x.Custody.State==3)&&!(x.Custody.State==5)) with
 |true=>exact ⟨_,_,rfl,rfl⟩
 |false=>
  cases hbr:x.Custody.Branch==branch with
  |false=>exact ⟨_,_,rfl,rfl⟩
  |true=>
   have hbr2:branch=x.Custody.Branch:=(by simpa using hbr:x.Custody.Branch=branch).symm;subst hbr2;simp only[yaa,yak];cases (x.Custody.State==5&&!(x.Custody.Who==patron)) with
   |true=>exact ⟨_,_,rfl,rfl⟩
   |false=>
    simp only[yaa];have tail:∃a b2,(bif decide (0<((a42 p c.Today (a8s patron c.Charges) (c0c patron c.Today c.Loans)).length:Int)) then (some (0,14):Option (Int×Int)) else
     bif !b then some (0,15) else bif decide (r.Loans≤((c.Loans.filter (λx=>x.Patron==patron)).length:Int)) then some (0,15) else qgk r (e6d c x.Custody.Branch) c.Today p.Until)=some (a,b2):=by
     obtain ⟨a,b2,hq⟩:=b9v (r:=r) (a8v h x.Custody.Branch) c.Today p.Until;rw[hq];exact a1q ⟨_,_,rfl⟩ (a1q ⟨_,_,rfl⟩ (a1q ⟨_,_,rfl⟩ ⟨_,_,rfl⟩))
    have tl:∀rr:Rule,∀bb:Bool,(bb=true→rr∈c.Rules)→(bif (!bb||decide (rr.Loans≤((c.Loans.filter (λx=>x.Patron==patron)).length:Int))) then (some (0,15):Option (Int×Int)) else qgk rr (e6d c x.Custody.Branch) c.Today p.Until)=(bif (!bb||decide (rr.Loans≤((c.Loans.filter (λx=>x.Patron==patron)).length:Int))) then some (0,15) else qdi rr (e6d c x.Custody.Branch) c.Today p.Until):=λrr bb hh=>by
     cases bb with
     |false=>rfl
     |true=>rw[c8f (a8v h _) (c0x h (hh rfl))]
    obtain ⟨a,b2,ht⟩:=tail;cases hb0:decide (0<((a42 p c.Today (a8s patron c.Charges) (c0c patron c.Today c.Loans)).length:Int)) with
    |true=>
     simp only[yac];cases x.Custody.State==3 with
     |false=>exact ⟨_,_,rfl,rfl⟩
     |true=>
      generalize c2r c.Holds v=gh at hget ⊢;obtain ⟨o,ok⟩:=gh;simp only at hget;subst hget;cases v==0<;>cases o.Patron==patron<;>exact ⟨_,_,rfl,rfl⟩
    |false=>
     rw[hb0]at ht;simp only[yaa]at ht ⊢;have key:∀(bb:Bool),bb=b→∃a b2,(match (some (r,bb):Option (Rule×Bool)) with
      |some (r14,r15)=>(bif (!r15||decide (r14.Loans≤((c.Loans.filter (λx=>x.Patron==patron)).length:Int))) then (some (0,15):Option (Int×Int)) else match qbt c x.Custody.Branch with
       |some r20=>(match qdi r14 r20 c.Today p.Until with|some (r22,r23)=>some (r22,r23)|none=>none)
       |none=>none)
      |none=>none)=some (a,b2)∧(match (some (r,bb):Option (Rule×Bool)) with
      |some (r14,r15)=>(bif (!r15||decide (r14.Loans≤((c.Loans.filter (λx=>x.Patron==patron)).length:Int))) then (some (0,15):Option (Int×Int)) else match qt c x.Custody.Branch with
       |some r20=>(match qgk r14 r20 c.Today p.Until with|some (r22,r23)=>some (r22,r23)|none=>none)
       |none=>none)
      |none=>none)=some (a,b2):=by
      intro bb hbb;subst hbb;simp only[c4l hb,e3d hb];cases bb with
      |false=>exact ⟨_,_,rfl,rfl⟩
      |true=>
       rw[c8f (a8v h _) (c0x h (hrm rfl))];obtain ⟨a,b2,hq⟩:=b9v (r:=r) (a8v h x.Custody.Branch) c.Today p.Until;rw[hq];cases decide (r.Loans≤((c.Loans.filter (λx=>x.Patron==patron)).length:Int))<;>exact ⟨_,_,rfl,rfl⟩
     obtain ⟨a,b2,k1,k2⟩:=key b rfl;cases x.Custody.State==3 with
     |false=>exact ⟨a,b2,k1,k2⟩
     |true=>
      generalize c2r c.Holds v=gh at hget ⊢;obtain ⟨o,ok⟩:=gh;simp only at hget;subst hget;cases v==0 with
      |true=>exact ⟨a,b2,k1,k2⟩
      |false=>
       cases o.Patron==patron with
       |true=>exact ⟨a,b2,k1,k2⟩
       |false=>exact ⟨_,_,rfl,rfl⟩
end
section
def b3z (patron:Int) (x:Item) (h:Hold):Bool:=h.Patron==patron&&h.State==1&&g0y h x
def h1g (h:Hold) (v:Int) (x:Item):qci h v x=some (b3z v x h):=by
 unfold qci b3z;simp -zeta only[h1j,a0s,p9]
 try rfl
def e8t:List Hold→Hold→Hold
 | [],h=>h
 |x::l,_=>e8t l x
def c7s (patron:Int) (x:Item) (l:List Hold) (h:Hold):Bool×Hold:=match l.find? (b3z patron x) with|some o=>(true,o)|none=>(false,e8t l h)
def b5a {c v:Circ} {patron due:Int} {x:Item} (hl:c.Holds.length<1000000):∀(k i:Nat) (h:Hold),i+k=c.Holds.length→
 o7 a2p (k+2) (patron,due,false,(i:Int),c,v,x,h,())=some (due,(c7s patron x (c.Holds.drop i) h).1,c,v,(c7s patron x (c.Holds.drop i) h).2,()):=by
 intro k
 induction k with
 |zero=>
  intro i h hi;have:i=c.Holds.length:=by omega
  subst this;rw[List.drop_length];simp only[o7,a2p,dge,yaa,c7s,List.find?_nil,e8t]
 |succ k ih=>
  intro i h hi;have hlt:i<c.Holds.length:=by omega
  have hx:c.Holds[i]?=some c.Holds[i]:=yab hlt;rw[yby hlt];have st:a2p (patron,due,false,(i:Int),c,v,x,h,())=some (.inl (patron,due,b3z patron x c.Holds[i],((i+1:Nat):Int),c,v,x,c.Holds[i],())):=by
   simp -zeta only[a2p,dlt hlt,d8,hx,yac,yar,f5e,p9,wS i]
   try rfl
  rw[o7,st];simp only;cases hq:b3z patron x c.Holds[i]with
  |true=>
   simp only[c7s,List.find?_cons,hq];rw[o7];simp only[a2p];cases decide (((i+1:Nat):Int)<(c.Holds.length:Int))<;>rfl
  |false=>
   rw[ih (i+1) c.Holds[i] (by omega)];simp only[c7s,List.find?_cons,hq,e8t]
end
section
def b56 (c:Circ) (l:List Loan) (e e0:Int) (h0:e0≠0):qb2 l e ⟨c,e0⟩=some ((),⟨i7 c c.Loans,e0⟩):=by
 have h:(e0==0)=false:=by simpa using h0
 unfold qb2 qr;simp only[h,yaa];cases !(e==0)<;>simp only[yac,yaa,h]<;>rfl
def a9j (c:Circ) (id e0:Int) (h0:e0≠0):qdv id ⟨c,e0⟩=some ((),⟨c,e0⟩):=by
 have h:(e0==0)=false:=by simpa using h0
 unfold qdv;simp only[h,yaa]
def c2j {c:Circ} {id:Int} (hl:c.Holds.length<100000000) (hsort:∀i x,c.Holds[i]?=some x→u7 c.Holds i (λy=>decide (x.ID≤y.ID))=false) :
 qdv id ⟨c,0⟩=some ((),bif (a2m c.Holds id).2.2==0 then ⟨t8 c (a2m c.Holds id).1,0⟩ else ⟨t8 c c.Holds,(a2m c.Holds id).2.2⟩):=by
 unfold qdv;simp only[yal,yac,h1q hl hsort];generalize a2m c.Holds id=q;obtain ⟨l,o,e⟩:=q;simp only;by_cases he:e=0
 ·subst he;rw[b9t]
  try rfl
 ·have h:(e==0)=false:=by simpa using he
  rw[a59 c l e he,h]
  try rfl
def a78 (c:Circ) (n e0:Int) (h0:e0≠0):qbi n ⟨c,e0⟩=some ((y6,0,e0),⟨c,e0⟩):=by
 have h:(e0==0)=false:=by simpa using h0
 unfold qbi;simp only[h,yar,yac]
 try rfl
def c67 (c:Circ) (n:Int):qbi n ⟨c,0⟩=some ((c,n,0),⟨c,0⟩):=rfl
end
section
def f0h {l:List Loan} {n:Loan} (hl:l.length<100000000):(e6h l n).1.length<1000000000:=by
 unfold e6h;cases decide (0≤a66 (λx=>x.Item==n.Item) l) with
 |true=>simp
 |false=>
  simp only[yaa];cases (!(o4 (b1d (λx=>decide (n.Item<x.Item)) n l)==0)) with
  |true=>simp
  |false=>simp only[yaa];rw[a8y];omega
def c6o {l:List Hold} {id:Int} (hl:l.length<1000000000):(a2m l id).1.length<1000000000:=by
 unfold a2m;cases l.find? (λh=>h.ID==id) with
 |none=>simp
 |some h=>simp only;have:=yaX (λx:Hold=>!(x.ID==id)) l;omega
def b4b {c:Circ} {i:Nat} {x:Item} {m:Move} {u:Custody} (hs:Short c) (hm:c.Moves.length<100000000) (hx:c.Items[i]?=some x):Short (z8 c i x m u):=by
 obtain ⟨h1,h2,h3,h4,h5,h6,h7,h8,h9,h10,h11,h12,h13⟩:=hs;refine ⟨?_,h2,h3,h4,h5,h6,?_,λz hz=>?_,h9,h10,h11,h12,h13⟩
 ·show (c.Items.set i _).length<_
  rw[List.length_set];exact h1
 ·show (c.Moves++[m]).length<_
  simp;omega
 ·rcases List.mem_or_eq_of_mem_set hz with h|h
  ·exact h8 z h
  ·rw[h];exact h8 x (yag hx)
def a7g {c:Circ} {l:List Hold} (hs:Short c) (hl:l.length<1000000000):Short (t8 c l):=by
 obtain ⟨h1,h2,h3,h4,h5,h6,h7,h8,h9,h10,h11,h12,h13⟩:=hs;exact ⟨h1,h2,h3,hl,h5,h6,h7,h8,h9,h10,h11,h12,h13⟩
end
end Go.Proofs.YtnajckeiaobmkabGreatDoor
