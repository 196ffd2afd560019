/- InventorySettles: a part of the proof of the given statement, which is proved without conditions. -/
import Derived.Test.YteaknldbhmocpaaGreatDoorT5
import Derived.KernelRfl
set_option linter.all false
namespace Go.Proofs.YteaknldbhmocpaaGreatDoor
open Ev
open Go (IntKind)
section
theorem b2g (lo hi n:Int):(!(rng lo hi n))=(decide (n<lo)||decide (hi<n)):=by
 unfold rng;by_cases h1:n<lo
 ·have:¬lo≤n:=by omega
  simp[h1,this]
 ·have:lo≤n:=by omega
  by_cases h2:hi<n
  ·have:¬n≤hi:=by omega
   simp[*]
  ·have:n≤hi:=by omega
   simp[*]
theorem g0h {X:Type} (p:X→Bool) (l:List X):decide (a7b p l<0)=!(l.any p):=by
 unfold a7b
 induction l with
 |nil=>rfl
 |cons y l ih=>
  simp only[ybV,List.any_cons];cases hp:p y with
  |true=>rfl
  |false=>
   simp only[yaF,ybk,ybu];rw[←ih];cases l.findIdx? p with
   |none=>rfl
   |some k=>simp only[ybF];rw[decide_eq_decide];omega
theorem d66 {X:Type} (p:X→Bool) (l:List X):decide (0≤a7b p l)=l.any p:=by
 have h:=g0h p l;cases hb:l.any p with
 |true=>rw[hb]at h;simp at h ⊢;omega
 |false=>rw[hb]at h;simp at h ⊢;omega
theorem g2p {γ:Type} {p:γ→Int→Option Bool} {g:γ} (q:Int→Bool) {l:List Int} (hl:l.length<1000000000) (hp:∀x∈l,p g x=some (q x)):qaw p l g=some (a7b q l):=by
 have h:=t7 (step:=b5z p) (fun i=>(l,g,(l.length:Int),(i:Int),())) l q (fun i _=>(.inr ((i:Int),()):(Unit)⊕(Int×Unit))) (.inl ()) hl
  (by simp only[b5z,dge,yaa])
  (fun i x hx=>by
   have hi:=(zL hx)
   simp only[b5z,dlt hi,d8,hx,yac,hp x (yaf hx),g9 (show i<9223372036854775807 by omega)])
 unfold qaw;rw[show c4 (b5z p) (l,g,(l.length:Int),0,())=_ from h];have e:=a0z (p:=q) (g:=fun i _=>(.inr ((i:Int),()):(Unit)⊕(Int×Unit))) (d:=.inl ()) (fun r:(Unit)⊕(Int×Unit)=>match r with | .inl (_)=>(-1:Int) | .inr (v,_)=>v) (l:=l) (i:=0);dsimp only at e;rw[←a2c,←e];generalize a2t q (fun i _=>(.inr ((i:Int),()):(Unit)⊕(Int×Unit))) (.inl ()) 0 l=r;rcases r with _|⟨v,_⟩<;>rfl
theorem g2s {γ:Type} {p:γ→Int→Option Bool} {g:γ} (q:Int→Bool) {l:List Int} (hl:l.length<1000000000) (hp:∀x∈l,p g x=some (q x)):qd3 p l g=some (l.any q):=by
 unfold qd3;rw[g2p q hl hp];dsimp only;rw[d66]
theorem g2o {γ:Type} {p:γ→Loan→Option Bool} {g:γ} (q:Loan→Bool) {l:List Loan} (hl:l.length<1000000000) (hp:∀x∈l,p g x=some (q x)):qav p l g=some (a7b q l):=by
 have h:=t7 (step:=b5y p) (fun i=>(l,g,(l.length:Int),(i:Int),())) l q (fun i _=>(.inr ((i:Int),()):(Unit)⊕(Int×Unit))) (.inl ()) hl
  (by simp only[b5y,dge,yaa])
  (fun i x hx=>by
   have hi:=(zL hx)
   simp only[b5y,dlt hi,d8,hx,yac,hp x (yaf hx),g9 (show i<9223372036854775807 by omega)])
 unfold qav;rw[show c4 (b5y p) (l,g,(l.length:Int),0,())=_ from h];have e:=a0z (p:=q) (g:=fun i _=>(.inr ((i:Int),()):(Unit)⊕(Int×Unit))) (d:=.inl ()) (fun r:(Unit)⊕(Int×Unit)=>match r with | .inl (_)=>(-1:Int) | .inr (v,_)=>v) (l:=l) (i:=0);dsimp only at e;rw[←a2c,←e];generalize a2t q (fun i _=>(.inr ((i:Int),()):(Unit)⊕(Int×Unit))) (.inl ()) 0 l=r;rcases r with _|⟨v,_⟩<;>rfl
theorem h0z {γ:Type} {p:γ→Item→Option Bool} {g:γ} (q:Item→Bool) {l:List Item} (hl:l.length<1000000000) (hp:∀x∈l,p g x=some (q x)):qj p l g=some (a7b q l):=by
 have h:=t7 (step:=b3a p) (fun i=>(l,g,(l.length:Int),(i:Int),())) l q (fun i _=>(.inr ((i:Int),()):(Unit)⊕(Int×Unit))) (.inl ()) hl
  (by simp only[b3a,dge,yaa])
  (fun i x hx=>by
   have hi:=(zL hx)
   simp only[b3a,dlt hi,d8,hx,yac,hp x (yaf hx),g9 (show i<9223372036854775807 by omega)])
 unfold qj;rw[show c4 (b3a p) (l,g,(l.length:Int),0,())=_ from h];have e:=a0z (p:=q) (g:=fun i _=>(.inr ((i:Int),()):(Unit)⊕(Int×Unit))) (d:=.inl ()) (fun r:(Unit)⊕(Int×Unit)=>match r with | .inl (_)=>(-1:Int) | .inr (v,_)=>v) (l:=l) (i:=0);dsimp only at e;rw[←a2c,←e];generalize a2t q (fun i _=>(.inr ((i:Int),()):(Unit)⊕(Int×Unit))) (.inl ()) 0 l=r;rcases r with _|⟨v,_⟩<;>rfl
theorem c2m {γ:Type} {p:γ→Hold→Option Bool} {g:γ} (q:Hold→Bool) {l:List Hold} (hl:l.length<1000000000) (hp:∀x∈l,p g x=some (q x)):qc p l g=some (a7b q l):=by
 have h:=t7 (step:=b8f p) (fun i=>(l,g,(l.length:Int),(i:Int),())) l q (fun i _=>(.inr ((i:Int),()):(Unit)⊕(Int×Unit))) (.inl ()) hl
  (by simp only[b8f,dge,yaa])
  (fun i x hx=>by
   have hi:=(zL hx)
   simp only[b8f,dlt hi,d8,hx,yac,hp x (yaf hx),g9 (show i<9223372036854775807 by omega)])
 unfold qc;rw[show c4 (b8f p) (l,g,(l.length:Int),0,())=_ from h];have e:=a0z (p:=q) (g:=fun i _=>(.inr ((i:Int),()):(Unit)⊕(Int×Unit))) (d:=.inl ()) (fun r:(Unit)⊕(Int×Unit)=>match r with | .inl (_)=>(-1:Int) | .inr (v,_)=>v) (l:=l) (i:=0);dsimp only at e;rw[←a2c,←e];generalize a2t q (fun i _=>(.inr ((i:Int),()):(Unit)⊕(Int×Unit))) (.inl ()) 0 l=r;rcases r with _|⟨v,_⟩<;>rfl
theorem g2u {γ:Type} {p:γ→Hold→Option Bool} {g:γ} (q:Hold→Bool) {l:List Hold} (hl:l.length<1000000000) (hp:∀x∈l,p g x=some (q x)):qeg p l g=some (l.any q):=by
 unfold qeg;rw[c2m q hl hp];dsimp only;rw[d66]
theorem h0r (n lo hi:Int):qeb n lo hi=some (rng lo hi n):=by
 unfold qeb;simp -zeta only[a06,s8]
 try rfl
theorem h0m (n:Int):qdh n=some (rng 0 109572 n):=by
 unfold qdh;simp -zeta only[a06,s8]
 try rfl
theorem h0k (n:Int):qd8 n=some (rng 1 9999 n):=by
 unfold qd8;simp -zeta only[a06,s8]
 try rfl
theorem d90 (n:Int):qcm n=some (rng 0 109572 n):=by
 unfold qcm;simp -zeta only[a06,s8]
 try rfl
def a2z (x:Charge):Int:=
 bif decide (x.ID<1)||decide (99999<x.ID)||decide (x.Patron<1)||decide (9999<x.Patron)||decide (x.Item<1)||decide (9999<x.Item)||!(rng 0 109572 x.Day) then 2
 else bif decide (x.Kind<1)||decide (3<x.Kind) then 1
 else bif decide (x.Amount<1)||decide (100000000<x.Amount)||decide (x.Paid<0)||decide (x.Amount≤x.Paid) then 2 else 0
theorem f3r (x:Charge):qby x=some (a2z x):=by
 unfold qby a2z;simp -zeta only[a06,s8,h0m,h0k,b2g 1 9999,Bool.or_assoc];dsimp only;simp only[a2n,Bool.or_assoc]
theorem c0g {α β:Type} (a:α) (g:Int→β) (e:Int):(bif !(e==0) then some (.inr (g e)) else some (.inl a):Option (α⊕β))=a7h a g e:=by
 unfold a7h;cases e==0<;>rfl
theorem b05 (l:List Charge) (i:Nat) (x:Charge):a0y l i x=bif t8 l i (fun y=>decide (x.ID≤y.ID)) then 7 else a2z x:=rfl
theorem d2s {l:List Charge} (hl:l.length<1000000000):c4 b2r (l,l,(l.length:Int),0,())=some (if a0k (a0y l) 0 l==0 then .inl () else .inr (a0k (a0y l) 0 l,())):=by
 have h:=a35 (step:=b2r) (fun i=>(l,l,(l.length:Int),(i:Int),())) l (a0y l) (.inl ()) (fun e=>.inr (e,())) hl
  (by simp only[b2r,dge,yaa])
  (fun i x hx=>by
   have hi:=(zL hx)
   have hxm:=yaf hx;rw[b05,a24,←c0g _ _ (a2z x)];rcases i with _|j
   ·simp -zeta only[b2r,dlt hi,d8,hx,a06,s8,c4o,yaa,yac,t8,g9 (show 0<9223372036854775807 by omega),f3r]
    try rfl
   ·have hj:l[j]?=some l[j]:=yab (by omega);simp -zeta only[b2r,dlt hi,d8,hx,a06,s8,g0c,a5v (show j<1000000000 by omega),hj,yaa,yac,t8,g9 (show j+1<9223372036854775807 by omega),f3r];rfl)
 exact h
theorem h0d {l:List Charge} (hl:l.length<1000000000):qbh l=some (o1 l):=by
 unfold qbh o1;rw[d2s hl];generalize a0k (a0y l) 0 l=e;cases decide (128<(l.length:Int)) with
 |true=>rfl
 |false=>
  by_cases h:e=0
  ·subst h;rfl
  ·have h2:(e==0)=false:=by simpa using h
   simp only[h2,yaF,ybk,yaa]
theorem a5k (l:List Hold) (i:Nat) (x:Hold):a1m l i x=bif t8 l i (fun y=>decide (x.ID≤y.ID)) then 7 else o3 x:=by
 unfold a1m;congr 1;cases h:o3 x==0 with
 |true=>simp at h;simp[h]
 |false=>simp
theorem d4i {X:Type} (q:X→Bool) (l:List X):l.any q=!(l.all (fun y=>!(q y))):=by
 induction l with
 |nil=>rfl
 |cons y l ih=>simp only[List.any_cons,yb2];rw[ih];cases q y<;>rfl
theorem e0c {c:Calendar} (hl:c.Closed.length<1000000000):c4 c5w (c.Closed,(c.Closed.length:Int),0,c,())=some (bif e3i c.Closed then .inl () else .inr (7,())):=by
 have h:=m8 (step:=c5w) (fun i=>(c.Closed,(c.Closed.length:Int),(i:Int),c,())) c.Closed (fun i x=>!(t8 c.Closed i (fun y=>decide (x≤y)))) (.inr (7,())) (.inl ()) hl
  (by simp only[c5w,dge,yaa])
  (fun i x hx=>by
   have hi:=(zL hx)
   rcases i with _|j
   ·simp -zeta only[c5w,dlt hi,d8,hx,s8,c4o,yaa,yac,t8,g9 (show 0<9223372036854775807 by omega)]
    try rfl
   ·have hj:c.Closed[j]?=some c.Closed[j]:=yab (by omega);simp -zeta only[c5w,dlt hi,d8,hx,g0c,yac,a5v (show j<1000000000 by omega),hj,t8,g9 (show j+1<9223372036854775807 by omega)];dsimp only;cases decide (x≤c.Closed[j])<;>rfl)
 exact h
theorem h3i {c:Calendar} (hl:c.Closed.length<1000000000):qu c=some (a04 c):=by
 unfold qu a04;simp -zeta only[a06];dsimp only;rw[e0c hl,g2s (fun x=>decide (x<0)||decide (109572<x)) hl (fun x _=>by
  unfold qcj;rw[d90];dsimp only;rw[b2g]),d4i]
 have e:decide (127≤c.Week)=decide (126<c.Week):=by rw[decide_eq_decide];omega
 rw[e];cases (decide (c.Week<0)||decide (126<c.Week)) with
 |true=>rfl
 |false=>
  cases decide (64<(c.Closed.length:Int)) with
  |true=>rfl
  |false=>
   cases c.Closed.all (fun x=>!(decide (x<0)||decide (109572<x))) with
   |false=>rfl
   |true=>
    simp only[yaa,yac];cases e3i c.Closed<;>rfl
end
section
theorem f3p (n lo hi:Int):qbt n lo hi=some (rng lo hi n):=by
 unfold qbt;simp -zeta only[a06,s8]
 try rfl
theorem w6 {lo hi n:Int}:rng lo hi n=true↔lo≤n∧n≤hi:=by
 unfold rng;simp only[yad,yae]
theorem b1o {n:Int} (h:rng 1 12 n=true):n=1∨n=2∨n=3∨n=4∨n=5∨n=6∨n=7∨n=8∨n=9∨n=10∨n=11∨n=12:=by
 have:=w6.1 h;omega
theorem a4a {n:Int} (h:rng 1 15 n=true):n=1∨n=2∨n=3∨n=4∨n=5∨n=6∨n=7∨n=8∨n=9∨n=10∨n=11∨n=12∨n=13∨n=14∨n=15:=by
 have:=w6.1 h;omega
theorem h0t {s k:Int} (hs:rng 1 12 s=true) (hk:rng 1 15 k=true):qej s k=some (a5x s k):=by
 rcases b1o hs with h|h|h|h|h|h|h|h|h|h|h|h<;>subst h<;>
  rcases a4a hk with h|h|h|h|h|h|h|h|h|h|h|h|h|h|h<;>subst h<;>rfl
theorem h0u (c:Custody):qel c=some (a7s c):=by
 unfold qel a7s g2v;simp -zeta only[a06,s8,a86,f3p,b2g];dsimp only;cases hb:(decide (c.State<1)||decide (12<c.State)||(decide (c.Branch<1)||decide (4<c.Branch))) with
 |true=>
  have:(decide (c.State<1)||decide (12<c.State)||decide (c.Branch<1)||decide (4<c.Branch))=true:=by rw[←hb,Bool.or_assoc _ _ (decide (4<c.Branch))]
  rw[this];rfl
 |false=>
  have:(decide (c.State<1)||decide (12<c.State)||decide (c.Branch<1)||decide (4<c.Branch))=false:=by rw[←hb,Bool.or_assoc _ _ (decide (4<c.Branch))]
  rw[this];have hr:rng 1 12 c.State=true:=by
   simp only[yal,yag]at hb;rw[w6];omega
  unfold rng;simp only[yaa];generalize decide (0≤c.Who)=a1;generalize decide (c.Who≤9999)=a2;generalize decide (1≤c.Who)=a3;generalize decide (1≤c.To)=a4;generalize decide (c.To≤4)=a5;generalize (c.To==0)=a6;generalize (c.To==c.Branch)=a7;generalize (c.Who==0)=a8;rcases b1o hr with h|h|h|h|h|h|h|h|h|h|h|h<;>rw[h]<;>revert a1 a2 a3 a4 a5 a6 a7 a8<;>decide
theorem f3t (c:Custody) (ok:Bool):qca c ok=some (bif ok then (c,0) else (⟨0,0,0,0⟩,1)):=by
 cases ok<;>rfl
theorem h0w (c:Custody) (m:Move):qep c m=some (bif !(m.Branch==c.Branch) then (⟨6,c.Branch,m.Who,m.Branch⟩,0) else (⟨0,0,0,0⟩,1)):=by
 unfold qep;rw[f3t]
theorem h0v (c:Custody) (m:Move):qem c m=some (o0 c m):=by
 unfold qem o0;simp -zeta only[a06,s8,a86,f3p,h0u];dsimp only;have hw:(!(rng 0 109572 m.Day)||!(rng 1 9999 m.Item)||!(rng 1 15 m.Kind)||!(rng 1 4 m.Branch)||!(rng 0 9999 m.Who))=!(a7t m):=by
  unfold a7t rng;simp only[Bool.not_and,Bool.or_assoc]
 rw[show (!(a7s c)||!(rng 0 109572 m.Day)||!(rng 1 9999 m.Item)||!(rng 1 15 m.Kind)||!(rng 1 4 m.Branch)||!(rng 0 9999 m.Who))=(!(a7s c)||!(a7t m)) by rw[←hw];simp only[Bool.or_assoc]];cases hb:(!(a7s c)||!(a7t m)) with
 |true=>rfl
 |false=>
  simp only[yal,yaL]at hb;obtain ⟨h1,h2⟩:=hb;rw[h2,yam]at hw;simp only[yal,yaL]at hw;obtain ⟨⟨⟨⟨w1,w2⟩,w3⟩,w4⟩,w5⟩:=hw;have hs:rng 1 12 c.State=true:=by
   unfold a7s at h1;rw[w6];cases hq:(decide (c.State<1)||decide (12<c.State)||decide (c.Branch<1)||decide (4<c.Branch)) with
   |true=>rw[hq]at h1;cases h1
   |false=>simp only[yal,yag]at hq;omega
  rw[h0t hs w3];simp only[yaa];cases ha:a5x c.State m.Kind with
  |false=>rfl
  |true=>
   simp only[yam,yaa];have h0:=(w6.1 w5).1;unfold b8g w9;simp only[f3t,h0w];generalize (c.State==5)=g5;generalize (m.Who==c.Who)=g7;generalize (m.Branch==c.To)=g6;by_cases hw0:m.Who=0
   ·have e2:decide (1≤m.Who)=false:=by rw[yag];omega
    rw[e2];simp only[hw0];by_cases hb:m.Branch=c.Branch
    ·simp only[hb,yai];rcases a4a w3 with h|h|h|h|h|h|h|h|h|h|h|h|h|h|h<;>
      (simp only[h];cases g5<;>cases g6<;>cases g7<;>rfl)
    ·have e3:(m.Branch==c.Branch)=false:=by simpa using hb
     simp only[e3];rcases a4a w3 with h|h|h|h|h|h|h|h|h|h|h|h|h|h|h<;>
      (simp only[h];cases g5<;>cases g6<;>cases g7<;>rfl)
   ·have e2:decide (1≤m.Who)=true:=by rw[yae];omega
    have e1:(m.Who==0)=false:=by simpa using hw0
    rw[e2];simp only[e1];by_cases hb:m.Branch=c.Branch
    ·simp only[hb,yai];rcases a4a w3 with h|h|h|h|h|h|h|h|h|h|h|h|h|h|h<;>
      (simp only[h];cases g5<;>cases g6<;>cases g7<;>rfl)
    ·have e3:(m.Branch==c.Branch)=false:=by simpa using hb
     simp only[e3];rcases a4a w3 with h|h|h|h|h|h|h|h|h|h|h|h|h|h|h<;>
      (simp only[h];cases g5<;>cases g6<;>cases g7<;>rfl)
end
section
theorem g99 {c:Circ} {item:Int} (hl:c.Items.length<1000000000):qb0 c item=some (a7b (fun x=>x.ID==item) c.Items):=by
 unfold qb0;rw[h0z (fun x=>x.ID==item) hl (fun x _=>rfl)]
theorem a9t {c:Circ} {item:Int} (hl:c.Holds.length<1000000000):qa8 c item=some (o7 c item):=by
 unfold qa8 o7;rw[c2m (p:=fun (g:Unit×Int×Unit) x0=>qb4 x0 g.2.1) (g:=((),(item,()))) (fun x=>x.Got==item) hl (fun x _=>rfl)];rcases o8 (fun x:Hold=>x.Got==item) c.Holds with ⟨h1,h2⟩|⟨i,x,h1,h2,h3,h4⟩
 ·simp only[h1,h2,b69,yac]
  try rfl
 ·simp only[h1,h4,a52,yaa,d8,h2]
def a01 (x:Item):Bool:=rng 1 9999 x.ID&&rng 1 9999 x.Record&&rng 1 4 x.Branch&&rng 1 9 x.Kind&&rng 0 100000000 x.Price&&decide ((x.Call.length:Int)≤200)&&vld x.Call
def a07 (c:Circ) (x:Item):Bool:=!(!((a0q x.Branch c.Moves x.ID).2.2==0)||!(a0j (a0q x.Branch c.Moves x.ID).1 x.Custody))
def c49 (c:Circ):Bool:=c.Moves.all (fun m=>(c.Items.find? (fun x=>x.ID==m.Item)).isSome)
def a1j (c:Circ):Bool:=!(decide (64<(c.Items.length:Int))||decide (2000<(c.Moves.length:Int)))&&(a2s (fun i x=>!(!(a01 x)||t8 c.Items i (fun y=>decide (x.ID≤y.ID)))) 0 c.Items&&(c49 c&&c.Items.all (a07 c)))
end
section
theorem a1v {X:Type} {key:X→Int} {l:List X} (h:∀i x,l[i]?=some x→t8 l i (fun y=>decide (key x≤key y))=false):∀(j i:Nat) (x y:X),i<j→l[i]?=some x→l[j]?=some y→key x<key y:=by
 intro j
 induction j with
 |zero=>intro i x y hi;omega
 |succ j ih=>
  intro i x y hi hx hy;have hj:=(zL hy)
  have hz:l[j]?=some l[j]:=yab (by omega);have:=h _ _ hy;simp only[t8,hz,yag]at this;by_cases e:i=j
  ·subst e;rw[hz]at hx;cases hx;omega
  ·have:=ih i x l[j] (by omega) hx hz;omega
theorem a4d {X:Type} {key:X→Int} {l:List X} (h:∀i x,l[i]?=some x→t8 l i (fun y=>decide (key x≤key y))=false) {x:X} (hx:x∈l):l.find? (fun y=>key y==key x)=some x:=by
 rcases o8 (fun y=>key y==key x) l with ⟨h1,h2⟩|⟨i,y,h1,h2,h3,h4⟩
 ·rw[ybr]at h2;exact absurd (yai _) (h2 x hx)
 ·rw[h4];obtain ⟨j,hj⟩:=yaI hx;have e:key y=key x:=by simpa using h3
  by_cases hij:i=j
  ·subst hij;rw[h2]at hj;exact hj
  ·rcases Nat.lt_or_gt_of_ne hij with hlt|hlt
   ·have:=a1v h _ _ _ _ hlt h2 hj;omega
   ·have:=a1v h _ _ _ _ hlt hj h2;omega
theorem b1n {X:Type} {f:Nat→X→Int}:∀{l:List X} {k:Nat},a0k f k l=0→∀i x,l[i]?=some x→f (k+i) x=0:=by
 intro l
 induction l with
 |nil=>intro k _ i x hx;simp at hx
 |cons y l ih=>
  intro k h i x hx;unfold a0k at h;by_cases e:f k y=0
  ·rw[e]at h;simp only[yai,ybB]at h;cases i with
   |zero=>simp at hx;subst hx;exact e
   |succ i=>have:=ih h i x (by simpa using hx);rwa [show k+(i+1)=k+1+i by omega]
  ·have:(f k y==0)=false:=by simpa using e
   rw[this]at h;exact absurd h e
theorem a0g {b:Bool} {n m:Int} (h:(bif b then n else m)=0) (hn:n≠0):b=false:=by
 cases b with
 |false=>rfl
 |true=>exact absurd h hn
theorem a8i {l:List Hold} (h:a0c l=0):a0k (a1m l) 0 l=0:=by
 unfold a0c at h;rw[a0g h (by decide)]at h;simp only[yaa]at h;by_cases e:a0k (a1m l) 0 l=0
 ·exact e
 ·have h2:(a0k (a1m l) 0 l==0)=false:=by simpa using e
  rw[h2]at h;exact h
theorem a2d {l:List Hold} (h:a0c l=0):∀i x,l[i]?=some x→t8 l i (fun y=>decide (x.ID≤y.ID))=false:=by
 intro i x hx;have:=b1n (k:=0) (a8i h) i x hx;rw[yaH,a5k]at this;exact a0g this (by decide)
theorem a1h {l:List Hold} (h:a0c l=0) {x:Hold} (hx:x∈l):o3 x=0:=by
 obtain ⟨i,hi⟩:=yaI hx;have:=b1n (k:=0) (a8i h) i x hi;rw[yaH,a5k]at this;rw[a0g this (by decide)]at this;exact this
theorem d1m {x:Hold} (h:o3 x=0):x.State=1∨x.State=2∨x.State=3:=by
 unfold o3 at h;rw[a0g h (by decide)]at h;simp only[yaa]at h;have:=a0g h (by decide);simp only[yal,yag]at this;omega
theorem a1a {a b:Custody}:a0j a b=true↔a=b:=by
 obtain ⟨a1,a2,a3,a4⟩:=a;obtain ⟨b1,b2,b3,b4⟩:=b;unfold a0j;simp[yad]
 try (constructor<;>(intro h;simp_all))
end
section
theorem c41 (c:Circ) (i:Nat) (x:Item):a3z c i x=(!(!(a01 x)||t8 c.Items i (fun y=>decide (x.ID≤y.ID)))&&a07 c x):=by
 unfold a3z a07 a01;rw[Bool.eq_iff_iff];simp only[yad,yas,yal,yag,yaL,w6,yae];constructor
 ·rintro ⟨⟨h1,h2⟩,h3⟩;obtain ⟨⟨⟨⟨⟨⟨a1,a2⟩,a3⟩,a4⟩,a5⟩,a6⟩,a7⟩:=h1;obtain ⟨⟨⟨⟨⟨b1,b2⟩,b3⟩,b4⟩,b5⟩,b6⟩:=h2;refine ⟨⟨⟨⟨⟨⟨⟨⟨⟨?_,?_⟩,⟨?_,?_⟩⟩,⟨?_,?_⟩⟩,⟨?_,?_⟩⟩,⟨?_,?_⟩⟩,?_⟩,b6⟩,a3⟩,h3⟩<;>omega
 ·rintro ⟨⟨h1,a3⟩,h3⟩;obtain ⟨⟨⟨⟨⟨⟨⟨a1,a2⟩,⟨a4,a5⟩⟩,⟨a6,a7⟩⟩,⟨a8,a9⟩⟩,⟨b1,b2⟩⟩,b3⟩,b4⟩:=h1;refine ⟨⟨⟨⟨⟨⟨⟨⟨?_,?_⟩,a3⟩,?_⟩,?_⟩,?_⟩,?_⟩,⟨⟨⟨⟨⟨?_,?_⟩,?_⟩,?_⟩,?_⟩,b4⟩⟩,h3⟩<;>omega
theorem a9q (c:Circ):a48 c=a1j c:=by
 have key:a2s (a3z c) 0 c.Items=(a2s (fun i x=>!(!(a01 x)||t8 c.Items i (fun y=>decide (x.ID≤y.ID)))) 0 c.Items&&c.Items.all (a07 c)):=by
  have gen:∀(l:List Item) (k:Nat),a2s (a3z c) k l=(a2s (fun i x=>!(!(a01 x)||t8 c.Items i (fun y=>decide (x.ID≤y.ID)))) k l&&l.all (a07 c)):=by
   intro l
   induction l with
   |nil=>intro k;rfl
   |cons x l ih=>
    intro k;simp only[a2s,yb2];rw[ih,c41];generalize (!(!(a01 x)||t8 c.Items k (fun y=>decide (x.ID≤y.ID))))=b1;generalize a2s (fun i x=>!(!(a01 x)||t8 c.Items i (fun y=>decide (x.ID≤y.ID)))) (k+1) l=b2;cases b1<;>cases b2<;>cases a07 c x<;>cases l.all (a07 c)<;>rfl
  exact gen _ _
 unfold a48 a1j c49;rw[key];generalize (!(decide (64<(c.Items.length:Int))||decide (2000<(c.Moves.length:Int))))=b1;generalize a2s (fun i x=>!(!(a01 x)||t8 c.Items i (fun y=>decide (x.ID≤y.ID)))) 0 c.Items=b2;generalize c.Moves.all (fun m=>(c.Items.find? (fun x=>x.ID==m.Item)).isSome)=b3;cases b1<;>cases b2<;>cases b3<;>cases c.Items.all (a07 c)<;>rfl
theorem a2e {c:Circ} (h:a1j c=true):∀i x,c.Items[i]?=some x→t8 c.Items i (fun y=>decide (x.ID≤y.ID))=false:=by
 intro i x hx;unfold a1j at h;simp only[yad]at h;have:=(a4z.1 h.2.1) i x hx;rw[yaH]at this;simp only[yas,yal]at this;exact this.2
theorem a6l {c:Circ} (h:a1j c=true) {x:Item} (hx:x∈c.Items):a07 c x=true:=by
 unfold a1j at h;simp only[yad,yak]at h;exact h.2.2.2 x hx
end
section
theorem a2i {X:Type} (l:List X):l.all (fun _=>true)=true:=by rw[yak];intros;rfl
theorem y4 (x:Custody):a0j x x=true:=by simp[a0j]
theorem b7f (x:Item):b7e x x=true:=by simp[b7e,y4]
theorem b1m (x:Patron):a83 x x=true:=by simp[a83,y4]
theorem b7h (x:Loan):b7g x x=true:=by simp[b7g,y4]
theorem b7d (x:Hold):b7c x x=true:=by simp[b7c,y4]
theorem b1l (x:Charge):a82 x x=true:=by simp[a82,y4]
theorem b7l (x:Rule):b7k x x=true:=by simp[b7k,y4]
theorem b7j (x:Move):b7i x x=true:=by simp[b7i,y4]
theorem d2t {c:Circ} (hs:Short c):c4 c5n (0,c,c,())=some (.inl (c,c,())):=by
 have h:=m8 (step:=c5n) (fun i=>((i:Int),c,c,())) c.Items (fun _ _=>true) (.inr (false,())) (.inl (c,c,())) hs.items
  (by simp only[c5n,dge,yaa])
  (fun i x hx=>by
   have hi:=(zL hx)
   have:=hs.items;simp only[c5n,dlt hi,d8,hx,yac,b7f,yam,yaa,g9 (show i<9223372036854775807 by omega)])
 rw[show c4 c5n (0,c,c,())=_ from h,o9];rw[a2i];rfl
theorem c5h {c:Circ} (hs:Short c):c4 b2x (0,c,c,())=some (.inl (c,c,())):=by
 have h:=m8 (step:=b2x) (fun i=>((i:Int),c,c,())) c.Patrons (fun _ _=>true) (.inr (false,())) (.inl (c,c,())) hs.patrons
  (by simp only[b2x,dge,yaa])
  (fun i x hx=>by
   have hi:=(zL hx)
   have:=hs.patrons;simp only[b2x,dlt hi,d8,hx,yac,b1m,yam,yaa,g9 (show i<9223372036854775807 by omega)])
 rw[show c4 b2x (0,c,c,())=_ from h,o9];rw[a2i];rfl
theorem c5i {c:Circ} (hs:Short c):c4 b2y (0,c,c,())=some (.inl (c,c,())):=by
 have h:=m8 (step:=b2y) (fun i=>((i:Int),c,c,())) c.Loans (fun _ _=>true) (.inr (false,())) (.inl (c,c,())) hs.loans
  (by simp only[b2y,dge,yaa])
  (fun i x hx=>by
   have hi:=(zL hx)
   have:=hs.loans;simp only[b2y,dlt hi,d8,hx,yac,b7h,yam,yaa,g9 (show i<9223372036854775807 by omega)])
 rw[show c4 b2y (0,c,c,())=_ from h,o9];rw[a2i];rfl
theorem c5j {c:Circ} (hs:Short c):c4 b2z (0,c,c,())=some (.inl (c,c,())):=by
 have h:=m8 (step:=b2z) (fun i=>((i:Int),c,c,())) c.Holds (fun _ _=>true) (.inr (false,())) (.inl (c,c,())) hs.holds
  (by simp only[b2z,dge,yaa])
  (fun i x hx=>by
   have hi:=(zL hx)
   have:=hs.holds;simp only[b2z,dlt hi,d8,hx,yac,b7d,yam,yaa,g9 (show i<9223372036854775807 by omega)])
 rw[show c4 b2z (0,c,c,())=_ from h,o9];rw[a2i];rfl
theorem c5k {c:Circ} (hs:Short c):c4 b22 (0,c,c,())=some (.inl (c,c,())):=by
 have h:=m8 (step:=b22) (fun i=>((i:Int),c,c,())) c.Charges (fun _ _=>true) (.inr (false,())) (.inl (c,c,())) hs.charges
  (by simp only[b22,dge,yaa])
  (fun i x hx=>by
   have hi:=(zL hx)
   have:=hs.charges;simp only[b22,dlt hi,d8,hx,yac,b1l,yam,yaa,g9 (show i<9223372036854775807 by omega)])
 rw[show c4 b22 (0,c,c,())=_ from h,o9];rw[a2i];rfl
theorem c5l {c:Circ} (hs:Short c):c4 b23 (0,c,c,())=some (.inl (c,c,())):=by
 have h:=m8 (step:=b23) (fun i=>((i:Int),c,c,())) c.Rules (fun _ _=>true) (.inr (false,())) (.inl (c,c,())) hs.rules
  (by simp only[b23,dge,yaa])
  (fun i x hx=>by
   have hi:=(zL hx)
   have:=hs.rules;simp only[b23,dlt hi,d8,hx,yac,b7l,yam,yaa,g9 (show i<9223372036854775807 by omega)])
 rw[show c4 b23 (0,c,c,())=_ from h,o9];rw[a2i];rfl
theorem c5m {c:Circ} (hs:Short c):c4 b25 (0,c,c,())=some (.inl (c,c,())):=by
 have h:=m8 (step:=b25) (fun i=>((i:Int),c,c,())) c.Moves (fun _ _=>true) (.inr (false,())) (.inl (c,c,())) hs.moves
  (by simp only[b25,dge,yaa])
  (fun i x hx=>by
   have hi:=(zL hx)
   have:=hs.moves;simp only[b25,dlt hi,d8,hx,yac,b7j,yam,yaa,g9 (show i<9223372036854775807 by omega)])
 rw[show c4 b25 (0,c,c,())=_ from h,o9];rw[a2i];rfl
theorem c5s {c:Circ} (hs:Short c):c4 a4h (0,0,c,c,())=some (.inl (0,c,c,())):=by
 have st:∀k:Int,a4h (0,k,c,c,())=(bif decide (k<(c.Cals.x0.Closed.length:Int)) then (match m9 c.Cals.x0.Closed k with|some x=>(match m9 c.Cals.x0.Closed k with|some y=>(bif !(x==y) then some (.inr (.inr (false,()))) else some (.inl (0,wr .i64 (k+1),c,c,())))|none=>none)|none=>none) else some (.inr (.inl (0,c,c,())))):=fun k=>rfl
 have h:=m8 (step:=a4h) (fun k=>(0,(k:Int),c,c,())) c.Cals.x0.Closed (fun _ _=>true) (.inr (false,())) (.inl (0,c,c,())) hs.cal0
  (by rw[st];simp only[dge,yaa])
  (fun k x hx=>by
   have hi:=(zL hx)
   have:=hs.cal0;rw[st];simp only[dlt hi,d8,hx,yac,yai,yam,yaa,g9 (show k<9223372036854775807 by omega)])
 rw[show c4 a4h (0,0,c,c,())=_ from h,o9];rw[a2i];rfl
theorem e8w {c:Circ} (hs:Short c):b0b (0,c,c,())=some (.inl (1,c,c,())):=by
 have st:b0b (0,c,c,())=(bif !(c.Cals.x0.Week==c.Cals.x0.Week) then some (.inr (.inr (false,()))) else bif !((c.Cals.x0.Closed.length:Int)==(c.Cals.x0.Closed.length:Int)) then some (.inr (.inr (false,()))) else
  match c4 a4h (0,0,c,c,()) with
  |some (.inl (i,a,b,_))=>some (.inl (wr .i64 (i+1),a,b,()))
  |some (.inr (v,_))=>some (.inr (.inr (v,())))
  |none=>none):=by
  show (bif !(c.Cals.x0.Week==c.Cals.x0.Week) then _ else _)=_
  cases (!(c.Cals.x0.Week==c.Cals.x0.Week))<;>rfl
 rw[st,c5s hs];simp only[yai,yam,yaa]
 try rfl
theorem c5t {c:Circ} (hs:Short c):c4 a4h (1,0,c,c,())=some (.inl (1,c,c,())):=by
 have st:∀k:Int,a4h (1,k,c,c,())=(bif decide (k<(c.Cals.x1.Closed.length:Int)) then (match m9 c.Cals.x1.Closed k with|some x=>(match m9 c.Cals.x1.Closed k with|some y=>(bif !(x==y) then some (.inr (.inr (false,()))) else some (.inl (1,wr .i64 (k+1),c,c,())))|none=>none)|none=>none) else some (.inr (.inl (1,c,c,())))):=fun k=>rfl
 have h:=m8 (step:=a4h) (fun k=>(1,(k:Int),c,c,())) c.Cals.x1.Closed (fun _ _=>true) (.inr (false,())) (.inl (1,c,c,())) hs.cal1
  (by rw[st];simp only[dge,yaa])
  (fun k x hx=>by
   have hi:=(zL hx)
   have:=hs.cal1;rw[st];simp only[dlt hi,d8,hx,yac,yai,yam,yaa,g9 (show k<9223372036854775807 by omega)])
 rw[show c4 a4h (1,0,c,c,())=_ from h,o9];rw[a2i];rfl
theorem e8x {c:Circ} (hs:Short c):b0b (1,c,c,())=some (.inl (2,c,c,())):=by
 have st:b0b (1,c,c,())=(bif !(c.Cals.x1.Week==c.Cals.x1.Week) then some (.inr (.inr (false,()))) else bif !((c.Cals.x1.Closed.length:Int)==(c.Cals.x1.Closed.length:Int)) then some (.inr (.inr (false,()))) else
  match c4 a4h (1,0,c,c,()) with
  |some (.inl (i,a,b,_))=>some (.inl (wr .i64 (i+1),a,b,()))
  |some (.inr (v,_))=>some (.inr (.inr (v,())))
  |none=>none):=by
  show (bif !(c.Cals.x1.Week==c.Cals.x1.Week) then _ else _)=_
  cases (!(c.Cals.x1.Week==c.Cals.x1.Week))<;>rfl
 rw[st,c5t hs];simp only[yai,yam,yaa]
 try rfl
theorem c5u {c:Circ} (hs:Short c):c4 a4h (2,0,c,c,())=some (.inl (2,c,c,())):=by
 have st:∀k:Int,a4h (2,k,c,c,())=(bif decide (k<(c.Cals.x2.Closed.length:Int)) then (match m9 c.Cals.x2.Closed k with|some x=>(match m9 c.Cals.x2.Closed k with|some y=>(bif !(x==y) then some (.inr (.inr (false,()))) else some (.inl (2,wr .i64 (k+1),c,c,())))|none=>none)|none=>none) else some (.inr (.inl (2,c,c,())))):=fun k=>rfl
 have h:=m8 (step:=a4h) (fun k=>(2,(k:Int),c,c,())) c.Cals.x2.Closed (fun _ _=>true) (.inr (false,())) (.inl (2,c,c,())) hs.cal2
  (by rw[st];simp only[dge,yaa])
  (fun k x hx=>by
   have hi:=(zL hx)
   have:=hs.cal2;rw[st];simp only[dlt hi,d8,hx,yac,yai,yam,yaa,g9 (show k<9223372036854775807 by omega)])
 rw[show c4 a4h (2,0,c,c,())=_ from h,o9];rw[a2i];rfl
theorem e8y {c:Circ} (hs:Short c):b0b (2,c,c,())=some (.inl (3,c,c,())):=by
 have st:b0b (2,c,c,())=(bif !(c.Cals.x2.Week==c.Cals.x2.Week) then some (.inr (.inr (false,()))) else bif !((c.Cals.x2.Closed.length:Int)==(c.Cals.x2.Closed.length:Int)) then some (.inr (.inr (false,()))) else
  match c4 a4h (2,0,c,c,()) with
  |some (.inl (i,a,b,_))=>some (.inl (wr .i64 (i+1),a,b,()))
  |some (.inr (v,_))=>some (.inr (.inr (v,())))
  |none=>none):=by
  show (bif !(c.Cals.x2.Week==c.Cals.x2.Week) then _ else _)=_
  cases (!(c.Cals.x2.Week==c.Cals.x2.Week))<;>rfl
 rw[st,c5u hs];simp only[yai,yam,yaa]
 try rfl
theorem c5v {c:Circ} (hs:Short c):c4 a4h (3,0,c,c,())=some (.inl (3,c,c,())):=by
 have st:∀k:Int,a4h (3,k,c,c,())=(bif decide (k<(c.Cals.x3.Closed.length:Int)) then (match m9 c.Cals.x3.Closed k with|some x=>(match m9 c.Cals.x3.Closed k with|some y=>(bif !(x==y) then some (.inr (.inr (false,()))) else some (.inl (3,wr .i64 (k+1),c,c,())))|none=>none)|none=>none) else some (.inr (.inl (3,c,c,())))):=fun k=>rfl
 have h:=m8 (step:=a4h) (fun k=>(3,(k:Int),c,c,())) c.Cals.x3.Closed (fun _ _=>true) (.inr (false,())) (.inl (3,c,c,())) hs.cal3
  (by rw[st];simp only[dge,yaa])
  (fun k x hx=>by
   have hi:=(zL hx)
   have:=hs.cal3;rw[st];simp only[dlt hi,d8,hx,yac,yai,yam,yaa,g9 (show k<9223372036854775807 by omega)])
 rw[show c4 a4h (3,0,c,c,())=_ from h,o9];rw[a2i];rfl
theorem e8z {c:Circ} (hs:Short c):b0b (3,c,c,())=some (.inl (4,c,c,())):=by
 have st:b0b (3,c,c,())=(bif !(c.Cals.x3.Week==c.Cals.x3.Week) then some (.inr (.inr (false,()))) else bif !((c.Cals.x3.Closed.length:Int)==(c.Cals.x3.Closed.length:Int)) then some (.inr (.inr (false,()))) else
  match c4 a4h (3,0,c,c,()) with
  |some (.inl (i,a,b,_))=>some (.inl (wr .i64 (i+1),a,b,()))
  |some (.inr (v,_))=>some (.inr (.inr (v,())))
  |none=>none):=by
  show (bif !(c.Cals.x3.Week==c.Cals.x3.Week) then _ else _)=_
  cases (!(c.Cals.x3.Week==c.Cals.x3.Week))<;>rfl
 rw[st,c5v hs];simp only[yai,yam,yaa]
 try rfl
theorem g2x {c:Circ} (hs:Short c):qr c c=some true:=by
 have s4:b0b (4,c,c,())=some (.inr (.inl ())):=rfl;have h:c4 b0b (0,c,c,())=some (.inl ()):=by
  refine o6 5 (by rw[m5];omega) ?_;simp only[o4,e8w hs,e8x hs,e8y hs,e8z hs,s4]
 unfold qr;rw[h]
theorem g2t {c:Circ} (hs:Short c):qd c c=some true:=by
 unfold qd;simp -zeta only[a06,yai,yam,Bool.or_false];dsimp only;simp only[d2t hs,c5h hs,c5i hs,c5j hs,c5k hs,c5l hs,c5m hs,g2x hs,Bool.or_false,yaa]
end
section
theorem a4b {n m:Nat} (h:n+m≤1000000100):decide (n+m≤LIM)=true:=by rw[yae];unfold LIM;omega
theorem b0c {X:Type} {s:List X} (h:s.length<1000000000):decide (([]:List X).length+s.length≤LIM)=true:=a4b (by simp;omega)
def o5:Circ:=⟨0,[],[],[],[],[],[],⟨⟨0,[]⟩,⟨0,[]⟩,⟨0,[]⟩,⟨0,[]⟩⟩,[],0,0,false⟩
theorem a2f:Short o5:=by
 constructor<;>first|(show (0:Nat)<_;decide)|(intro x hx;cases hx)
end
section
def h3u (x:Charge):Prop:=0≤x.Paid∧x.Paid<x.Amount∧x.Amount≤100000000
theorem d08 {l:List Charge} (h:o1 l=0):l.length≤128∧∀x∈l,h3u x:=by
 unfold o1 at h;rw[Bool.cond_eq_ite]at h;split at h
 ·omega
 ·rename_i hlen;simp only[yae]at hlen;refine ⟨by omega,fun x hx=>?_⟩;obtain ⟨i,hi⟩:=yaI hx;have:=b4y.1 h i x hi;unfold a0y at this;simp only[Bool.cond_eq_ite]at this;split at this
  ·omega
  ·split at this
   ·omega
   ·split at this
    ·omega
    ·split at this
     ·omega
     ·rename_i h4;simp only[yba,yae,not_or]at h4;unfold h3u;omega
end
section
end
section
def a3c (r:Rule):Int:=(bif !(r.Patron==0) then 4 else 0)+((bif !(r.Item==0) then 2 else 0)+(bif !(r.Branch==0) then 1 else 0))
theorem h0i (r:Rule):qd0 r=some (a3c r):=by
 unfold qd0 a3c;cases r.Patron==0<;>cases r.Item==0<;>cases r.Branch==0<;>rfl
theorem g9w (r:Rule):qa2 r=some (a3c r):=by
 unfold qa2;have st:∀(a b c n:Int),(∀(m:Int),a9s (m,3,0,[a,b,c],())=some (.inl (bif !(a==0) then wr .i64 ((wr .i64 (m*2))+1) else wr .i64 (m*2),3,1,[a,b,c],())))∧
  (∀(m:Int),a9s (m,3,1,[a,b,c],())=some (.inl (bif !(b==0) then wr .i64 ((wr .i64 (m*2))+1) else wr .i64 (m*2),3,2,[a,b,c],())))∧
  (∀(m:Int),a9s (m,3,2,[a,b,c],())=some (.inl (bif !(c==0) then wr .i64 ((wr .i64 (m*2))+1) else wr .i64 (m*2),3,3,[a,b,c],()))):=fun a b c n=>
  ⟨fun m=>by show (bif !(a==0) then _ else _)=_;cases a==0<;>rfl,fun m=>by show (bif !(b==0) then _ else _)=_;cases b==0<;>rfl,fun m=>by show (bif !(c==0) then _ else _)=_;cases c==0<;>rfl⟩
 obtain ⟨s0,s1,s2⟩:=st r.Patron r.Item r.Branch 0;have s3:∀m:Int,a9s (m,3,3,[r.Patron,r.Item,r.Branch],())=some (.inr (m,())):=fun m=>rfl
 have h:c4 a9s (0,(([r.Patron,r.Item,r.Branch]).length:Int),0,[r.Patron,r.Item,r.Branch],())=some (a3c r,()):=by
  refine o6 4 (by rw[m5];omega) ?_;show o4 a9s 4 (0,3,0,[r.Patron,r.Item,r.Branch],())=_
  simp only[o4,s0,s1,s2,s3];unfold a3c;cases r.Patron==0<;>cases r.Item==0<;>cases r.Branch==0<;>rfl
 rw[h]
def b37 (r:Rule) (p i b:Int):Bool:=(r.Patron==0||r.Patron==p)&&(r.Item==0||r.Item==i)&&(r.Branch==0||r.Branch==b)
theorem f3z (r:Rule) (p i b:Int):qef r p i b=some (b37 r p i b):=by
 unfold qef b37;simp -zeta only[a06,s8]
 try rfl
theorem h0p (a b:Int):qdw a b=some (a==0||a==b):=by
 unfold qdw;cases a==0<;>rfl
theorem f3q (r:Rule) (p i b:Int):qbu r p i b=some (b37 r p i b):=by
 unfold qbu b37;simp -zeta only[h0p,a06,s8]
 try dsimp only
def wB (l:List Rule) (b:Int):Int:=match m9 l b with|some y=>a3c y|none=>0
def b9e (l:List Rule) (p it br:Int) (i:Nat) (x:Rule) (b:Int):Int:=bif b37 x p it br&&(decide (b<0)||decide (wB l b<a3c x)) then (i:Int) else b
def e36 (l:List Rule) (p it br:Int):Int:=a0w (fun i x b=>.inl (b9e l p it br i x b)) (fun b=>b) 0 l (-1)
def a56 (l:List Rule) (b:Int):Prop:=b<0∨∃k:Nat,b=(k:Int)∧k<l.length
theorem b9f {l:List Rule} {b:Int} (h:a56 l b) (hb:decide (b<0)=false):∃y,m9 l b=some y∧wB l b=a3c y:=by
 rcases h with h|⟨k,rfl,hk⟩
 ·rw[yag]at hb;omega
 ·have:m9 l (k:Int)=some l[k]:=by rw[d8,yab hk]
  exact ⟨_,this,by unfold wB;rw[this]⟩
theorem b0x {l:List Rule} {p it br:Int} {i:Nat} {x:Rule} {b:Int} (h:a56 l b) (hi:i<l.length):a56 l (b9e l p it br i x b):=by
 unfold b9e;cases b37 x p it br&&(decide (b<0)||decide (wB l b<a3c x)) with
 |true=>exact .inr ⟨i,rfl,hi⟩
 |false=>exact h
theorem c26 {X σ β γ:Type} {f:Nat→X→σ→σ} {g:σ→β} (k:β→γ):∀{l:List X} {i:Nat} {s:σ},k (a0w (fun i x s=>.inl (f i x s)) g i l s)=a0w (fun i x s=>.inl (f i x s)) (fun s=>k (g s)) i l s:=by
 intro l
 induction l with
 |nil=>intros;rfl
 |cons x l ih=>intro i s;simp only[a0w];exact ih
theorem g91 {l:List Rule} {p it br:Int} (hl:l.length<1000000000):qal l p it br=some (e36 l p it br):=by
 have h:=m0 (step:=b2o) (fun (i:Nat) (b:Int)=>a56 l b) (fun i b=>(l,p,it,br,b,l,(l.length:Int),(i:Int),())) l
  (fun i x b=>.inl (b9e l p it br i x b)) (fun b=>(b,())) (by rw[m5];omega)
  (fun b _=>by simp only[b2o,dge,yaa])
  (fun i x b hx hi=>by
   have hlt:=(zL hx)
   refine ⟨?_,fun s' hs'=>by cases hs';exact b0x hi hlt⟩;unfold b9e;cases hb:decide (b<0) with
   |true=>
    simp only[b2o,dlt hlt,d8,hx,yac,f3q,hb,g9 (show i<9223372036854775807 by omega)];cases b37 x p it br<;>rfl
   |false=>
    obtain ⟨y,h1,h2⟩:=b9f hi hb;simp only[b2o,dlt hlt,d8,hx,yac,yaa,f3q,g9w,h1,h2,hb,g9 (show i<9223372036854775807 by omega)];cases b37 x p it br<;>cases decide (a3c y<a3c x)<;>rfl) (-1) (.inl (by omega))
 unfold qal;rw[show c4 b2o (l,p,it,br,(-1),l,(l.length:Int),0,())=_ from h,←c26 (g:=fun b=>b) (fun b:Int=>(b,()))]
 try rfl
theorem f3m {l:List Rule} {p it br:Int} (hl:l.length<1000000000):qbi l p it br=some (e36 l p it br):=by
 have h:=m0 (step:=b2s) (fun (i:Nat) (b:Int)=>a56 l b) (fun i b=>(l,p,it,br,b,(i:Int),())) l
  (fun i x b=>.inl (b9e l p it br i x b)) (fun b=>(b,())) (by rw[m5];omega)
  (fun b _=>by simp only[b2s,dge,yaa])
  (fun i x b hx hi=>by
   have hlt:=(zL hx)
   refine ⟨?_,fun s' hs'=>by cases hs';exact b0x hi hlt⟩;unfold b9e;cases hb:decide (b<0) with
   |true=>
    simp only[b2s,dlt hlt,d8,hx,yac,f3z,hb,g9 (show i<9223372036854775807 by omega)];cases b37 x p it br<;>rfl
   |false=>
    obtain ⟨y,h1,h2⟩:=b9f hi hb;simp only[b2s,dlt hlt,d8,hx,yac,yaa,f3z,h0i,h1,h2,hb,g9 (show i<9223372036854775807 by omega)];cases b37 x p it br<;>cases decide (a3c y<a3c x)<;>rfl) (-1) (.inl (by omega))
 unfold qbi;rw[show c4 b2s (l,p,it,br,(-1),0,())=_ from h,←c26 (g:=fun b=>b) (fun b:Int=>(b,()))]
 try rfl
theorem g2r {l:List Rule} {p it br:Int} (hl:l.length<1000000000):qcr l p it br=qez l p it br:=by
 unfold qcr qez;rw[g91 hl,f3m hl]
 try rfl
theorem d92 {c:Circ} {p:Int} {x:Item} (hs:Short c):qct c p x=qd2 c p x:=by
 unfold qct qd2;rw[h0x hs.patrons,b2v hs.patrons];dsimp only;rw[g2r hs.rules]
 try rfl
def f5h (c:Circ) (b:Int):Calendar:=bif b==1 then c.Cals.x0 else bif b==2 then c.Cals.x1 else bif b==3 then c.Cals.x2 else c.Cals.x3
theorem b4z {n:Int} (h:rng 1 4 n=true):n=1∨n=2∨n=3∨n=4:=by
 have:=w6.1 h;omega
theorem g2w {c:Circ} {b:Int} (h:rng 1 4 b=true):qk c b=some (f5h c b):=by
 rcases b4z h with h|h|h|h<;>subst h<;>rfl
theorem d94 {c:Circ} {b:Int} (h:rng 1 4 b=true):qcx c b=some (f5h c b):=by
 rcases b4z h with h|h|h|h<;>subst h<;>rfl
end
section
def y9 (week:Int) (i:Nat):Bool:=(wr .i64 (BitVec.ofInt 64 (week.fdiv (2 ^ (min i 64))) &&& BitVec.ofInt 64 1).toNat)==0
theorem f3f (c:Calendar):qak c=some ⟨y9 c.Week 0,y9 c.Week 1,y9 c.Week 2,y9 c.Week 3,y9 c.Week 4,y9 c.Week 5,y9 c.Week 6⟩:=by
 have h:c4 d9u (0,c,(⟨false,false,false,false,false,false,false⟩:V7 Bool),(⟨false,false,false,false,false,false,false⟩:V7 Bool),())=some ((⟨false,false,false,false,false,false,false⟩:V7 Bool),(⟨y9 c.Week 0,y9 c.Week 1,y9 c.Week 2,y9 c.Week 3,y9 c.Week 4,y9 c.Week 5,y9 c.Week 6⟩:V7 Bool),()):=by
  refine o6 8 (by rw[m5];omega) ?_
  try rfl
 unfold qak;rw[h]
def f0b:Int→Nat→Int
 |n,0=>n
 |n,k+1=>f0b (wr .i64 (n.tdiv 2)) k
theorem e0b {day n:Int} {c:Calendar}:∀(k:Nat) (i:Nat) (n:Int),i+k<100→o4 d24 (k+1) (day,n,((i+k:Nat):Int),(i:Int),c,())=some (day,f0b n k,c,()):=by
 intro k
 induction k with
 |zero=>
  intro i n hi;have:decide ((i:Int)<((i+0:Nat):Int))=false:=by rw[yag];omega
  simp only[o4,d24,this,yaa,f0b]
 |succ k ih=>
  intro i n hi;have:decide ((i:Int)<((i+(k+1):Nat):Int))=true:=by rw[yae];omega
  rw[o4];simp only[d24,this,yac,g9 (show i<9223372036854775807 by omega),f0b];have:=ih (i+1) (wr .i64 (n.tdiv 2)) (by omega);rw[show i+1+k=i+(k+1) by omega]at this;exact this
theorem d3p:((List.range 127).all fun n=>(List.range 7).all fun w=>y9 (n:Int) w==!((f0b (n:Int) w).tmod 2==1))=true:=kr
theorem e27 {week:Int} {w:Nat} (h1:0≤week) (h2:week≤126) (hw:w<7):y9 week w=!((f0b week w).tmod 2==1):=by
 obtain ⟨n,rfl⟩:∃n:Nat,week=(n:Int):=⟨week.toNat,by omega⟩
 have h:=d3p;rw[yak]at h;have h3:=h n (ybS.2 (by omega));rw[yak]at h3;have h4:=h3 w (ybS.2 hw);simpa using h4
def lbS (t:Int) (l:List Int):Nat:=(l.takeWhile (fun x=>decide (x<t))).length
theorem h23 {t:Int} {l:List Int}:lbS t l≤l.length:=by
 unfold lbS;have:=(List.takeWhile_prefix (fun x=>decide (x<t)) (l:=l)).length_le;exact this
theorem c0u {t:Int}:∀{l:List Int} {k:Nat} {x:Int},k<lbS t l→l[k]?=some x→x<t:=by
 intro l
 induction l with
 |nil=>intro k x h;simp[lbS]at h
 |cons y l ih=>
  intro k x h hx;unfold lbS at h ih;rw[List.takeWhile_cons]at h;by_cases hy:y<t
  ·simp only[hy,decide_true,ybB,yaB]at h;cases k with
   |zero=>simp at hx;omega
   |succ k=>exact ih (k:=k) (by omega) (by simpa using hx)
  ·simp[hy]at h
theorem g9m {t:Int}:∀{l:List Int} {x:Int},l[lbS t l]?=some x→¬x<t:=by
 intro l
 induction l with
 |nil=>intro x h;simp[lbS]at h
 |cons y l ih=>
  intro x hx;unfold lbS at hx ih;rw[List.takeWhile_cons]at hx;by_cases hy:y<t
  ·simp only[hy,decide_true,ybB,yaB,yaN]at hx;exact ih hx
  ·simp[hy]at hx;omega
theorem f27 {t:Int} {l:List Int} (hsort:∀(j i:Nat) (x y:Int),i<j→l[i]?=some x→l[j]?=some y→x<y) {k:Nat} {x:Int} (hx:l[k]?=some x):decide (x<t)=decide (k<lbS t l):=by
 rw[decide_eq_decide];constructor
 ·intro h;by_cases hk:k<lbS t l
  ·exact hk
  ·exfalso;have hlt:lbS t l<l.length:=by have:=(zL hx);omega
   have hz:l[lbS t l]?=some l[lbS t l]:=yab hlt;have:=g9m hz;by_cases e:lbS t l=k
   ·subst e;rw[hz]at hx;cases hx;exact this h
   ·have:=hsort k (lbS t l) _ _ (by omega) hz hx;omega
 ·intro h;exact c0u h hx
theorem g9q {i j:Nat} (h:i+j<2000000000):wr .i64 ((wr .u64 (wr .i64 ((i:Int)+(j:Int)))).fdiv (2 ^ 1))=(((i+j) / 2:Nat):Int):=by
 rw[a0x (n:=(i:Int)+(j:Int)) (by omega) (by omega)];have:wr .u64 ((i:Int)+(j:Int))=(i:Int)+(j:Int):=by
  unfold wr;simp[IntKind.wrap,IntKind.bits,IntKind.signed];omega
 rw[this,Int.fdiv_eq_ediv_of_nonneg _ (by omega)];have e:((i:Int)+(j:Int)) / 2 ^ 1=(((i+j) / 2:Nat):Int):=by omega
 rw[e,a0x (by omega) (by omega)]
theorem h0l (x y:Int):qd9 x y=some (decide (x<y)):=by
 have e:∀z:Int,qd6 z=some false:=fun z=>by unfold qd6;simp
 unfold qd9;rw[e]
 try rfl
theorem d3c {l:List Int} {t:Int} (hl:l.length<1000000000) (hsort:∀(j i:Nat) (x y:Int),i<j→l[i]?=some x→l[j]?=some y→x<y) :
 c4 b5n (l,t,(l.length:Int),0,(l.length:Int),())=some (l,t,(l.length:Int),(lbS t l:Int),()):=by
 refine e28 (step:=b5n) (fun a=>∃i j:Nat,a=(l,t,(l.length:Int),(i:Int),(j:Int),())∧i≤lbS t l∧lbS t l≤j∧j≤l.length) (fun a=>(a.2.2.2.2.1-a.2.2.2.1).toNat) (fun _=>(l,t,(l.length:Int),(lbS t l:Int),())) ?_ ⟨0,l.length,rfl,by omega,h23,by omega⟩ (by rw[m5];show ((l.length:Int)-0).toNat<_;omega);rintro a ⟨i,j,rfl,h1,h2,h3⟩;by_cases hij:i<j
 ·left;have d:decide ((i:Int)<(j:Int))=true:=by rw[yae];omega
  have hm:(i+j) / 2<l.length:=by omega
  have hx:l[(i+j) / 2]?=some l[(i+j) / 2]:=yab hm;have hlb:=f27 (t:=t) hsort hx;simp only[b5n,d,yac,g9q (show i+j<2000000000 by omega),d8,hx,h0l,hlb];by_cases hk:(i+j) / 2<lbS t l
  ·rw[show decide ((i+j) / 2<lbS t l)=true by rw[yae];exact hk];simp only[yac,g9 (show (i+j) / 2<9223372036854775807 by omega)];exact ⟨_,rfl,⟨(i+j) / 2+1,j,rfl,by omega,h2,h3⟩,by simp only;omega,trivial⟩
  ·rw[show decide ((i+j) / 2<lbS t l)=false by rw[yag];exact hk];simp only[yaa];exact ⟨_,rfl,⟨i,(i+j) / 2,rfl,h1,by omega,by omega⟩,by simp only;omega,trivial⟩
 ·right;have d:decide ((i:Int)<(j:Int))=false:=by rw[yag];omega
  have hi:i=lbS t l:=by omega
  subst hi;simp only[b5n,d,yaa]
theorem e0t {l:List Int} {t:Int} (hl:l.length<1000000000) (hsort:∀(j i:Nat) (x y:Int),i<j→l[i]?=some x→l[j]?=some y→x<y) :
 qae l t=some ((lbS t l:Int),l.any (fun x=>x==t)):=by
 unfold qae;rw[d3c hl hsort];by_cases hk:lbS t l<l.length
 ·have d:decide ((lbS t l:Int)<(l.length:Int))=true:=by rw[yae];omega
  have hx:l[lbS t l]?=some l[lbS t l]:=yab hk;have hn:qds l[lbS t l]=some false:=by unfold qds;simp
  simp only[d,yac,d8,hx,hn,yaa];have e:(l[lbS t l]==t)=l.any (fun x=>x==t):=by
   rw[Bool.eq_iff_iff,List.any_eq_true];constructor
   ·intro h;exact ⟨_,ybv hk,h⟩
   ·rintro ⟨x,hm,he⟩;have he':x=t:=by simpa using he
    obtain ⟨i,hi⟩:=yaI hm;have h1:=f27 (t:=t) hsort hi;have h2:=g9m hx;rw[decide_eq_decide]at h1;by_cases e:i=lbS t l
    ·rw[e,hx]at hi;cases hi;exact he
    ·have:lbS t l<i:=by omega
     have:=hsort _ _ _ _ this hx hi;omega
  rw[←e];cases l[lbS t l]==t<;>rfl
 ·have d:decide ((lbS t l:Int)<(l.length:Int))=false:=by rw[yag];omega
  have e:l.any (fun x=>x==t)=false:=by
   rw[ybM];intro x hm he;have he':x=t:=by simpa using he
   obtain ⟨i,hi⟩:=yaI hm;have:=(zL hi)
   have:=c0u (t:=t) (show i<lbS t l by omega) hi;omega
  simp only[d,yaa,e]
end
section
theorem b1t {l:List Int} (h:e3i l=true):∀(j i:Nat) (x y:Int),i<j→l[i]?=some x→l[j]?=some y→x<y:=by
 have h2:∀i x,l[i]?=some x→t8 l i (fun y=>decide (x≤y))=false:=by
  intro i x hx;have:=(a4z.1 h) i x hx;rw[yaH]at this;simpa using this
 exact a1v (key:=fun x:Int=>x) h2
structure CalOk (c:Calendar):Prop where
 w1:0≤c.Week
 w2:c.Week≤126
 len:c.Closed.length<1000000000
 inc:e3i c.Closed=true
theorem e39 {c:Calendar} (h:(a04 c==0)=true):CalOk c:=by
 have h:a04 c=0:=by simpa using h
 unfold a04 at h;have h1:=a0g h (by decide);rw[h1]at h;simp only[yaa]at h;have h2:=a0g h (by decide);rw[h2]at h;simp only[yaa]at h;simp only[yal,yag]at h1 h2;cases h3:c.Closed.all (fun x=>!(decide (x<0)||decide (109572<x))) with
 |false=>rw[h3]at h;cases h
 |true=>
  rw[h3]at h;cases h4:e3i c.Closed with
  |false=>rw[h4]at h;cases h
  |true=>exact ⟨by omega,by omega,by omega,h4⟩
def a8r (c:Calendar) (d:Int):Bool:=rng 0 109572 d&&(!(c.Closed.any (fun x=>x==d))&&y9 c.Week (d.tmod 7).toNat)
theorem g54 {d:Int} (h:0≤d):0≤d.tmod 7∧d.tmod 7<7:=by
 rw[Int.tmod_eq_emod_of_nonneg h];omega
theorem f3u {c:Calendar} (hc:CalOk c) (d:Int):qcc c d=some (a8r c d):=by
 unfold qcc a8r;rw[d90];dsimp only;cases hr:rng 0 109572 d with
 |false=>rfl
 |true=>
  simp -zeta only[yam,yaa,yaQ];rw[e0t hc.len (b1t hc.inc)];dsimp only;cases c.Closed.any (fun x=>x==d) with
  |true=>rfl
  |false=>
   have hk:qcq d=some (d.tmod 7):=by
    have e:qet d=some (rng 0 109572 d):=by
     unfold qet;simp -zeta only[s8]
     try rfl
    unfold qcq;rw[e,hr]
    try rfl
   simp only[yap,yac,f3f,hk,yaQ];obtain ⟨h1,h2⟩:=g54 (w6.1 hr).1;generalize d.tmod 7=w at h1 h2;have:w=0∨w=1∨w=2∨w=3∨w=4∨w=5∨w=6:=by omega
   rcases this with h|h|h|h|h|h|h<;>subst h<;>rfl
theorem d23 {c:Calendar} {d:Int} (hl:c.Closed.length<1000000000):c4 b3d (d,0,c,())=some (bif c.Closed.all (fun x=>!(x==d)) then .inl () else .inr (false,())):=by
 have h:=m8 (step:=b3d) (fun i=>(d,(i:Int),c,())) c.Closed (fun _ x=>!(x==d)) (.inr (false,())) (.inl ()) hl
  (by simp only[b3d,dge,yaa])
  (fun i x hx=>by
   have hi:=(zL hx)
   simp only[b3d,dlt hi,d8,hx,yac,g9 (show i<9223372036854775807 by omega)];cases x==d<;>rfl)
 rw[show c4 b3d (d,0,c,())=_ from h,o9]
theorem g2y {c:Calendar} (hc:CalOk c) (d:Int):qt c d=some (a8r c d):=by
 unfold qt a8r;simp -zeta only[a06];dsimp only;rw[←b2g];cases hr:rng 0 109572 d with
 |false=>rfl
 |true=>
  have hk:qea d=some (d.tmod 7):=by
   have e:qe1 d=some (rng 0 109572 d):=by
    unfold qe1;simp -zeta only[s8]
    try rfl
   unfold qea;rw[e,hr]
   try rfl
  simp only[yam,yaa,yaQ,hk];obtain ⟨h1,h2⟩:=g54 (w6.1 hr).1;generalize d.tmod 7=w at h1 h2;obtain ⟨n,rfl⟩:∃n:Nat,w=(n:Int):=⟨w.toNat,by omega⟩
  have hn:n<7:=by omega
  have hw:c4 d24 (d,c.Week,(n:Int),0,c,())=some (d,f0b c.Week n,c,()):=by
   have:=e0b (day:=d) (n:=0) (c:=c) n 0 c.Week (by omega);rw[yaH]at this;exact o6 (n+1) (by rw[m5];omega) this
  simp only[hw,yaK,e27 hc.w1 hc.w2 hn,d23 hc.len];cases (f0b c.Week n).tmod 2==1 with
  |true=>simp
  |false=>
   simp only[yaa,yap,Bool.and_true,d4i,Bool.not_not];cases c.Closed.all (fun x=>!(x==d))<;>rfl
theorem c3i {α β:Type} {s1 s2:α→Option (α⊕β)} (Inv:α→Prop) (h:∀a,Inv a→s1 a=s2 a) (hi:∀a b,Inv a→s1 a=some (.inl b)→Inv b) {a:α} (ha:Inv a):c4 s1 a=c4 s2 a:=by
 have key:∀n a,Inv a→o4 s1 n a=o4 s2 n a:=by
  intro n
  induction n with
  |zero=>intro a _;rfl
  |succ n ih=>
   intro a ha;simp only[o4];rw[←h a ha];cases hs:s1 a with
   |none=>rfl
   |some x=>
    cases x with
    |inl b=>exact ih b (hi a b ha hs)
    |inr b=>rfl
 exact key b8z a ha
theorem d9r {c:Calendar} (hc:CalOk c) (d:Int):qa3 c d=qa6 c d:=by
 have h:∀d0:Int,c4 c2k (d0,c,())=c4 b5j (d0,c,()):=fun d0=>by
  refine c3i (fun a=>a.2.1=c) ?_ ?_ rfl
  ·rintro ⟨d,c',_⟩ (rfl:c'=c);simp only[c2k,b5j,f3u hc,g2y hc]
  ·rintro ⟨d,c',_⟩ b (rfl:c'=c) hb;simp only[c2k,f3u hc]at hb;cases hq:decide (d≤109572) with
   |false=>rw[hq]at hb;cases hb
   |true=>
    rw[hq]at hb;simp only[yac]at hb;cases ho:a8r c' d with
    |true=>rw[ho]at hb;cases hb
    |false=>rw[ho]at hb;cases hb;rfl
 unfold qa3 qa6;rw[h]
 try rfl
end
section
theorem d3q {α β:Type} {step:α→Option (α⊕β)} (Inv:α→Prop) (hi:∀a b,Inv a→step a=some (.inl b)→Inv b) {a:α} (ha:Inv a) {r:β} (h:c4 step a=some r):∃b,Inv b∧step b=some (.inr r):=by
 have key:∀n a,Inv a→o4 step n a=some r→∃b,Inv b∧step b=some (.inr r):=by
  intro n
  induction n with
  |zero=>intro a _ h;cases h
  |succ n ih=>
   intro a ha h;simp only[o4]at h;cases hs:step a with
   |none=>rw[hs]at h;cases h
   |some x=>
    rw[hs]at h;cases x with
    |inl b=>exact ih b (hi a b ha hs) h
    |inr b=>cases h;exact ⟨a,ha,hs⟩
 exact key b8z a ha h
end
section
theorem b7w {l:List Loan} {item:Int} (hl:l.length<1000000000):qdu (fun (g:Unit×Int×Unit) x0=>qb8 x0 g.2.1) l ((),(item,())) =
 some (match l.find? (fun n=>n.Item==item) with|some x=>(x,a7b (fun n=>n.Item==item) l)|none=>((⟨0,0,0,0,0,false⟩:Loan),-1)):=by
 unfold qdu;rw[g2o (p:=fun (g:Unit×Int×Unit) x0=>qb8 x0 g.2.1) (g:=((),(item,()))) (fun x=>x.Item==item) hl (fun x _=>rfl)];rcases o8 (fun x:Loan=>x.Item==item) l with ⟨h1,h2⟩|⟨i,x,h1,h2,h3,h4⟩
 ·simp only[h1,h2,b69,yac]
 ·simp only[h1,h4,a52,yaa,d8,h2]
def j8 (c:Circ) (l:List Loan):Circ:=⟨c.Today,c.Items,c.Patrons,l,c.Holds,c.Charges,c.Rules,c.Cals,c.Moves,c.NextHold,c.NextCharge,c.Local⟩
theorem b68 (c:Circ) (l:List Loan):qdv l 0 ⟨c,0⟩=some ((),⟨j8 c l,0⟩):=rfl
end
section
structure FitP (c:Circ):Prop where
 charges:o1 c.Charges=0
 loans:a2o c.Loans=0
 holds:a0c c.Holds=0
 rules:a5s c.Rules=0
 patrons:a34 c.Patrons=0
 cal0:CalOk c.Cals.x0
 cal1:CalOk c.Cals.x1
 cal2:CalOk c.Cals.x2
 cal3:CalOk c.Cals.x3
 items:a1j c=true
 loanG:∀n∈c.Loans,a5o c n=true
 itemG:∀x∈c.Items,(b1p c.Loans x.ID).2=a2h x.Custody
 holdG:∀h∈c.Holds,a3y c h=true
 readyG:∀x∈c.Items,a4c c x=true
 nums:a4p c=true
theorem h3v {c:Circ} (h:a5c c=true):FitP c:=by
 unfold a5c at h;rw[a9q]at h;simp only[yad]at h;obtain ⟨h1,h2,h3,h4,h5,h6,h7⟩:=h;unfold a8o at h2;simp only[yas,yal,yaL,ybb]at h2;unfold a5h at h3;simp only[yad]at h3;unfold a49 at h6;unfold a47 at h7;simp only[yad,yak,ybb]at h6 h7;exact ⟨h2.1.2,h2.1.1.1.2,h2.1.1.2,h2.2,h2.1.1.1.1,e39 h3.1,e39 h3.2.1,e39 h3.2.2.1,e39 h3.2.2.2,h5,h6.1,h6.2,h7.1,h7.2,h1⟩
theorem f5i {c:Circ} (h:FitP c) (b:Int):CalOk (f5h c b):=by
 unfold f5h;cases b==1 with
 |true=>exact h.cal0
 |false=>
  cases b==2 with
  |true=>exact h.cal1
  |false=>
   cases b==3 with
   |true=>exact h.cal2
   |false=>exact h.cal3
theorem g21 {c:Circ} (h:FitP c) {r:Rule} (hr:r∈c.Rules):a9x r=true:=by
 have h:=h.rules;unfold a5s at h;rw[a0g h (by decide)]at h;obtain ⟨i,hi⟩:=yaI hr;have:=b1n (k:=0) h i r hi;rw[yaH]at this;unfold a7u at this;have:=a0g this (by decide);simpa using this
def a5g (c:Custody):Prop:=rng 1 4 c.Branch=true
theorem c2x {c:Custody} (h:a7s c=true):a5g c:=by
 unfold a7s at h;unfold a5g;cases hq:(decide (c.State<1)||decide (12<c.State)||decide (c.Branch<1)||decide (4<c.Branch)) with
 |true=>rw[hq]at h;cases h
 |false=>
  simp only[yal,yag]at hq;rw[w6];omega
theorem b8t {m:Move} (h:a7t m=true):rng 1 4 m.Branch=true:=by
 unfold a7t at h;simp only[yad,yae]at h;rw[w6];omega
theorem a73 {c:Custody} {m:Move} (h:((o0 c m).2==0)=true):a5g (o0 c m).1:=by
 unfold o0 at h ⊢;cases e1:(!(a7s c)||!(a7t m)) with
 |true=>rw[e1]at h;cases h
 |false=>
  have e0:=e1;simp only[yal,yaL]at e0;have b1:=c2x e0.1;have b2:=b8t e0.2;rw[e1]at h;simp only[yaa]at h ⊢;cases e2:!(a5x c.State m.Kind) with
  |true=>rw[e2]at h;cases h
  |false=>
   rw[e2]at h;simp only[yaa]at h ⊢;cases e3:(m.Kind==3&&c.State==5&&!(m.Who==c.Who)) with
   |true=>rw[e3]at h;cases h
   |false=>
    rw[e3]at h;simp only[yaa]at h ⊢;cases e4:!(b8g c m) with
    |true=>rw[e4]at h;cases h
    |false=>
     simp only[yaa];cases (w9 m.Kind==2) with
     |true=>exact b2
     |false=>
      simp only[yaa];cases (w9 m.Kind==4||(w9 m.Kind==5||w9 m.Kind==8)) with
      |true=>exact b1
      |false=>
       simp only[yaa];cases e5:(w9 m.Kind==6) with
       |true=>exact b1
       |false=>
        simp only[yaa];cases (w9 m.Kind==9||w9 m.Kind==10) with
        |true=>exact b1
        |false=>exact b1
theorem b4g:∀{l:List Move} {i:Nat} {item:Int} {c d:Custody},a5g c→u6 i l item c=.inl d→a5g d:=by
 intro l
 induction l with
 |nil=>intro i item c d hc h;simp only[u6]at h;cases h;exact hc
 |cons x l ih=>
  intro i item c d hc h;simp only[u6]at h;cases e:x.Item==item with
  |false=>rw[e]at h;exact ih hc h
  |true=>
   rw[e]at h;simp only[yac]at h;cases e2:(o0 c x).2==0 with
   |true=>rw[e2]at h;exact ih (a73 e2) h
   |false=>rw[e2]at h;cases h
theorem b3g {c:Circ} {x:Item} (h:a07 c x=true):a5g x.Custody:=by
 unfold a07 at h;simp only[yas,yal,yaL,ybb]at h;obtain ⟨h1,h2⟩:=h;have e:=a1a.1 h2;rw[←e];unfold a0q at h1 ⊢;cases hb:(decide (x.Branch<1)||decide (4<x.Branch)) with
 |true=>rw[hb]at h1;cases h1
 |false=>
  rw[hb]at h1;simp only[yaa]at h1 ⊢;have hb2:a5g (b26 x.Branch):=by
   simp only[yal,yag]at hb;show rng 1 4 x.Branch=true
   rw[w6];omega
  cases hr:u6 0 c.Moves x.ID (b26 x.Branch) with
  |inl d=>exact b4g hb2 hr
  |inr p=>
   rw[hr]at h1;exfalso;obtain ⟨i,e⟩:=p;simp only at h1;have key:∀(l:List Move) (i:Nat) (c:Custody) (p:Int×Int),u6 i l x.ID c=.inr p→p.2≠0:=by
    intro l
    induction l with
    |nil=>intro i c p h;simp only[u6]at h;cases h
    |cons y l ih=>
     intro i c p h;simp only[u6]at h;cases e:y.Item==x.ID with
     |false=>rw[e]at h;exact ih _ _ _ h
     |true=>
      rw[e]at h;simp only[yac]at h;cases e2:(o0 c y).2==0 with
      |true=>rw[e2]at h;exact ih _ _ _ h
      |false=>rw[e2]at h;cases h;simpa using e2
   exact key _ _ _ _ hr h1
theorem b40 {c:Circ} (h:FitP c) {x:Item} (hx:x∈c.Items):rng 1 4 x.Custody.Branch=true:=b3g (a6l h.items hx)
theorem b5b {c:Circ} (h:FitP c) {n:Loan} (hn:n∈c.Loans):∃x p,c.Items.find? (fun x=>x.ID==n.Item)=some x∧x∈c.Items∧x.ID=n.Item∧a84 c.Patrons n.Patron=(p,true)∧p.ID=n.Patron∧a2h x.Custody=true∧x.Custody.Who=n.Patron:=by
 have hg:=h.loanG n hn;unfold a5o at hg;cases hf:c.Items.find? (fun x=>x.ID==n.Item) with
 |none=>rw[hf]at hg;cases hg
 |some x=>
  rw[hf]at hg;simp only[yas,yal,yaL,ybb]at hg;obtain ⟨⟨g1,g2⟩,g3⟩:=hg;unfold a84 at g1 ⊢;cases hp:c.Patrons.find? (fun p=>p.ID==n.Patron) with
  |none=>rw[hp]at g1;cases g1
  |some p=>exact ⟨x,p,rfl,ybf hf,by have:=ybE hf;simpa using this,rfl,by have:=ybE hp;simpa using this,g2,g3⟩
theorem d4w {l:List Rule} {p it br:Int}:a56 l (e36 l p it br):=by
 have key:∀(m:List Rule) (i:Nat) (b:Int),i+m.length=l.length→a56 l b→a56 l (a0w (σ:=Int) (β:=Int) (fun i x b=>.inl (b9e l p it br i x b)) (fun b=>b) i m b):=by
  intro m
  induction m with
  |nil=>intro i b _ h;exact h
  |cons x m ih=>intro i b hi h;simp only[a0w];simp only[yaB]at hi;exact ih _ _ (by omega) (b0x h (by omega))
 exact key l 0 (-1) (by omega) (.inl (by omega))
theorem c59 {c:Circ} (hs:Short c) {p:Int} {x:Item}:∃r b,qd2 c p x=some (r,b)∧(b=true→r∈c.Rules):=by
 unfold qd2;rw[b2v hs.patrons];dsimp only;cases (a84 c.Patrons p).2 with
 |false=>exact ⟨_,false,rfl,fun h=>by cases h⟩
 |true=>
  simp only[yam,yaa];unfold qez;rw[f3m hs.rules];dsimp only;rcases d4w (l:=c.Rules) (p:=(a84 c.Patrons p).1.Kind) (it:=x.Kind) (br:=x.Branch) with h|⟨k,hk,hlt⟩
  ·rw[show decide (e36 c.Rules (a84 c.Patrons p).1.Kind x.Kind x.Branch<0)=true by rw[yae];exact h];exact ⟨_,false,rfl,fun h=>by cases h⟩
  ·rw[hk,show decide ((k:Int)<0)=false by rw[yag];omega];simp only[yaa,d8,yab hlt];exact ⟨_,true,rfl,fun _=>ybv hlt⟩
end
section
theorem a90 {α β:Type} {step:α→Option (α⊕β)} (Inv:α→Prop) (μ:α→Nat) (h:∀a,Inv a→(∃a',step a=some (.inl a')∧Inv a'∧μ a'<μ a)∨∃b,step a=some (.inr b)) {a:α} (ha:Inv a) (hm:μ a<b8z):∃r,c4 step a=some r:=by
 have key:∀n a,Inv a→μ a<n→∃r,o4 step n a=some r:=by
  intro n
  induction n with
  |zero=>intro a _ h;omega
  |succ n ih=>
   intro a hi hn;simp only[o4];rcases h a hi with ⟨a',h1,h2,h3⟩|⟨b,h1⟩
   ·rw[h1];exact ih a' h2 (by omega)
   ·rw[h1];exact ⟨b,rfl⟩
 exact key b8z a ha hm
theorem c2f {c:Calendar} (hc:CalOk c) (d:Int):∃a b,qa6 c d=some (a,b):=by
 obtain ⟨r,hr⟩:=a90 (step:=b5j) (fun a=>0≤a.1∧a.2.1=c) (fun a=>(109573-a.1).toNat) (by
  rintro ⟨d,c',_⟩ ⟨h0,(rfl:c'=c)⟩;simp only at h0;simp only[b5j,g2y hc];by_cases hq:d≤109572
  ·rw[show decide (d≤109572)=true by rw[yae];exact hq];simp only[yac];cases a8r c' d with
   |true=>exact .inr ⟨_,rfl⟩
   |false=>
    simp only[yaa];rw[a0x (by omega) (by omega)];exact .inl ⟨_,rfl,⟨by show 0≤d+1;omega,rfl⟩,by show (109573-(d+1)).toNat<(109573-d).toNat;omega⟩
  ·rw[show decide (d≤109572)=false by rw[yag];exact hq];exact .inr ⟨_,rfl⟩) (a:=((if d<0 then 0 else d),c,())) ⟨by show 0≤if d<0 then 0 else d;split<;>omega,rfl⟩ (by rw[m5];show (109573-if d<0 then 0 else d).toNat<_;split<;>omega)
 unfold qa6;rw[hr];rcases r with _|⟨a,b,_⟩
 ·exact ⟨_,_,rfl⟩
 ·exact ⟨_,_,rfl⟩
theorem c7f {α β:Type} {b:Bool} {x y:Option (α×β)} (hx:∃u v,x=some (u,v)) (hy:∃u v,y=some (u,v)):∃u v,(bif b then x else y)=some (u,v):=by
 cases b
 ·exact hy
 ·exact hx
def b8y (a b:Option (Circ×Int×Int)):Prop:=∃c n e,a=some (c,n,e)∧b=some (c,n,e)∧Short c
theorem a4y {e:Int}:b8y (some (o5,0,e)) (some (o5,0,e)):=⟨_,_,_,rfl,rfl,a2f⟩
end
section
def d7h (l:List Hold) (id:Int):Hold×Bool:=match l.find? (fun h=>h.ID==id) with|some h=>(h,true)|none=>(b5c,false)
theorem h0q {l:List Hold} {id:Int} (hl:l.length<1000000000):qe0 l id=some (d7h l id):=by
 unfold qe0 qbw d7h;rw[c2m (p:=fun (g:Unit×Int×Unit) x0=>qde x0 g.2.1) (g:=((),(id,()))) (fun x=>x.ID==id) hl (fun x _=>rfl)];rcases o8 (fun x:Hold=>x.ID==id) l with ⟨h1,h2⟩|⟨i,x,h1,h2,h3,h4⟩
 ·simp only[h1,h2]
  try rfl
 ·have d:decide ((0:Int)≤(i:Int))=true:=by rw[yae];omega
  simp only[h1,h4,d,yac,d8,h2]
theorem c92 {l:List Hold} {id:Int} (hl:l.length<1000000000):qai l id=some (d7h l id):=by
 unfold qai d7h;have h:=t7 (step:=b5r) (fun i=>(l,id,(i:Int),b5c,())) l (fun x=>x.ID==id) (fun _ x=>(.inr (true,x,()):(Hold×Unit)⊕(Bool×Hold×Unit))) (.inl (b5c,())) hl
  (by simp only[b5r,dge,yaa])
  (fun i x hx=>by
   have hi:=(zL hx)
   simp only[b5r,dlt hi,d8,hx,yac,g9 (show i<9223372036854775807 by omega)])
 rw[show c4 b5r (l,id,0,(⟨0,0,0,0,0,0,0,0,0,0,0⟩:Hold),())=_ from h,a6x];cases l.find? (fun x=>x.ID==id)<;>rfl
theorem c3h {α β γ:Type} {s1:α→Option (α⊕β)} {s2:γ→Option (γ⊕β)} (Inv:α→Prop) (φ:α→γ)
 (h:∀a,Inv a→s2 (φ a)=(match s1 a with|none=>none|some (.inl b)=>some (.inl (φ b))|some (.inr b)=>some (.inr b)))
 (hi:∀a b,Inv a→s1 a=some (.inl b)→Inv b) {a:α} (ha:Inv a):c4 s2 (φ a)=c4 s1 a:=by
 have key:∀n a,Inv a→o4 s2 n (φ a)=o4 s1 n a:=by
  intro n
  induction n with
  |zero=>intro a _;rfl
  |succ n ih=>
   intro a ha;simp only[o4];rw[h a ha];cases hs:s1 a with
   |none=>rfl
   |some x=>
    cases x with
    |inl b=>exact ih b (hi a b ha hs)
    |inr b=>rfl
 exact key b8z a ha
theorem d9t {c:Calendar} (hc:CalOk c) (day n:Int):qaj c day n=qbj c day n:=by
 have hw:c4 b2t (n,day,0,c,())=c4 b5s (day,n,0,c,()):=by
  refine c3h (s1:=b5s) (s2:=b2t) (fun a=>a.2.2.2.1=c) (fun a=>(a.2.1,a.1,a.2.2.1,a.2.2.2.1,())) ?_ ?_ (a:=(day,n,0,c,())) rfl
  ·rintro ⟨d,n,i,c',_⟩ (rfl:c'=c);simp only[b5s,b2t,d9r hc];cases decide (i<n) with
   |false=>rfl
   |true=>
    simp only[yac];cases qa6 c' (wr .i64 (d+1)) with
    |none=>rfl
    |some p=>
     obtain ⟨a,b⟩:=p;simp only;cases !(b==0)<;>rfl
  ·rintro ⟨d,n,i,c',_⟩ b (rfl:c'=c) hb;simp only[b5s]at hb;cases hq:decide (i<n) with
   |false=>rw[hq]at hb;cases hb
   |true=>
    rw[hq]at hb;simp only[yac]at hb;cases hn:qa3 c' (wr .i64 (d+1)) with
    |none=>rw[hn]at hb;cases hb
    |some p=>
     obtain ⟨a,b2⟩:=p;rw[hn]at hb;simp only at hb;cases he:!(b2==0) with
     |true=>rw[he]at hb;cases hb
     |false=>rw[he]at hb;cases hb;rfl
 unfold qaj qbj;simp -zeta only[a06,d90,d9r hc];dsimp only;rw[hw,←b2g 0 109572]
 try rfl
end
section
theorem g0v {c:Circ} (h:FitP c) {x:Item} (hx:x∈c.Items):1≤x.ID∧x.ID≤9999:=by
 have h:=h.items;unfold a1j at h;simp only[yad]at h;obtain ⟨i,hi⟩:=yaI hx;have:=(a4z.1 h.2.1) i x hi;rw[yaH]at this;simp only[yas,yal,yaL]at this;have h2:=this.1;unfold a01 at h2;simp only[yad,w6]at h2;omega
def g9s:Loan:=⟨0,0,0,0,0,false⟩
theorem a87 {c:Calendar} (hc:CalOk c) (d n:Int):∃a b,qbj c d n=some (a,b):=by
 unfold qbj;simp -zeta only[a06];dsimp only;cases hb:(decide (n<0)||decide (1000<n)) with
 |true=>exact ⟨_,_,rfl⟩
 |false=>
  simp only[yal,yag]at hb;simp only[yaa];refine c7f ⟨_,_,rfl⟩ (c7f ?_ ?_)
  ·obtain ⟨a,b,h⟩:=c2f hc d;rw[h];exact ⟨_,_,rfl⟩
  ·obtain ⟨r,hr⟩:=a90 (step:=b2t) (fun a=>a.1=n∧0≤a.2.2.1∧a.2.2.2.1=c) (fun a=>(n-a.2.2.1).toNat) (by
    rintro ⟨n',d,i,c',_⟩ ⟨(rfl:n'=n),h0,(rfl:c'=c)⟩;simp only at h0;simp only[b2t];by_cases hq:i<n'
    ·rw[show decide (i<n')=true by rw[yae];exact hq];obtain ⟨a,b,h⟩:=c2f hc (wr .i64 (d+1));simp only[yac,h];cases !(b==0) with
     |true=>exact .inr ⟨_,rfl⟩
     |false=>
      simp only[yaa];rw[a0x (n:=i+1) (by omega) (by omega)];exact .inl ⟨_,rfl,⟨rfl,by show 0≤i+1;omega,rfl⟩,by show (n'-(i+1)).toNat<(n'-i).toNat;omega⟩
    ·rw[show decide (i<n')=false by rw[yag];exact hq];exact .inr ⟨_,rfl⟩) (a:=(n,d,0,c,())) ⟨rfl,by show (0:Int)≤0;omega,rfl⟩ (by rw[m5];show (n-0).toNat<_;omega)
   rw[hr];rcases r with ⟨a,_⟩|⟨a,b,_⟩
   ·exact ⟨_,_,rfl⟩
   ·exact ⟨_,_,rfl⟩
end
section
def a96 {X:Type} (lt:X→X→Bool) (y:X):List X→List X→List X
 | [],rest=>y::rest
 |z::zs,rest=>bif lt y z then a96 lt y zs (z::rest) else zs.reverse++z::y::rest
theorem d7v {X:Type} {lt:X→X→Bool} {y:X}:∀{r rest more:List X},a96 lt y r (rest++more)=a96 lt y r rest++more:=by
 intro r
 induction r with
 |nil=>intro rest more;rfl
 |cons z zs ih=>
  intro rest more;simp only[a96];cases lt y z with
  |true=>simp only[yac];rw[←List.cons_append,ih]
  |false=>simp
theorem d1q {X:Type} {lt:X→X→Bool} {y:X}:∀{B A rest:List X},(∀b∈B,lt y b=true)→(∀a∈A,lt y a=false)→a96 lt y (B++A) rest=A.reverse++y::(B.reverse++rest):=by
 intro B
 induction B with
 |nil=>
  intro A rest _ hA;cases A with
  |nil=>rfl
  |cons a A=>simp only[ya7,a96,hA a (yaD ..),yaa,List.reverse_cons,ybl,List.reverse_nil];rfl
 |cons b B ih=>
  intro A rest hB hA;simp only[List.cons_append,a96,hB b (yaD ..),yac];rw[ih (fun b hb=>hB b (yaP _ hb)) hA];simp
section
variable {γ:Type} {p:γ→Hold→Hold→Option Int} {g:γ} {lt:Hold→Hold→Bool}
theorem g0t (hp:∀y z,∃n,p g y z=some n∧decide (n<0)=lt y z) {b i:Int}:∀(r:List Hold) (y:Hold) (rest:List Hold),r.length<1000000→
 o4 (d20 p) (r.length+1) (0,b,g,i,(r.length:Int),r.reverse++y::rest,())=some (0,b,g,i,a96 lt y r rest,()):=by
 intro r
 induction r with
 |nil=>
  intro y rest _;simp only[yaS,o4,a96,d20]
  try rfl
 |cons z zs ih=>
  intro y rest hl;simp only[yaB]at hl;obtain ⟨n,h1,h2⟩:=hp y z;have d:decide ((0:Int)<((zs.length+1:Nat):Int))=true:=by rw[yae];omega
  have w:=a5v (j:=zs.length) (by omega);have e:(z::zs).reverse++y::rest=zs.reverse++z::y::rest:=by simp
  have gy:(zs.reverse++z::y::rest)[zs.length+1]?=some y:=by rw[yay (by simp)];simp
  have gz:(zs.reverse++z::y::rest)[zs.length]?=some z:=by rw[yay (by simp)];simp
  have s1:(zs.reverse++z::y::rest).set (zs.length+1) z=zs.reverse++z::z::rest:=by
   rw[List.set_append_right _ _ (by simp)];simp
  have gz2:(zs.reverse++z::z::rest)[zs.length]?=some z:=by rw[yay (by simp)];simp
  have s2:(zs.reverse++z::z::rest).set zs.length y=zs.reverse++y::z::rest:=by
   rw[List.set_append_right _ _ (by simp)];simp
  rw[o4,e];simp only[yaB,d20,d,yac,w,d8,yaK,gy,gz,h1,h2,s1,gz2,s2,a96];cases lt y z with
  |true=>simp only[yac];exact ih y (z::rest) (by omega)
  |false=>rfl
def a5e (lt:Hold→Hold→Bool) (l:List Hold):List Hold:=l.foldl (fun pre y=>a96 lt y pre.reverse []) []
theorem a66 {l:List Hold} {y:Hold}:a5e lt (l++[y])=a96 lt y (a5e lt l).reverse []:=by
 unfold a5e;rw[List.foldl_append];rfl
theorem c4z {y:Hold}:∀{r rest:List Hold},(a96 lt y r rest).length=r.length+1+rest.length:=by
 intro r
 induction r with
 |nil=>intro rest;simp[a96];omega
 |cons z zs ih=>
  intro rest;simp only[a96];cases lt y z with
  |true=>simp only[yac];rw[ih];simp;omega
  |false=>simp;omega
theorem c3a:∀{l:List Hold},(a5e lt l).length=l.length:=by
 have key:∀(l pre:List Hold),(l.foldl (fun pre y=>a96 lt y pre.reverse []) pre).length=pre.length+l.length:=by
  intro l
  induction l with
  |nil=>intro pre;rfl
  |cons y l ih=>intro pre;rw[ybj,ih,c4z];simp;omega
 intro l;unfold a5e;rw[key];simp
theorem e9h (hp:∀y z,∃n,p g y z=some n∧decide (n<0)=lt y z) {l:List Hold} (hl:l.length<1000000):∀(k i:Nat),i+k=l.length→
 o4 (d2z p) (k+1) (0,(l.length:Int),g,(i:Int),a5e lt (l.take i)++l.drop i,())=some (a5e lt l,()):=by
 intro k
 induction k with
 |zero=>
  intro i hi;have:i=l.length:=by omega
  subst this;have d:decide ((l.length:Int)<(l.length:Int))=false:=by rw[yag];omega
  simp only[o4,d2z,d,yaa,List.take_length,List.drop_length,List.append_nil]
 |succ k ih=>
  intro i hi;have hlt:i<l.length:=by omega
  have d:decide ((i:Int)<(l.length:Int))=true:=by rw[yae];omega
  have hlen:(a5e lt (l.take i)).length=i:=by rw[c3a,ya5];omega
  have hr:=g0t (p:=p) (g:=g) (lt:=lt) hp (b:=(l.length:Int)) (i:=(i:Int)) (a5e lt (l.take i)).reverse l[i] (l.drop (i+1)) (by rw[List.length_reverse,hlen];omega);rw[List.length_reverse,List.reverse_reverse,hlen,←ybL hlt]at hr;have hw:c4 (d20 p) (0,(l.length:Int),g,(i:Int),(i:Int),a5e lt (l.take i)++l.drop i,())=_:=o6 (i+1) (by rw[m5];omega) hr;rw[o4];simp only[d2z,d,yac,hw,g9 (show i<9223372036854775807 by omega)];have e:a96 lt l[i] (a5e lt (l.take i)).reverse (l.drop (i+1))=a5e lt (l.take (i+1))++l.drop (i+1):=by
   have:=d7v (lt:=lt) (y:=l[i]) (r:=(a5e lt (l.take i)).reverse) (rest:=[]) (more:=l.drop (i+1));rw[ya7]at this;rw[this,List.take_succ_eq_append_getElem hlt,a66]
  rw[e];exact ih (i+1) (by omega)
theorem g51 (hp:∀y z,∃n,p g y z=some n∧decide (n<0)=lt y z) {l:List Hold} (hl:l.length<20):qc9 p l g=some (a5e lt l):=by
 have h1:c4 (e8u p) ((l.length:Int),g,20,0,20,l,())=some ((l.length:Int),g,20,0,l,()):=by
  refine o6 1 (by rw[m5];omega) ?_;have d:decide ((20:Int)≤(l.length:Int))=false:=by rw[yag];omega
  simp only[o4,e8u,d,yaa]
 have h2:∀m:List Hold,c4 (e8v p) ((l.length:Int),g,20,m,())=some (m,()):=fun m=>by
  refine o6 1 (by rw[m5];omega) ?_;have d:decide ((20:Int)<(l.length:Int))=false:=by rw[yag];omega
  simp only[o4,e8v,d,yaa]
 have h3:qn p l 0 (l.length:Int) g=some (a5e lt l):=by
  unfold qn;have hw:c4 (d2z p) (0,(l.length:Int),g,wr .i64 (0+1),l,())=some (a5e lt l,()):=by
   cases l with
   |nil=>
    refine o6 1 (by rw[m5];omega) ?_
    try rfl
   |cons y m=>
    have:=e9h (p:=p) (g:=g) (lt:=lt) hp (l:=y::m) (by omega) m.length 1 (by simp only[yaB];omega);exact o6 (m.length+1) (by rw[m5];simp only[yaB]at hl;omega) this
  rw[hw]
 unfold qc9 ql;rw[h1];simp only[h3,h2]
end
end
section
def rk (k:Int) (l:List Hold):List Hold:=l.filter (fun x=>x.Rank==k)
def ltR (y z:Hold):Bool:=decide (z.Rank<y.Rank)
def p7 (l:List Hold):List Hold:=rk 9 l++(rk 8 l++(rk 7 l++(rk 6 l++(rk 5 l++(rk 4 l++(rk 3 l++(rk 2 l++(rk 1 l++rk 0 l))))))))
theorem h1n {k:Int} {l:List Hold} {x:Hold} (h:x∈rk k l):x.Rank=k:=by
 unfold rk at h;rw[yaX]at h;simpa using h.2
theorem a4x (k:Int) (l:List Hold) (y:Hold):rk k (l++[y])=rk k l++(bif y.Rank==k then [y] else []):=by
 unfold rk;rw[List.filter_append,ybh];cases y.Rank==k<;>simp
theorem g0s {A B:List Hold} {y:Hold} (hA:∀a∈A,y.Rank≤a.Rank) (hB:∀b∈B,b.Rank<y.Rank):a96 ltR y (A++B).reverse []=A++y::B:=by
 rw[List.reverse_append,d1q (by intro b hb;rw[List.mem_reverse]at hb;unfold ltR;rw[yae];exact hB b hb) (by intro a ha;rw[List.mem_reverse]at ha;unfold ltR;rw[yag];have:=hA a ha;omega)];simp
theorem c6u:∀(m:List Hold) (l:List Hold),l=m.reverse→(∀x∈l,rng 0 9 x.Rank=true)→a5e ltR l=p7 l:=by
 intro m
 induction m with
 |nil=>intro l h _;subst h;rfl
 |cons y m ih=>
  intro l h hr;rw[List.reverse_cons]at h;subst h;have hy:=w6.1 (hr y (by simp));rw[a66,ih m.reverse rfl (fun x hx=>hr x (by simp at hx ⊢;exact .inl hx))];generalize m.reverse=l;have hc:y.Rank=0∨y.Rank=1∨y.Rank=2∨y.Rank=3∨y.Rank=4∨y.Rank=5∨y.Rank=6∨y.Rank=7∨y.Rank=8∨y.Rank=9:=by omega
  have mid:∀(A B:List Hold),p7 l=A++B→(∀a∈A,y.Rank≤a.Rank)→(∀b∈B,b.Rank<y.Rank)→a96 ltR y (p7 l).reverse []=A++y::B:=fun A B e hA hB=>by rw[e];exact g0s hA hB
  have mm:∀(k:Int) (x:Hold),x∈rk k l→x.Rank=k:=fun k x h=>h1n h
  rcases hc with h|h|h|h|h|h|h|h|h|h
  ·rw[mid (rk 9 l++(rk 8 l++(rk 7 l++(rk 6 l++(rk 5 l++(rk 4 l++(rk 3 l++(rk 2 l++(rk 1 l++rk 0 l))))))))) [] (by simp[p7]) (by intro a ha;simp only[yau]at ha;rcases ha with h|h|h|h|h|h|h|h|h|h<;>(have:=mm _ _ h;omega)) (by intro b hb;cases hb)];simp[p7,a4x,h]
  ·rw[mid (rk 9 l++(rk 8 l++(rk 7 l++(rk 6 l++(rk 5 l++(rk 4 l++(rk 3 l++(rk 2 l++rk 1 l)))))))) (rk 0 l) (by simp[p7]) (by intro a ha;simp only[yau]at ha;rcases ha with h|h|h|h|h|h|h|h|h<;>(have:=mm _ _ h;omega)) (by intro b hb;have:=mm _ _ hb;omega)];simp[p7,a4x,h]
  ·rw[mid (rk 9 l++(rk 8 l++(rk 7 l++(rk 6 l++(rk 5 l++(rk 4 l++(rk 3 l++rk 2 l))))))) (rk 1 l++rk 0 l) (by simp[p7]) (by intro a ha;simp only[yau]at ha;rcases ha with h|h|h|h|h|h|h|h<;>(have:=mm _ _ h;omega)) (by intro b hb;simp only[yau]at hb;rcases hb with h|h<;>(have:=mm _ _ h;omega))];simp[p7,a4x,h]
  ·rw[mid (rk 9 l++(rk 8 l++(rk 7 l++(rk 6 l++(rk 5 l++(rk 4 l++rk 3 l)))))) (rk 2 l++(rk 1 l++rk 0 l)) (by simp[p7]) (by intro a ha;simp only[yau]at ha;rcases ha with h|h|h|h|h|h|h<;>(have:=mm _ _ h;omega)) (by intro b hb;simp only[yau]at hb;rcases hb with h|h|h<;>(have:=mm _ _ h;omega))];simp[p7,a4x,h]
  ·rw[mid (rk 9 l++(rk 8 l++(rk 7 l++(rk 6 l++(rk 5 l++rk 4 l))))) (rk 3 l++(rk 2 l++(rk 1 l++rk 0 l))) (by simp[p7]) (by intro a ha;simp only[yau]at ha;rcases ha with h|h|h|h|h|h<;>(have:=mm _ _ h;omega)) (by intro b hb;simp only[yau]at hb;rcases hb with h|h|h|h<;>(have:=mm _ _ h;omega))];simp[p7,a4x,h]
  ·rw[mid (rk 9 l++(rk 8 l++(rk 7 l++(rk 6 l++rk 5 l)))) (rk 4 l++(rk 3 l++(rk 2 l++(rk 1 l++rk 0 l)))) (by simp[p7]) (by intro a ha;simp only[yau]at ha;rcases ha with h|h|h|h|h<;>(have:=mm _ _ h;omega)) (by intro b hb;simp only[yau]at hb;rcases hb with h|h|h|h|h<;>(have:=mm _ _ h;omega))];simp[p7,a4x,h]
  ·rw[mid (rk 9 l++(rk 8 l++(rk 7 l++rk 6 l))) (rk 5 l++(rk 4 l++(rk 3 l++(rk 2 l++(rk 1 l++rk 0 l))))) (by simp[p7]) (by intro a ha;simp only[yau]at ha;rcases ha with h|h|h|h<;>(have:=mm _ _ h;omega)) (by intro b hb;simp only[yau]at hb;rcases hb with h|h|h|h|h|h<;>(have:=mm _ _ h;omega))];simp[p7,a4x,h]
  ·rw[mid (rk 9 l++(rk 8 l++rk 7 l)) (rk 6 l++(rk 5 l++(rk 4 l++(rk 3 l++(rk 2 l++(rk 1 l++rk 0 l)))))) (by simp[p7]) (by intro a ha;simp only[yau]at ha;rcases ha with h|h|h<;>(have:=mm _ _ h;omega)) (by intro b hb;simp only[yau]at hb;rcases hb with h|h|h|h|h|h|h<;>(have:=mm _ _ h;omega))];simp[p7,a4x,h]
  ·rw[mid (rk 9 l++rk 8 l) (rk 7 l++(rk 6 l++(rk 5 l++(rk 4 l++(rk 3 l++(rk 2 l++(rk 1 l++rk 0 l))))))) (by simp[p7]) (by intro a ha;simp only[yau]at ha;rcases ha with h|h<;>(have:=mm _ _ h;omega)) (by intro b hb;simp only[yau]at hb;rcases hb with h|h|h|h|h|h|h|h<;>(have:=mm _ _ h;omega))];simp[p7,a4x,h]
  ·rw[mid (rk 9 l) (rk 8 l++(rk 7 l++(rk 6 l++(rk 5 l++(rk 4 l++(rk 3 l++(rk 2 l++(rk 1 l++rk 0 l)))))))) (by simp[p7]) (by intro a ha;have:=mm _ _ ha;omega) (by intro b hb;simp only[yau]at hb;rcases hb with h|h|h|h|h|h|h|h|h<;>(have:=mm _ _ h;omega))];simp[p7,a4x,h]
def y8 (record day:Int) (x:Hold):Bool:=x.Record==record&&x.State==1&&decide (x.Asleep≤day)
theorem e26 (record day:Int) (x:Hold):(x.State==1&&x.Record==record&&decide (x.Asleep≤day))=y8 record day x:=by
 unfold y8;cases x.Record==record<;>cases x.State==1<;>rfl
theorem e0d (y z:Hold) (hy:rng 0 9 y.Rank=true) (hz:rng 0 9 z.Rank=true):decide (wr .i64 (z.Rank-y.Rank)<0)=ltR y z:=by
 have h1:=w6.1 hy;have h2:=w6.1 hz;rw[a0x (by omega) (by omega)];unfold ltR;rw[decide_eq_decide];omega
theorem e6c {lt:Hold→Hold→Bool} {y x:Hold}:∀{r rest:List Hold},x∈a96 lt y r rest→x=y∨x∈r∨x∈rest:=by
 intro r
 induction r with
 |nil=>intro rest h;simp only[a96,yaC]at h;rcases h with h|h<;>simp[h]
 |cons z zs ih=>
  intro rest h;simp only[a96]at h;cases hb:lt y z with
  |true=>
   rw[hb]at h;rcases ih h with h|h|h
   ·exact .inl h
   ·exact .inr (.inl (yaP _ h))
   ·rcases yaC.1 h with h|h
    ·subst h;exact .inr (.inl (yaD ..))
    ·exact .inr (.inr h)
  |false=>
   rw[hb]at h;simp only[yaa,yau,List.mem_reverse,yaC]at h;rcases h with h|h|h|h
   ·exact .inr (.inl (yaP _ h))
   ·subst h;exact .inr (.inl (yaD ..))
   ·exact .inl h
   ·exact .inr (.inr h)
theorem d1p {lt lt':Hold→Hold→Bool} {y:Hold}:∀{r rest:List Hold},(∀z∈r,lt y z=lt' y z)→a96 lt y r rest=a96 lt' y r rest:=by
 intro r
 induction r with
 |nil=>intros;rfl
 |cons z zs ih=>
  intro rest h;simp only[a96];rw[h z (yaD ..),ih (fun z hz=>h z (yaP _ hz))]
theorem e2r {lt lt':Hold→Hold→Bool}:∀(m l:List Hold),l=m.reverse→(∀x∈l,∀y∈l,lt x y=lt' x y)→a5e lt l=a5e lt' l∧∀x∈a5e lt' l,x∈l:=by
 intro m
 induction m with
 |nil=>intro l h _;subst h;exact ⟨rfl,fun x hx=>by cases hx⟩
 |cons y m ih=>
  intro l h hc;rw[List.reverse_cons]at h;subst h;obtain ⟨e1,e2⟩:=ih m.reverse rfl (fun a ha b hb=>hc a (by simp at ha ⊢;exact .inl ha) b (by simp at hb ⊢;exact .inl hb));rw[a66,a66,e1];refine ⟨d1p (fun z hz=>hc y (by simp) z ?_),fun x hx=>?_⟩
  ·rw[List.mem_reverse]at hz;have:=e2 z hz;simp at this ⊢;exact .inl this
  ·rcases e6c hx with h|h|h
   ·subst h;simp
   ·rw[List.mem_reverse]at h;have:=e2 x h;simp at this ⊢;exact .inl this
   ·cases h
theorem d25 {l:List Hold} (hl:l.length<20) (hr:∀x∈l,rng 0 9 x.Rank=true):qc9 (fun (g:Unit×Unit) x0 x1=>qbq x0 x1) l ((),())=some (p7 l):=by
 rw[g51 (lt:=fun y z=>decide (wr .i64 (z.Rank-y.Rank)<0)) (fun y z=>⟨_,rfl,rfl⟩) hl];congr 1;rw[(e2r l.reverse l (by simp) (fun x hx y hy=>e0d x y (hr x hx) (hr y hy))).1];exact c6u l.reverse l (by simp) hr
end
section
theorem b1r {X:Type} (p:X→Bool):∀(l o:List X),l.foldl (fun s y=>bif p y then s++[y] else s) o=o++l.filter p:=by
 intro l
 induction l with
 |nil=>intro o;simp
 |cons x l ih=>intro o;rw[ybj,ih,ybh];cases p x<;>simp
theorem a94 {X Y:Type} (p:X→Bool) (f:X→Y):∀(l:List X) (o:List Y),l.foldl (fun s y=>bif p y then s++[f y] else s) o=o++(l.filter p).map f:=by
 intro l
 induction l with
 |nil=>intro o;simp
 |cons x l ih=>intro o;rw[ybj,ih,ybh];cases p x<;>simp
theorem h3e {l:List Hold} {record day:Int} (hl:l.length<1000000) (h20:(l.filter (y8 record day)).length<20) (hr:∀x∈l,rng 0 9 x.Rank=true):qg l record day=some (p7 (l.filter (y8 record day))):=by
 have h:=m0 (step:=d2v) (fun (i:Nat) (s:List Hold)=>s.length≤i) (fun i s=>(record,day,l,(l.length:Int),(i:Int),s,())) l
  (fun i y s=>.inl (bif y8 record day y then s++[y] else s)) (fun s=>(s,())) (by rw[m5];omega)
  (fun s _=>by simp only[d2v,dge,yaa])
  (fun i y s hx hi=>by
   have hlt:=(zL hx)
   have l1:decide (s.length+([y]:List Hold).length≤LIM)=true:=a4b (by simp;omega);refine ⟨?_,fun s' hs'=>?_⟩
   ·simp -zeta only[d2v,dlt hlt,d8,hx,yac,l1,s8,g9 (show i<9223372036854775807 by omega)];unfold y8;dsimp only;cases (y.Record==record&&y.State==1&&decide (y.Asleep≤day))<;>rfl
   ·cases hs'
    cases y8 record day y<;>simp<;>omega) [] (by simp)
 rw[a1i]at h;unfold qg;rw[show c4 d2v (record,day,l,(l.length:Int),0,[],())=_ from h,b1r,ya7];simp only;rw[d25 h20 (fun x hx=>hr x (yaX.1 hx).1)]
theorem e0f {l:List Hold} {record day rank:Int} (hl:l.length<1000000) (s:List Int) (hs:s.length<100000000):c4 c5x (l,record,day,rank,0,s,())=some (l,record,day,rank,s++(rk rank (l.filter (y8 record day))).map (fun x=>x.ID),()):=by
 have h:=m0 (step:=c5x) (fun (i:Nat) (o:List Int)=>o.length≤s.length+i) (fun i o=>(l,record,day,rank,(i:Int),o,())) l
  (fun i y o=>.inl (bif y8 record day y&&y.Rank==rank then o++[y.ID] else o)) (fun o=>(l,record,day,rank,o,())) (by rw[m5];omega)
  (fun o _=>by simp only[c5x,dge,yaa])
  (fun i y o hx hi=>by
   have hlt:=(zL hx)
   have l1:decide (o.length+([y.ID]:List Int).length≤LIM)=true:=a4b (by simp;omega);refine ⟨?_,fun s' hs'=>?_⟩
   ·simp -zeta only[c5x,dlt hlt,d8,hx,yac,l1,s8,g9 (show i<9223372036854775807 by omega)];dsimp only;rw[e26];cases (y8 record day y&&y.Rank==rank)<;>rfl
   ·cases hs'
    cases (y8 record day y&&y.Rank==rank)<;>simp<;>omega) s (by omega)
 rw[a1i]at h;rw[show c4 c5x (l,record,day,rank,0,s,())=_ from h];have e:(fun (s:List Int) (x:Hold)=>bif y8 record day x&&x.Rank==rank then s++[x.ID] else s)=(fun s x=>bif (fun y=>y8 record day y&&y.Rank==rank) x then s++[(fun z:Hold=>z.ID) x] else s):=rfl;rw[e,a94];unfold rk;rw[ybW];have e2:(fun y:Hold=>y8 record day y&&y.Rank==rank)=(fun a=>a.Rank==rank&&y8 record day a):=by funext y;rw[Bool.and_comm]
 rw[e2]
def dn (q:List Hold):Nat→List Hold
 |0=>[]
 |k+1=>rk (k:Int) q++dn q k
theorem d42 (q:List Hold):p7 q=dn q 10:=by
 simp[p7,dn]
theorem c2y {k:Int} {q:List Hold}:(rk k q).length≤q.length:=yaw _ _
theorem h03 {l:List Hold} {record day:Int} (hl:l.length<1000000):∀(k:Nat) (s:List Int),k≤10→s.length+k*1000000<100000000→
 o4 e0e (k+1) (l,record,day,(k:Int)-1,s,())=some (s++(dn (l.filter (y8 record day)) k).map (fun x=>x.ID),()):=by
 intro k
 induction k with
 |zero=>
  intro s _ _;simp only[o4,dn,ybY,List.append_nil]
  try rfl
 |succ k ih=>
  intro s hk hs;have e:((k+1:Nat):Int)-1=(k:Int):=by omega
  have hlen:(rk (k:Int) (l.filter (y8 record day))).length≤l.length:=ya6 c2y (yaw _ _);rw[o4];have d2:decide ((0:Int)≤(k:Int))=true:=by rw[yae];omega
  simp only[e0e,d2,yac,e,e0f hl s (by omega)];rw[a0x (n:=(k:Int)-1) (by omega) (by omega),ih _ (by omega) (by rw[yaM,yaU];omega)];simp only[dn,List.map_append,ybl]
theorem h3j {l:List Hold} {record day:Int} (hl:l.length<1000000):qv l record day=some ((p7 (l.filter (y8 record day))).map (fun x=>x.ID)):=by
 have h:=h03 (record:=record) (day:=day) hl 10 [] (by omega) (by simp);unfold qv;rw[show c4 e0e (l,record,day,9,([]:List Int),())=_ from o6 11 (by rw[m5];omega) h,ya7,d42]
theorem a41 {q:List Hold} {x:Hold} (h:x∈p7 q):x∈q:=by
 have k:∀(k:Int),x∈rk k q→x∈q:=fun k h=>(yaX.1 h).1
 unfold p7 at h;simp only[yau]at h;rcases h with h|h|h|h|h|h|h|h|h|h<;>exact k _ h
def b4e (branch:Int) (vlocal:Bool) (x:Item) (h:Hold) (first:Int):Int⊕Int:=
 bif !(h.Item==0)&&!(h.Item==x.ID) then .inl first
 else bif !vlocal||h.Pickup==branch then .inr h.ID
 else .inl (bif first==0 then h.ID else first)
def c2h (branch:Int) (vlocal:Bool) (x:Item) (h:Hold) (first:Int):Int⊕Int:=
 bif !(h.Item==0)&&!(h.Item==x.ID) then .inl first
 else bif vlocal&&h.Pickup==branch then .inr h.ID
 else .inl (bif first==0 then h.ID else first)
def b2l (branch:Int) (vlocal:Bool) (x:Item):List Hold→Int→Int
 | [],first=>first
 |h::q,first=>match b4e branch vlocal x h first with | .inl f=>b2l branch vlocal x q f | .inr r=>r
def a7r (branch:Int) (vlocal:Bool) (x:Item):List Hold→Int→Int
 | [],first=>first
 |h::q,first=>match c2h branch vlocal x h first with | .inl f=>a7r branch vlocal x q f | .inr r=>r
theorem d2h {branch:Int} {x:Item}:∀{q:List Hold} {f:Int},f≠0→a7r branch false x q f=f:=by
 intro q
 induction q with
 |nil=>intros;rfl
 |cons h q ih=>
  intro f hf;have h0:(f==0)=false:=by simpa using hf
  simp only[a7r,c2h,yaV,yaa,h0];cases (!(h.Item==0)&&!(h.Item==x.ID))<;>exact ih hf
theorem d9l {branch:Int} {vlocal:Bool} {x:Item}:∀{q:List Hold} {f:Int},(∀h∈q,h.ID≠0)→(vlocal=false→f=0)→b2l branch vlocal x q f=a7r branch vlocal x q f:=by
 intro q
 induction q with
 |nil=>intros;rfl
 |cons h q ih=>
  intro f hq hf;simp only[b2l,a7r,b4e,c2h];cases (!(h.Item==0)&&!(h.Item==x.ID)) with
  |true=>exact ih (fun y hy=>hq y (yaP _ hy)) hf
  |false=>
   cases vlocal with
   |true=>
    cases h.Pickup==branch with
    |true=>rfl
    |false=>exact ih (fun y hy=>hq y (yaP _ hy)) (fun e=>by cases e)
   |false=>
    have:=hf rfl;subst this;exact (d2h (hq h (yaD ..))).symm
end
section
theorem a8g {l:List Hold} (hsort:∀i x,l[i]?=some x→t8 l i (fun y=>decide (x.ID≤y.ID))=false) {h:Hold} (hm:h∈l):d7h l h.ID=(h,true):=by
 unfold d7h;rw[a4d (key:=fun y:Hold=>y.ID) hsort hm]
theorem d2i {β:Type} {branch:Int} {vlocal:Bool} {x:Item} (fin:Int→β) (out:Int→β) (hfo:∀v:Int,True):∀(q:List Hold) (i:Nat) (f:Int),∃r:Int⊕Int,(match r with | .inl v=>v | .inr v=>v)=b2l branch vlocal x q f∧
 a0w (fun (_:Nat) h f=>match b4e branch vlocal x h f with | .inl f=>.inl f | .inr v=>.inr (out v)) fin i q f=(match r with | .inl v=>fin v | .inr v=>out v):=by
 intro q
 induction q with
 |nil=>intro i f;exact ⟨.inl f,rfl,rfl⟩
 |cons h q ih=>
  intro i f;simp only[a0w,b2l];cases b4e branch vlocal x h f with
  |inl f'=>exact ih (i+1) f'
  |inr v=>exact ⟨.inr v,rfl,rfl⟩
theorem d2j {β:Type} {branch:Int} {vlocal:Bool} {x:Item} (fin:Int→β) (out:Int→β) (hfo:∀v:Int,True):∀(q:List Hold) (i:Nat) (f:Int),∃r:Int⊕Int,(match r with | .inl v=>v | .inr v=>v)=a7r branch vlocal x q f∧
 a0w (fun (_:Nat) h f=>match c2h branch vlocal x h f with | .inl f=>.inl f | .inr v=>.inr (out v)) fin i q f=(match r with | .inl v=>fin v | .inr v=>out v):=by
 intro q
 induction q with
 |nil=>intro i f;exact ⟨.inl f,rfl,rfl⟩
 |cons h q ih=>
  intro i f;simp only[a0w,a7r];cases c2h branch vlocal x h f with
  |inl f'=>exact ih (i+1) f'
  |inr v=>exact ⟨.inr v,rfl,rfl⟩
theorem a78 {q:List Hold}:(p7 q).length≤10*q.length:=by
 have k:∀n:Int,(rk n q).length≤q.length:=fun n=>c2y
 unfold p7;simp only[yaM];have:=k 0;have:=k 1;have:=k 2;have:=k 3;have:=k 4;have:=k 5;have:=k 6;have:=k 7;have:=k 8;have:=k 9;omega
theorem f3a {l:List Hold} {x:Item} {branch day:Int} {vlocal:Bool} (hl:l.length<1000000) (h20:(l.filter (y8 x.Record day)).length<20) (hr:∀x∈l,rng 0 9 x.Rank=true) :
 qa0 l x branch day vlocal=some (b2l branch vlocal x (p7 (l.filter (y8 x.Record day))) 0):=by
 unfold qa0;rw[h3e hl h20 hr];have hq:(p7 (l.filter (y8 x.Record day))).length<1000:=by have:=a78 (q:=l.filter (y8 x.Record day));omega
 generalize p7 (l.filter (y8 x.Record day))=q at hq ⊢;have h:=a16 (step:=b5f) (fun i f=>(branch,vlocal,f,q,(q.length:Int),(i:Int),x,())) q
  (fun _ h f=>match b4e branch vlocal x h f with | .inl f=>.inl f | .inr v=>.inr (.inr (v,()))) (fun f=>.inl (f,())) (by rw[m5];omega)
  (fun f=>by simp only[b5f,dge,yaa])
  (fun i y f hx=>by
   have hlt:=(zL hx)
   simp -zeta only[b5f,dlt hlt,d8,hx,yac,a06,s8,g9 (show i<9223372036854775807 by omega)];unfold b4e;dsimp only;cases (!(y.Item==0)&&!(y.Item==x.ID)) with
   |true=>rfl
   |false=>
    cases (!vlocal||y.Pickup==branch) with
    |true=>rfl
    |false=>cases f==0<;>rfl) 0
 obtain ⟨r,r1,r2⟩:=d2i (branch:=branch) (vlocal:=vlocal) (x:=x) (fun f=>(.inl (f,()):(Int×Unit)⊕(Int×Unit))) (fun v=>.inr (v,())) (fun _=>trivial) q 0 0;rw[r2]at h;simp only;rw[show c4 b5f (branch,vlocal,0,q,(q.length:Int),0,x,())=_ from h,←r1];cases r<;>rfl
theorem h0f {l:List Hold} {x:Item} {branch day:Int} {vlocal:Bool} (hl:l.length<1000000) (hsort:∀i x,l[i]?=some x→t8 l i (fun y=>decide (x.ID≤y.ID))=false) :
 qbm l x branch day vlocal=some (a7r branch vlocal x (p7 (l.filter (y8 x.Record day))) 0):=by
 unfold qbm;rw[h3j hl];have hq:(p7 (l.filter (y8 x.Record day))).length<100000000:=by
  have:=a78 (q:=l.filter (y8 x.Record day));have:=yaw (y8 x.Record day) l;omega
 have hm:∀h∈p7 (l.filter (y8 x.Record day)),h∈l:=fun h hh=>(yaX.1 (a41 hh)).1
 generalize p7 (l.filter (y8 x.Record day))=q at hq hm ⊢;have h:=a16 (step:=b55) (fun i f=>(l,branch,vlocal,q.map (fun x=>x.ID),f,(i:Int),x,())) q
  (fun _ h f=>match c2h branch vlocal x h f with | .inl f=>.inl f | .inr v=>.inr (.inr (v,()))) (fun f=>.inl (f,())) (by rw[m5];omega)
  (fun f=>by
   have d:decide ((q.length:Int)<((q.map (fun x=>x.ID)).length:Int))=false:=by rw[yag,yaU];omega
   simp only[b55,d,yaa])
  (fun i y f hx=>by
   have hlt:=(zL hx)
   have d:decide ((i:Int)<((q.map (fun x=>x.ID)).length:Int))=true:=by rw[yae,yaU];omega
   have gx:(q.map (fun x=>x.ID))[i]?=some y.ID:=by rw[yaR,hx];rfl
   simp -zeta only[b55,d,d8,gx,yac,a06,s8,c92 (show l.length<1000000000 by omega),a8g hsort (hm y (yaf hx)),g9 (show i<9223372036854775807 by omega)];unfold c2h;dsimp only;cases (!(y.Item==0)&&!(y.Item==x.ID)) with
   |true=>rfl
   |false=>
    cases (vlocal&&y.Pickup==branch) with
    |true=>rfl
    |false=>cases f==0<;>rfl) 0
 obtain ⟨r,r1,r2⟩:=d2j (branch:=branch) (vlocal:=vlocal) (x:=x) (fun f=>(.inl (f,()):(Int×Unit)⊕(Int×Unit))) (fun v=>.inr (v,())) (fun _=>trivial) q 0 0;rw[r2]at h;simp only;rw[show c4 b55 (l,branch,vlocal,q.map (fun x=>x.ID),0,0,x,())=_ from h,←r1];cases r<;>rfl
theorem d1l {c:Circ} (h:FitP c) {o:Hold} (ho:o∈c.Holds):rng 0 9 o.Rank=true∧o.ID≠0:=by
 have:=a1h h.holds ho;unfold o3 at this;have:=a0g this (by decide);simp only[yal,yag]at this;obtain ⟨⟨hx,h1⟩,h2⟩:=this;refine ⟨by rw[w6];omega,?_⟩;have:=hx.1.1.1.1.1.1.1.1.1.1;omega
structure MidW (c:Circ):Prop where
 short:Short c
 moves:c.Moves.length≤2000
 holds:c.Holds.length≤64
 loans:c.Loans.length≤64
 few:∀r,(c.Holds.filter (fun o=>o.Record==r)).length<20
theorem SmallP.w {c:Circ} (h:SmallP c):MidW c:=by
 have h1:=h.moves;have h2:=h.holds;have h3:=h.loans;exact ⟨h.short,by omega,by omega,by omega,fun r=>by have:=yaw (fun o:Hold=>o.Record==r) c.Holds;omega⟩
end
section
end
section
def u0 (c:Circ) (l:List Hold):Circ:=⟨c.Today,c.Items,c.Patrons,c.Loans,l,c.Charges,c.Rules,c.Cals,c.Moves,c.NextHold,c.NextCharge,c.Local⟩
theorem b66 (c:Circ) (l:List Hold):qcb l 0 ⟨c,0⟩=some ((),⟨u0 c l,0⟩):=rfl
theorem a4u (c:Circ) (l:List Hold) (e:Int) (he:e≠0):qcb l e ⟨c,0⟩=some ((),⟨u0 c c.Holds,e⟩):=by
 have h:(e==0)=false:=by simpa using he
 unfold qcb qs;simp only[h,yap,yac,yai,yaa]
 try rfl
end
section
def b4k {X:Type} (i:Int) (upd:X→X):Nat→List X→List X
 |_,[]=>[]
 |k,x::l=>(bif (k:Int)==i then upd x else x)::b4k i upd (k+1) l
theorem d3i {X:Type} {i:Nat} {upd:X→X}:∀{l:List X} {k:Nat},i<k→b4k (i:Int) upd k l=l:=by
 intro l
 induction l with
 |nil=>intros;rfl
 |cons x l ih=>
  intro k h;have:((k:Int)==(i:Int))=false:=by
   have hne:¬(k:Int)=(i:Int):=by omega
   simpa using hne
  simp only[b4k,this,yaa];rw[ih (by omega)]
theorem e2t {X:Type} {upd:X→X} {x:X}:∀{l:List X} {k j:Nat},l[j]?=some x→b4k ((k+j:Nat):Int) upd k l=l.set j (upd x):=by
 intro l
 induction l with
 |nil=>intro k j h;simp at h
 |cons y l ih=>
  intro k j h;cases j with
  |zero=>
   simp at h;subst h;have:((k:Int)==((k+0:Nat):Int))=true:=by simp
   simp only[b4k,this,yac,List.set_cons_zero];rw[d3i (by omega)]
  |succ j=>
   have hne:((k:Int)==((k+(j+1):Nat):Int))=false:=by
    have:¬(k:Int)=((k+(j+1):Nat):Int):=by omega
    simpa using this
   simp only[b4k,hne,yaa,List.set_cons_succ];have:=ih (k:=k+1) (j:=j) (by simpa using h);rw[show k+1+j=k+(j+1) by omega]at this;rw[this]
theorem e0s {X β:Type} {i:Int} {upd:X→X} {g:List X→β}:∀{l:List X} {k:Nat} {s:List X},a0w (fun (k:Nat) x (s:List X)=>.inl (s++[bif (k:Int)==i then upd x else x])) g k l s=g (s++b4k i upd k l):=by
 intro l
 induction l with
 |nil=>intro k s;simp[a0w,b4k]
 |cons x l ih=>intro k s;simp only[a0w,b4k];rw[ih];simp
def w8 (u:Custody) (x:Item):Item:=⟨x.ID,x.Record,x.Branch,x.Kind,x.Price,x.Call,u⟩
def p8 (c:Circ) (i:Nat) (x:Item) (m:Move) (u:Custody):Circ:=⟨c.Today,c.Items.set i (w8 u x),c.Patrons,c.Loans,c.Holds,c.Charges,c.Rules,c.Cals,c.Moves++[m],c.NextHold,c.NextCharge,c.Local⟩
def b0a (c:Circ) (e:Int):Int:=bif e==0&&decide (2000≤(c.Moves.length:Int)) then 13 else e
theorem a9o {c:Circ} {i:Nat} {x:Item} {kind branch who:Int} (hs:Short c) (hm:c.Moves.length<100000000) (hx:c.Items[i]?=some x) :
 qbe (i:Int) kind branch who ⟨c,0⟩=some ((),bif b0a c (o0 x.Custody ⟨c.Today,x.ID,kind,branch,who⟩).2==0 then ⟨p8 c i x ⟨c.Today,x.ID,kind,branch,who⟩ (o0 x.Custody ⟨c.Today,x.ID,kind,branch,who⟩).1,0⟩ else ⟨c,b0a c (o0 x.Custody ⟨c.Today,x.ID,kind,branch,who⟩).2⟩):=by
 have hc1:qdd c.Items=some c.Items:=by unfold qdd;rw[b0c hs.items];rfl
 have hc2:qdr c.Moves=some c.Moves:=by unfold qdr;rw[b0c hs.moves];rfl
 have l1:decide (c.Moves.length+([(⟨c.Today,x.ID,kind,branch,who⟩:Move)]:List Move).length≤LIM)=true:=a4b (by simp;omega);unfold qbe b0a;simp -zeta only[yai,yam,yaa,d8,hx,h0v,s8];generalize o0 x.Custody ⟨c.Today,x.ID,kind,branch,who⟩=q;obtain ⟨u,e⟩:=q;dsimp only;cases hb:(e==0&&decide (2000≤(c.Moves.length:Int))) with
 |true=>
  simp only[yac,qs,yai]
  try rfl
 |false=>
  simp only[yaa];cases he:e==0 with
  |true=>
   have:e=0:=by simpa using he
   subst this;simp only[yam,yaa,yac,hc1,hc2,d8,hx,yaK,l1]
   try rfl
  |false=>
   simp only[yap,yac,yaa,qs,yai]
theorem d21 {c:Circ} {i:Nat} {m:Move} {u:Custody} (hs:Short c):c4 b3b ((i:Int),0,c,o5,m,u,[],())=some (c,o5,m,b4k (i:Int) (w8 u) 0 c.Items,()):=by
 have h:=m0 (step:=b3b) (fun (k:Nat) (s:List Item)=>s.length≤k) (fun k s=>((i:Int),(k:Int),c,o5,m,u,s,())) c.Items
  (fun k x s=>.inl (s++[bif (k:Int)==(i:Int) then w8 u x else x])) (fun s=>(c,o5,m,s,())) (by rw[m5];have:=hs.items;omega)
  (fun s _=>by simp only[b3b,dge,yaa])
  (fun k x s hx hi=>by
   have hlt:=(zL hx)
   have:=hs.items;have l1:∀y:Item,decide (s.length+([y]:List Item).length≤LIM)=true:=fun y=>a4b (by simp;omega)
   refine ⟨?_,fun s' hs'=>?_⟩
   ·simp only[b3b,dlt hlt,d8,hx,yac,l1,g9 (show k<9223372036854775807 by omega)];cases (k:Int)==(i:Int)<;>rfl
   ·cases hs'
    simp;omega) [] (by simp)
 rw[e0s]at h;exact h
theorem h02 {c:Circ} {item:Int} {i:Nat} {x:Item} {kind branch who:Int} (hs:Short c) (hm:c.Moves.length<100000000) (hat:qe c item=some (i:Int)) (hx:c.Items[i]?=some x) (hid:x.ID=item) :
 qp c item kind branch who=some (bif b0a c (o0 x.Custody ⟨c.Today,x.ID,kind,branch,who⟩).2==0 then (p8 c i x ⟨c.Today,x.ID,kind,branch,who⟩ (o0 x.Custody ⟨c.Today,x.ID,kind,branch,who⟩).1,0) else (o5,b0a c (o0 x.Custody ⟨c.Today,x.ID,kind,branch,who⟩).2)):=by
 subst hid;unfold qp b0a;rw[hat];simp only[d8,hx,f3k];generalize o0 x.Custody ⟨c.Today,x.ID,kind,branch,who⟩=q;obtain ⟨u,e⟩:=q;simp only;cases he:e==0 with
 |false=>simp only[yap,yac,yaV,yaa,he];rfl
 |true=>
  have:e=0:=by simpa using he
  subst this;simp only[yam,yaa,yaQ];cases decide (2000≤(c.Moves.length:Int)) with
  |true=>rfl
  |false=>
   have hw:=d21 (i:=i) (m:=⟨c.Today,x.ID,kind,branch,who⟩) (u:=u) hs;have l1:decide (c.Moves.length≤LIM)=true:=by rw[yae];unfold LIM;omega
   have l2:decide (c.Moves.length+([(⟨c.Today,x.ID,kind,branch,who⟩:Move)]:List Move).length≤LIM)=true:=a4b (by simp;omega);have es:=e2t (upd:=w8 u) (l:=c.Items) (k:=0) (j:=i) hx;rw[yaH]at es;rw[es]at hw;simp only[yaa];rw[show c4 b3b ((i:Int),0,c,ZN,(⟨c.Today,x.ID,kind,branch,who⟩:Move),u,([]:List Item),())=_ from hw];simp only[l1,l2,yac]
   try rfl
end
section
theorem c2i {branch:Int} {vlocal:Bool} {x:Item}:∀{q:List Hold} {f:Int},a7r branch vlocal x q f=f∨∃h∈q,a7r branch vlocal x q f=h.ID:=by
 intro q
 induction q with
 |nil=>intro f;exact .inl rfl
 |cons h q ih=>
  intro f;have lift:∀g:Int,(a7r branch vlocal x q g=g∨∃o∈q,a7r branch vlocal x q g=o.ID)→(g=f∨g=h.ID)→(a7r branch vlocal x q g=f∨∃o∈h::q,a7r branch vlocal x q g=o.ID):=by
   intro g hg hgf;rcases hg with hg|⟨o,ho,hg⟩
   ·rcases hgf with e|e
    ·exact .inl (by rw[hg,e])
    ·exact .inr ⟨h,yaD ..,by rw[hg,e]⟩
   ·exact .inr ⟨o,yaP _ ho,hg⟩
  simp only[a7r,c2h];cases (!(h.Item==0)&&!(h.Item==x.ID)) with
  |true=>exact lift f ih (.inl rfl)
  |false=>
   cases (vlocal&&h.Pickup==branch) with
   |true=>exact .inr ⟨h,yaD ..,rfl⟩
   |false=>
    cases f==0 with
    |true=>exact lift h.ID ih (.inr rfl)
    |false=>exact lift f ih (.inl rfl)
end
section
end
section
end
section
theorem b7a (c:Circ) (n e0:Int) (h0:e0≠0):qcg n ⟨c,e0⟩=some ((o5,0,e0),⟨c,e0⟩):=by
 have h:(e0==0)=false:=by simpa using h0
 unfold qcg;simp only[h,yap,yac]
 try rfl
theorem d63 (c:Circ) (n:Int):qcg n ⟨c,0⟩=some ((c,n,0),⟨c,0⟩):=rfl
end
section
theorem c48 {c:Circ} {i:Nat} {x:Item} {m:Move} {u:Custody} (hs:Short c) (hm:c.Moves.length<100000000) (hx:c.Items[i]?=some x):Short (p8 c i x m u):=by
 obtain ⟨h1,h2,h3,h4,h5,h6,h7,h8,h9,h10,h11,h12,h13⟩:=hs;refine ⟨?_,h2,h3,h4,h5,h6,?_,fun z hz=>?_,h9,h10,h11,h12,h13⟩
 ·show (c.Items.set i _).length<_
  rw[List.length_set];exact h1
 ·show (c.Moves++[m]).length<_
  simp;omega
 ·rcases List.mem_or_eq_of_mem_set hz with h|h
  ·exact h8 z h
  ·rw[h];exact h8 x (yaf hx)
theorem b1i {c:Circ} {l:List Hold} (hs:Short c) (hl:l.length<1000000000):Short (u0 c l):=by
 obtain ⟨h1,h2,h3,h4,h5,h6,h7,h8,h9,h10,h11,h12,h13⟩:=hs;exact ⟨h1,h2,h3,hl,h5,h6,h7,h8,h9,h10,h11,h12,h13⟩
end
section
theorem a4l {c:Circ} {id:Int} (hs:Short c):qc3 id ⟨c,0⟩=some (a7b (fun x=>x.ID==id) c.Items,⟨c,bif decide (a7b (fun x=>x.ID==id) c.Items<0) then 9 else 0⟩):=by
 unfold qc3;simp only[g99 hs.items];cases decide (a7b (fun x:Item=>x.ID==id) c.Items<0)<;>rfl
end
section
structure MidP (c:Circ):Prop where
 short:Short c
 moves:c.Moves.length<10000000
 holdsN:c.Holds.length<1000000
 sorted:∀(i:Nat) (x:Hold),c.Holds[i]?=some x→t8 c.Holds i (fun y=>decide (x.ID≤y.ID))=false
 rank:∀o∈c.Holds,rng 0 9 o.Rank=true∧o.ID≠0
 few:∀r,(c.Holds.filter (fun o=>o.Record==r)).length<20
 cal:∀b,CalOk (f5h c b)
 rules:∀r∈c.Rules,a9x r=true
 branch:∀x∈c.Items,rng 1 4 x.Custody.Branch=true
 ids:∀(i:Nat) (x:Item) (j:Nat) (y:Item),c.Items[i]?=some x→c.Items[j]?=some y→x.ID=y.ID→i=j
 chN:c.Charges.length<1000000
theorem a7i {c:Circ} (h:MidP c) {i:Nat} {x:Item} (hx:c.Items[i]?=some x):qe c x.ID=some (i:Int):=by
 rw[e8t h.short.items];rcases o8 (fun y:Item=>y.ID==x.ID) c.Items with ⟨h1,h2⟩|⟨j,y,h1,h2,h3,h4⟩
 ·have:=ybr.1 h2 x (yaf hx);simp at this
 ·rw[h1,h.ids i x j y hx h2 (by simpa using (by simpa using h3:y.ID=x.ID).symm)]
theorem a1d {X Y:Type} {f:X→Y} {l:List X} {j:Nat} {x y:X} (hx:l[j]?=some x) (hf:f y=f x):(l.set j y).map f=l.map f:=by
 rw[List.map_set,hf];apply List.ext_getElem?;intro k;rw[List.getElem?_set];split
 ·rename_i e;subst e;split
  ·rw[yaR,hx];rfl
  ·rename_i hk;have:=(zL hx)
   exact absurd (by simpa using this) hk
 ·rfl
theorem g0r {l m:List Item} (e:m.map (fun x=>x.ID)=l.map (fun x=>x.ID)) (h:∀(i:Nat) (x:Item) (j:Nat) (y:Item),l[i]?=some x→l[j]?=some y→x.ID=y.ID→i=j) :
 ∀(i:Nat) (x:Item) (j:Nat) (y:Item),m[i]?=some x→m[j]?=some y→x.ID=y.ID→i=j:=by
 have key:∀(i:Nat) (x:Item),m[i]?=some x→∃x',l[i]?=some x'∧x'.ID=x.ID:=by
  intro i x hx;have h1:(m.map (fun x=>x.ID))[i]?=some x.ID:=by rw[yaR,hx];rfl
  rw[e,yaR]at h1;cases hl:l[i]? with
  |none=>rw[hl]at h1;cases h1
  |some x'=>rw[hl]at h1;exact ⟨x',rfl,by simpa using h1⟩
 intro i x j y hx hy hxy;obtain ⟨x',hx',ex⟩:=key i x hx;obtain ⟨y',hy',ey⟩:=key j y hy;exact h i x' j y' hx' hy' (by rw[ex,ey,hxy])
theorem d9f {c:Circ} (h:MidP c) {i:Nat} {x:Item} (hx:c.Items[i]?=some x) {m:Move} {u:Custody} (hu:rng 1 4 u.Branch=true) (hl:c.Moves.length<5000000):MidP (p8 c i x m u):=by
 refine ⟨c48 h.short (by omega) hx,?_,h.holdsN,h.sorted,h.rank,h.few,h.cal,h.rules,fun y hy=>?_,?_,h.chN⟩
 ·show (c.Moves++[m]).length<_
  simp;omega
 ·rcases List.mem_or_eq_of_mem_set hy with hy|hy
  ·exact h.branch y hy
  ·rw[hy];exact hu
 ·exact g0r (a1d hx rfl) h.ids
theorem b31 {c:Custody} {m:Move} {u:Custody} (h:o0 c m=(u,0)):rng 1 4 u.Branch=true:=by
 have:=a73 (c:=c) (m:=m) (by rw[h];rfl);rw[h]at this;exact this
theorem a4o {c:Circ} (h:MidP c) {i:Nat} {x:Item} (hx:c.Items[i]?=some x) (kind branch who:Int) :
 (∃u,o0 x.Custody ⟨c.Today,x.ID,kind,branch,who⟩=(u,0)∧qbe (i:Int) kind branch who ⟨c,0⟩=some ((),⟨p8 c i x ⟨c.Today,x.ID,kind,branch,who⟩ u,0⟩)∧
  qp c x.ID kind branch who=some (p8 c i x ⟨c.Today,x.ID,kind,branch,who⟩ u,0)∧MidP (p8 c i x ⟨c.Today,x.ID,kind,branch,who⟩ u))∨
 (∃e,e≠0∧qbe (i:Int) kind branch who ⟨c,0⟩=some ((),⟨c,e⟩)∧qp c x.ID kind branch who=some (o5,e)):=by
 have hmv:=h.moves;have dm:=a9o (kind:=kind) (branch:=branch) (who:=who) h.short (by omega) hx;have rm:=h02 (kind:=kind) (branch:=branch) (who:=who) h.short (by omega) (a7i h hx) hx rfl;rw[dm,rm];cases ha:o0 x.Custody ⟨c.Today,x.ID,kind,branch,who⟩ with
 |mk u e=>
  by_cases hE:b0a c e=0
  ·left;simp only[hE,yai,yac];have he:e=0∧c.Moves.length<2000:=by
    unfold b0a at hE;cases hb:(e==0&&decide (2000≤(c.Moves.length:Int))) with
    |true=>rw[hb]at hE;cases hE
    |false=>
     rw[hb]at hE;simp only[yaa]at hE;subst hE;simp only[yai,yaQ,yag]at hb;exact ⟨rfl,by omega⟩
   obtain ⟨rfl,hlen⟩:=he;exact ⟨u,rfl,rfl,rfl,d9f h hx (b31 ha) (by omega)⟩
  ·right;have hE2:(b0a c e==0)=false:=by simpa using hE
   simp only[hE2,yaa];exact ⟨b0a c e,hE,rfl,rfl⟩
theorem b0j {c:Circ} (h:MidP c) {i:Nat} {x:Item} (hx:c.Items[i]?=some x):∃v,qcu c x=some v∧qdm c x.ID=some v∧(d7h c.Holds v).2=!(v==0)∧(v≠0→∃o∈c.Holds,o.ID=v∧d7h c.Holds v=(o,true)∧y8 x.Record c.Today o=true):=by
 have hf:(c.Holds.filter (y8 x.Record c.Today)).length<20:=by
  have e:c.Holds.filter (y8 x.Record c.Today)=(c.Holds.filter (fun o=>o.Record==x.Record)).filter (y8 x.Record c.Today):=by
   rw[ybW];apply List.filter_congr;intro o _;unfold y8;cases o.Record==x.Record<;>simp
  rw[e];have:=yaw (y8 x.Record c.Today) (c.Holds.filter (fun o=>o.Record==x.Record));have:=h.few x.Record;omega
 have q1:=f3a (l:=c.Holds) (x:=x) (branch:=x.Custody.Branch) (day:=c.Today) (vlocal:=c.Local) h.holdsN hf (fun o ho=>(h.rank o ho).1);have q2:=h0f (l:=c.Holds) (x:=x) (branch:=x.Custody.Branch) (day:=c.Today) (vlocal:=c.Local) h.holdsN h.sorted;rw[d9l (fun o ho=>(h.rank o (yaX.1 (a41 ho)).1).2) (fun _=>rfl)]at q1;refine ⟨_,by unfold qcu;rw[q1],by unfold qdm;rw[a7i h hx];simp only[d8,hx,q2],?_,?_⟩
 ·rcases c2i (branch:=x.Custody.Branch) (vlocal:=c.Local) (x:=x) (q:=p7 (c.Holds.filter (y8 x.Record c.Today))) (f:=0) with e|⟨o,ho,e⟩
  ·rw[e];unfold d7h;have:c.Holds.find? (fun h=>h.ID==0)=none:=by
    rw[ybr];intro o ho;have:=(h.rank o ho).2;simpa using this
   rw[this]
   try rfl
  ·rw[e];have hm:=(yaX.1 (a41 ho)).1;rw[a8g h.sorted hm];have:=(h.rank o hm).2;simp[this]
 ·intro hv;rcases c2i (branch:=x.Custody.Branch) (vlocal:=c.Local) (x:=x) (q:=p7 (c.Holds.filter (y8 x.Record c.Today))) (f:=0) with e|⟨o,ho,e⟩
  ·exact absurd e hv
  ·have hm:=yaX.1 (a41 ho);exact ⟨o,hm.1,e.symm,by rw[e];exact a8g h.sorted hm.1,hm.2⟩
end
section
theorem g9e {α:Type} (a b:Bool) (x y:α):(bif a then (bif b then x else y) else y)=bif a&&b then x else y:=by cases a<;>rfl
def okS (state u:Int):Bool:=(state==3&&rng 1 109572 u)||(state==2&&u==0)
def b8w (x:Hold) (item state u:Int):Hold:=⟨x.ID,x.Patron,x.Record,x.Item,x.Pickup,x.Placed,state,item,u,x.Asleep,x.Rank⟩
def a2l (l:List Hold) (id item state u:Int):List Hold×Int:=
 match l.find? (fun h=>h.ID==id) with
 |none=>([],9)
 |some x=>bif !(rng 1 9999 item)||!(okS state u) then ([],1)
  else bif !(x.State==1)&&((!(x.State==2)||!(x.Got==item))||!(state==3)) then ([],12)
  else bif l.any (fun o=>o.Got==item&&!(o.ID==id)) then ([],7)
  else (l.set (a7b (fun h=>h.ID==id) l).toNat (b8w x item state u),0)
theorem d1b {l:List Hold} (hl:l.length<1000000000):qch l=some l:=by
 unfold qch;rw[b0c hl];rfl
theorem f3s {l:List Hold} {i:Nat} {x y:Hold} (hl:l.length<1000000000) (hx:l[i]?=some x):qc7 l (i:Int) y=some (l.set i y):=by
 unfold qc7;simp only[d1b hl,d8,hx,yaK]
theorem g2f (state u:Int):(!(okS state u))=(!(state==3&&rng 1 109572 u)&&(!(state==2)||!(u==0))):=by
 unfold okS;cases (state==3&&rng 1 109572 u)<;>cases state==2<;>cases u==0<;>rfl
theorem f3i {l:List Hold} {id item state u:Int} (hl:l.length<1000000000):qay l id item state u=some (a2l l id item state u):=by
 unfold qay qbw a2l;rw[c2m (p:=fun (g:Unit×Int×Unit) x0=>qde x0 g.2.1) (g:=((),(id,()))) (fun x=>x.ID==id) hl (fun x _=>rfl)];have hc:=g2u (p:=fun (g:Unit×Int×Int×Unit) x0=>qb5 x0 g.2.1 g.2.2.1) (g:=((),(item,id,()))) (fun o=>o.Got==item&&!(o.ID==id)) hl (fun o _=>by
  simp -zeta only[qb5,s8];rfl)
 rcases o8 (fun x:Hold=>x.ID==id) l with ⟨h1,h2⟩|⟨i,x,h1,h2,h3,h4⟩
 ·simp only[h1,h2,b69,yac]
 ·simp -zeta only[h1,h4,a52,yaa,d8,h2,h0r,a06,s8,a86,yaK];dsimp only;rw[g2f];cases (!(rng 1 9999 item)||(!(state==3&&rng 1 109572 u)&&(!(state==2)||!(u==0)))) with
  |true=>rfl
  |false=>
   simp only[yaa,g9e];cases (!(x.State==1)&&((!(x.State==2)||!(x.Got==item))||!(state==3))) with
   |true=>rfl
   |false=>
    simp only[yaa,hc];cases l.any (fun o=>o.Got==item&&!(o.ID==id)) with
    |true=>rfl
    |false=>simp only[yaa,f3s hl h2];rfl
theorem d9s {l:List Hold} {y:Hold} (hl:l.length<1000000000):qah l y=some (l.map (fun x=>bif x.ID==y.ID then y else x)):=by
 have h:=m0 (step:=b5q) (fun (i:Nat) (s:List Hold)=>s.length≤i) (fun i s=>(l,(i:Int),y,s,())) l
  (fun i x s=>.inl (s++[bif x.ID==y.ID then y else x])) (fun s=>(s,())) (by rw[m5];omega)
  (fun s _=>by simp only[b5q,dge,yaa])
  (fun i x s hx hi=>by
   have hlt:=(zL hx)
   have l1:∀z:Hold,decide (s.length+([z]:List Hold).length≤LIM)=true:=fun z=>a4b (by simp;omega)
   refine ⟨?_,fun s' hs'=>?_⟩
   ·simp only[b5q,dlt hlt,d8,hx,yac,l1,g9 (show i<9223372036854775807 by omega)];cases x.ID==y.ID<;>rfl
   ·cases hs'
    simp;omega) [] (by simp)
 rw[a1i]at h;unfold qah;rw[show c4 b5q (l,0,y,([]:List Hold),())=_ from h];simp only;congr 1;have key:∀(l o:List Hold),l.foldl (fun s x=>s++[bif x.ID==y.ID then y else x]) o=o++l.map (fun x=>bif x.ID==y.ID then y else x):=by
  intro l
  induction l with
  |nil=>intro o;simp
  |cons x l ih=>intro o;rw[ybj,ih];simp
 rw[key,ya7]
theorem a63 {l:List Hold} (hsort:∀i x,l[i]?=some x→t8 l i (fun y=>decide (x.ID≤y.ID))=false) {i:Nat} {x y:Hold} (hx:l[i]?=some x) (hy:y.ID=x.ID):l.map (fun z=>bif z.ID==y.ID then y else z)=l.set i y:=by
 apply List.ext_getElem?;intro j;rw[yaR,List.getElem?_set];have hlt:=(zL hx)
 split
 ·rename_i e;subst e;simp only[hx,ybF,hlt,ybB,hy,yai,yac]
 ·rename_i e;cases hj:l[j]? with
  |none=>rfl
  |some z=>
   have hne:¬z.ID=y.ID:=by
    rw[hy];rcases Nat.lt_or_gt_of_ne e with h|h
    ·have:=a1v (key:=fun y:Hold=>y.ID) hsort j i x z h hx hj;omega
    ·have:=a1v (key:=fun y:Hold=>y.ID) hsort i j z x h hj hx;omega
   have hb:(z.ID==y.ID)=false:=by simpa using hne
   simp only[ybF,hb,yaa]
theorem g2e (state u:Int):((!(state==2)&&!(state==3))||(state==3&&(decide (u<1)||!(rng 0 109572 u)))||(state==2&&!(u==0)))=!(okS state u):=by
 unfold okS;by_cases h3:state=3
 ·subst h3;unfold rng;by_cases h1:u<1
  ·have:¬1≤u:=by omega
   simp[h1,this]
  ·have a:1≤u:=by omega
   have b:0≤u:=by omega
   simp[h1,a,b]
 ·have e3:(state==3)=false:=by simpa using h3
  rw[e3];cases state==2<;>cases u==0<;>rfl
theorem c91 {l:List Hold} {id item state u:Int} (hl:l.length<1000000000) (hsort:∀i x,l[i]?=some x→t8 l i (fun y=>decide (x.ID≤y.ID))=false):qa5 l id item state u=some (a2l l id item state u):=by
 unfold qa5 a2l;rw[c92 hl];unfold d7h;rcases o8 (fun x:Hold=>x.ID==id) l with ⟨h1,h2⟩|⟨i,x,h1,h2,h3,h4⟩
 ·rw[h2];rfl
 ·have hxid:x.ID=id:=by simpa using h3
  have hw:=t7 (step:=b5i) (fun i=>(l,id,item,state,u,(i:Int),x,())) l (fun o=>!(o.ID==id)&&o.Got==item) (fun _ _=>(.inr ([],7,()):(List Hold×Int×Int×Int×Hold×Unit)⊕(List Hold×Int×Unit))) (.inl (l,item,state,u,x,())) hl
   (by simp only[b5i,dge,yaa])
   (fun j y hy=>by
    have hlt:=(zL hy)
    simp -zeta only[b5i,dlt hlt,d8,hy,yac,s8,g9 (show j<9223372036854775807 by omega)];rfl)
  rw[a6x]at hw;rw[h4];simp -zeta only[yam,yaa,f3v,f3w,a06,s8,a86,h1,yaK];dsimp only;rw[←g2e];have eb:∀a b c d:Bool,((a||b||c)||d)=(a||(b||c||d)):=by decide
  cases hq:(!(rng 1 9999 item)||(!(state==2)&&!(state==3)||(state==3&&(decide (u<1)||!(rng 0 109572 u)))||(state==2&&!(u==0)))) with
  |true=>
   rw[←eb]at hq;rw[hq]
   try rfl
  |false=>
   rw[←eb]at hq;rw[hq];simp only[yaa,g9e];cases (!(x.State==1)&&((!(x.State==2)||!(x.Got==item))||!(state==3))) with
   |true=>rfl
   |false=>
    simp only[yaa];rw[show c4 b5i (l,id,item,state,u,0,x,())=_ from hw];have ea:l.any (fun o=>o.Got==item&&!(o.ID==id))=(l.find? (fun o=>!(o.ID==id)&&o.Got==item)).isSome:=by
     rw[Bool.eq_iff_iff,List.find?_isSome,List.any_eq_true];constructor
     ·rintro ⟨o,ho,hp⟩;exact ⟨o,ho,by rw[Bool.and_comm];exact hp⟩
     ·rintro ⟨o,ho,hp⟩;exact ⟨o,ho,by rw[Bool.and_comm];exact hp⟩
    rw[ea];cases l.find? (fun o=>!(o.ID==id)&&o.Got==item) with
    |some o=>rfl
    |none=>
     simp only[Option.isSome_none,yaa];have:=d9s (l:=l) (y:=b8w x item state u) hl;rw[a63 hsort h2 (y:=b8w x item state u) rfl]at this;rw[show qah l (⟨x.ID,x.Patron,x.Record,x.Item,x.Pickup,x.Placed,state,item,u,x.Asleep,x.Rank⟩:Hold)=_ from this]
def a1c (o:Hold):Int×Int×Int:=(o.ID,o.Rank,o.Record)
theorem a8j {c:Circ} (h:MidP c) {l:List Hold} (e:l.map a1c=c.Holds.map a1c):MidP (u0 c l):=by
 have hlen:l.length=c.Holds.length:=by have:=congrArg List.length e;simpa using this
 have key:∀(i:Nat) (x:Hold),l[i]?=some x→∃x',c.Holds[i]?=some x'∧a1c x'=a1c x:=by
  intro i x hx;have h1:(l.map a1c)[i]?=some (a1c x):=by rw[yaR,hx];rfl
  rw[e,yaR]at h1;cases hl:c.Holds[i]? with
  |none=>rw[hl]at h1;cases h1
  |some x'=>rw[hl]at h1;exact ⟨x',rfl,by simpa using h1⟩
 refine ⟨b1i h.short (by rw[hlen];exact h.short.holds),h.moves,?_,?_,?_,?_,h.cal,h.rules,h.branch,h.ids,h.chN⟩
 ·show l.length<_;rw[hlen];exact h.holdsN
 ·intro i x hx;obtain ⟨x',hx',ek⟩:=key i x hx;have hs:=h.sorted i x' hx';cases i with
  |zero=>rfl
  |succ j=>
   show t8 l (j+1) _=false
   unfold t8 at hs ⊢;simp only at hs ⊢;cases hj:l[j]? with
   |none=>rfl
   |some y=>
    obtain ⟨y',hy',ey⟩:=key j y hj;rw[hy']at hs;unfold a1c at ek ey;simp only[ya3]at ek ey;simp only at hs;rw[ek.1,ey.1]at hs;exact hs
 ·intro o ho;obtain ⟨i,hi⟩:=yaI ho;obtain ⟨x',hx',ek⟩:=key i o hi;have:=h.rank x' (yaf hx');unfold a1c at ek;simp only[ya3]at ek;rw[←ek.1,←ek.2.1];exact this
 ·intro r;have e1:∀m:List Hold,(m.filter (fun o=>o.Record==r)).length=((m.map a1c).filter (fun k=>k.2.2==r)).length:=by
   intro m;rw[List.filter_map,yaU]
   try rfl
  show (l.filter (fun o=>o.Record==r)).length<20
  rw[e1,e,←e1];exact h.few r
theorem b4p {l:List Hold} {id item state u:Int} (h:(a2l l id item state u).2=0):(a2l l id item state u).1.map a1c=l.map a1c:=by
 unfold a2l at h ⊢;rcases o8 (fun x:Hold=>x.ID==id) l with ⟨h1,h2⟩|⟨i,x,h1,h2,h3,h4⟩
 ·rw[h2]at h;cases h
 ·rw[h4]at h ⊢;simp only at h ⊢;cases hq:(!(rng 1 9999 item)||!(okS state u)) with
  |true=>rw[hq]at h;cases h
  |false=>
   rw[hq]at h;simp only[yaa]at h ⊢;cases hq2:(!(x.State==1)&&((!(x.State==2)||!(x.Got==item))||!(state==3))) with
   |true=>rw[hq2]at h;cases h
   |false=>
    rw[hq2]at h;simp only[yaa]at h ⊢;cases hq3:l.any (fun o=>o.Got==item&&!(o.ID==id)) with
    |true=>rw[hq3]at h;cases h
    |false=>
     simp only[yaa,h1,yaK];exact a1d h2 rfl
end
section
structure Frame (c d:Circ):Prop where
 ids:d.Items.map (fun x=>x.ID)=c.Items.map (fun x=>x.ID)
 holds:d.Holds.map a1c=c.Holds.map a1c
 patrons:d.Patrons=c.Patrons
 loans:d.Loans=c.Loans
 charges:d.Charges=c.Charges
 rules:d.Rules=c.Rules
 cals:d.Cals=c.Cals
 today:d.Today=c.Today
 here:d.Local=c.Local
 nh:d.NextHold=c.NextHold
 nc:d.NextCharge=c.NextCharge
 br:d.Items.map (fun x=>x.Custody.Branch)=c.Items.map (fun x=>x.Custody.Branch)
 recs:d.Items.map (fun x=>x.Record)=c.Items.map (fun x=>x.Record)
theorem Frame.refl (c:Circ):Frame c c:=⟨rfl,rfl,rfl,rfl,rfl,rfl,rfl,rfl,rfl,rfl,rfl,rfl,rfl⟩
theorem Frame.trans {a b c:Circ} (h:Frame a b) (k:Frame b c):Frame a c:=
 ⟨k.ids.trans h.ids,k.holds.trans h.holds,k.patrons.trans h.patrons,k.loans.trans h.loans,k.charges.trans h.charges,k.rules.trans h.rules,k.cals.trans h.cals,k.today.trans h.today,k.here.trans h.here,k.nh.trans h.nh,k.nc.trans h.nc,k.br.trans h.br,k.recs.trans h.recs⟩
theorem b2e {c:Circ} {i:Nat} {x:Item} (hx:c.Items[i]?=some x) (m:Move) {u:Custody} (hu:u.Branch=x.Custody.Branch):Frame c (p8 c i x m u):=
 ⟨a1d hx rfl,rfl,rfl,rfl,rfl,rfl,rfl,rfl,rfl,rfl,rfl,a1d hx hu,a1d hx rfl⟩
theorem b0u {c:Custody} {m:Move} {u:Custody} (h:o0 c m=(u,0)) (hk:(w9 m.Kind==2)=false):u.Branch=c.Branch:=by
 unfold o0 at h;cases e1:(!(a7s c)||!(a7t m)) with
 |true=>rw[e1]at h;cases h
 |false=>
  rw[e1]at h;simp only[yaa]at h;cases e2:!(a5x c.State m.Kind) with
  |true=>rw[e2]at h;cases h
  |false=>
   rw[e2]at h;simp only[yaa]at h;cases e3:(m.Kind==3&&c.State==5&&!(m.Who==c.Who)) with
   |true=>rw[e3]at h;cases h
   |false=>
    rw[e3]at h;simp only[yaa]at h;cases e4:!(b8g c m) with
    |true=>rw[e4]at h;cases h
    |false=>
     rw[e4]at h;simp only[yaa,hk]at h;cases e5:(w9 m.Kind==4||(w9 m.Kind==5||w9 m.Kind==8)) with
     |true=>rw[e5]at h;cases h;rfl
     |false=>
      rw[e5]at h;simp only[yaa]at h;cases e6:(w9 m.Kind==6) with
      |true=>rw[e6]at h;cases h;rfl
      |false=>
       rw[e6]at h;simp only[yaa]at h;cases e7:(w9 m.Kind==9||w9 m.Kind==10) with
       |true=>rw[e7]at h;cases h;rfl
       |false=>rw[e7]at h;cases h;rfl
theorem a6d {c:Circ} {l:List Hold} (e:l.map a1c=c.Holds.map a1c):Frame c (u0 c l):=⟨rfl,e,rfl,rfl,rfl,rfl,rfl,rfl,rfl,rfl,rfl,rfl,rfl⟩
def b82 (a:Option (Unit×Circ_desk)) (b:Option (Circ×Int)) (Q:Circ→Prop):Prop:=
 (∃c,a=some ((),⟨c,0⟩)∧b=some (c,0)∧Q c)∨∃c e,e≠0∧a=some ((),⟨c,e⟩)∧b=some (o5,e)∧Short c
def d3w (a b:Option (Circ×Int)):Prop:=∃c e,a=some (c,e)∧b=some (c,e)∧Short c
theorem a02 {e:Int}:d3w (some (o5,e)) (some (o5,e)):=⟨_,_,rfl,rfl,a2f⟩
theorem a0h (c:Circ) (e0:Int) (h0:e0≠0):qo ⟨c,e0⟩=some ((o5,e0),⟨c,e0⟩):=by
 have h:(e0==0)=false:=by simpa using h0
 unfold qo;simp only[h,yap,yac]
 try rfl
theorem b67 {c:Circ} (h:MidP c) {b n:Int} (hb:rng 1 4 b=true):∃d e,qek b n ⟨c,0⟩=some (d,⟨c,e⟩)∧qbj (f5h c b) c.Today n=some (d,e):=by
 obtain ⟨d,e,hq⟩:=a87 (h.cal b) c.Today n;refine ⟨d,e,?_,hq⟩;unfold qek;simp only[d94 hb,d9t (h.cal b),hq];by_cases he:e=0
 ·subst he;rfl
 ·have he2:(e==0)=false:=by simpa using he
  simp only[he2,yap,yac,qs,yai]
theorem b35 {c:Circ} (h:MidP c) {b n e0:Int} (hb:rng 1 4 b=true) (h0:e0≠0):∃d,qek b n ⟨c,e0⟩=some (d,⟨c,e0⟩):=by
 obtain ⟨d,e,hq⟩:=a87 (h.cal b) c.Today n;have h2:(e0==0)=false:=by simpa using h0
 refine ⟨d,?_⟩;unfold qek;simp only[d94 hb,d9t (h.cal b),hq];cases e==0<;>simp only[yap,yam,yac,yaa,qs,h2]
theorem b82.mono {a:Option (Unit×Circ_desk)} {b:Option (Circ×Int)} {Q R:Circ→Prop} (h:b82 a b Q) (hQ:∀d,Q d→R d):b82 a b R:=by
 rcases h with ⟨d,h1,h2,h3⟩|h
 ·exact .inl ⟨d,h1,h2,hQ d h3⟩
 ·exact .inr h
theorem b6d {c:Circ} (h:MidP c) {i:Nat} {x:Item} (hx:c.Items[i]?=some x) (o:Hold):b82 (qc1 (i:Int) o ⟨c,0⟩) (qc4 c x.ID o) (fun d=>(MidP d∧Frame c d)∧(∃u,d.Items=c.Items.set i (w8 u x))∧∃st u,a2l c.Holds o.ID x.ID st u=(d.Holds,0)):=by
 obtain ⟨r,b,hr,_⟩:=c59 (p:=o.Patron) (x:=x) h.short;have hb:=h.branch x (yaf hx);unfold qc1 qc4;simp -zeta only[yai,yam,yaa,a7i h hx,d8,hx,d92 h.short,hr];rcases a4o h hx 5 x.Custody.Branch o.Patron with ⟨u,ha,m1,m2,hm2⟩|⟨e,he,m1,m2⟩
 ·have hf:=b2e hx ⟨c.Today,x.ID,5,x.Custody.Branch,o.Patron⟩ (b0u ha rfl);rw[m1,m2];have hh:(p8 c i x ⟨c.Today,x.ID,5,x.Custody.Branch,o.Patron⟩ u).Holds=c.Holds:=rfl;have hI:(p8 c i x ⟨c.Today,x.ID,5,x.Custody.Branch,o.Patron⟩ u).Items=c.Items.set i (w8 u x):=rfl;generalize p8 c i x ⟨c.Today,x.ID,5,x.Custody.Branch,o.Patron⟩ u=c2 at hm2 hf hh hI;dsimp only;have core:∀days:Int,∃d e,qek x.Custody.Branch days ⟨c2,0⟩=some (d,⟨c2,e⟩)∧qbj (f5h c2 x.Custody.Branch) c2.Today days=some (d,e):=fun days=>b67 hm2 hb
  cases b
  all_goals
   simp only[yac,yaa,yai,yam,g2w hb];obtain ⟨d,e,l1,l2⟩:=core _;rw[l1,l2];by_cases he:e=0
   ·subst he;simp only[yai,yam,yac,yaa,f3i hm2.short.holds,c91 hm2.short.holds hm2.sorted];have ck:=b4p (l:=c2.Holds) (id:=o.ID) (item:=x.ID) (state:=3) (u:=d);generalize hcq:a2l c2.Holds o.ID x.ID 3 d=q at ck;obtain ⟨l,e⟩:=q;by_cases he:e=0
    ·subst he;exact .inl ⟨u0 c2 l,rfl,rfl,⟨a8j hm2 (ck rfl),hf.trans (a6d (ck rfl))⟩,⟨u,hI⟩,3,d,by rw[←hh];exact hcq⟩
    ·have he2:(e==0)=false:=by simpa using he
     simp only[a4u c2 l e he,he2,yap,yac];exact .inr ⟨_,e,he,rfl,rfl,hm2.short⟩
   ·have he2:(e==0)=false:=by simpa using he
    simp only[he2,yap,yac,yaa];exact .inr ⟨_,e,he,rfl,rfl,hm2.short⟩
 ·have he2:(e==0)=false:=by simpa using he
  rw[m1,m2];dsimp only;cases b
  all_goals
   simp only[yac,yaa,he2,yap];obtain ⟨d,l1⟩:=b35 (n:=_) h hb he;rw[l1];simp only[he2,yaa];exact .inr ⟨_,e,he,rfl,rfl,h.short⟩
theorem e0l {c:Circ} (h:MidP c) {i:Nat} {x:Item} (hx:c.Items[i]?=some x) (o:Hold):b82 (qc1 (i:Int) o ⟨c,0⟩) (qc4 c x.ID o) (fun d=>MidP d∧Frame c d):=(b6d h hx o).mono (fun _ h=>h.1)
theorem a9n {c:Circ} {i:Nat} {x:Item} (hx:c.Items[i]?=some x) (kind:Int):qb3 (i:Int) kind ⟨c,0⟩=qbe (i:Int) kind x.Custody.Branch 0 ⟨c,0⟩:=by
 unfold qb3;simp only[yai,yac,d8,hx];cases qbe (i:Int) kind x.Custody.Branch 0 ⟨c,0⟩ with
 |none=>rfl
 |some p=>rfl
theorem a8a (c:Circ) (i e0:Int) (h0:e0≠0):qci i ⟨c,e0⟩=some ((),⟨c,e0⟩):=by
 have h:(e0==0)=false:=by simpa using h0
 unfold qci;simp only[h,yap,yac]
theorem b36 (c:Circ) (i e0:Int) (o:Hold) (h0:e0≠0):qc1 i o ⟨c,e0⟩=some ((),⟨c,e0⟩):=by
 have h:(e0==0)=false:=by simpa using h0
 unfold qc1;simp only[h,yap,yac]
theorem b8p {X:Type} {l:List X} {i:Nat} {x:X} (h:l[i]?=some x):l.set i x=l:=by
 obtain ⟨h1,h2⟩:=yaE.1 h;rw[←h2,List.set_getElem_self]
theorem b7p {l:List Hold} (hs:∀i x,l[i]?=some x→t8 l i (fun y=>decide (x.ID≤y.ID))=false) {o p:Hold} (ho:o∈l) (hp:p∈l) (e:o.ID=p.ID):o=p:=by
 have h1:=a8g hs ho;have h2:=a8g hs hp;rw[e,h2]at h1;cases h1
 try rfl
def Put (c d:Circ) (i:Nat) (x:Item):Prop:=(∃u,d.Items=c.Items.set i (w8 u x))∧∃v,qcu c x=some v∧((v=0∧d.Holds=c.Holds)∨∃st u,a2l c.Holds v x.ID st u=(d.Holds,0)∧(st=3→∀o∈c.Holds,o.ID=v→o.Pickup=x.Custody.Branch))
theorem b0w {c:Circ} (h:MidP c) {i:Nat} {x:Item} (hx:c.Items[i]?=some x):b82 (qci (i:Int) ⟨c,0⟩) (qcv c x.ID) (fun d=>(MidP d∧Frame c d)∧Put c d i x):=by
 obtain ⟨v,p1,p2,g1,g2⟩:=b0j h hx;have mv:∀kind branch who:Int,(w9 kind==2)=false→b82 (qbe (i:Int) kind branch who ⟨c,0⟩) (qp c x.ID kind branch who) (fun d=>(MidP d∧Frame c d)∧d.Holds=c.Holds∧∃u,d.Items=c.Items.set i (w8 u x)):=by
  intro kind branch who hk;rcases a4o h hx kind branch who with ⟨u,ha,m1,m2,hm2⟩|⟨e,he,m1,m2⟩
  ·exact .inl ⟨_,m1,m2,⟨hm2,b2e hx _ (b0u ha hk)⟩,rfl,u,rfl⟩
  ·exact .inr ⟨_,e,he,m1,m2,h.short⟩
 unfold qci qcv;simp -zeta only[yai,yam,yaa,a7i h hx,d8,hx,p1,p2,h0q h.short.holds,c92 h.short.holds,a9n hx,s8];by_cases hv:v=0
 ·subst hv;generalize d7h c.Holds 0=q at g1 ⊢;obtain ⟨o,ok⟩:=q;simp only[yai,yam]at g1;subst g1;dsimp only;simp only[yap,yaQ,yai,yac];cases x.Branch==x.Custody.Branch with
  |false=>
   simp only[yap,yac];rcases mv 6 x.Branch 0 rfl with ⟨d,m1,m2,hQ,hH,hI⟩|⟨d,e,he,m1,m2,hsd⟩
   ·rw[m1,m2];exact .inl ⟨d,rfl,rfl,hQ,hI,0,p1,.inl ⟨rfl,hH⟩⟩
   ·rw[m1,m2];exact .inr ⟨d,e,he,rfl,rfl,hsd⟩
  |true=>
   simp only[yam,yaa];cases x.Custody.State==3 with
   |true=>exact .inl ⟨c,rfl,rfl,⟨h,Frame.refl c⟩,⟨x.Custody,(b8p hx).symm⟩,0,p1,.inl ⟨rfl,rfl⟩⟩
   |false=>
    simp only[yap,yac,yaa];rcases mv 2 x.Custody.Branch 0 rfl with ⟨d,m1,m2,hQ,hH,hI⟩|⟨d,e,he,m1,m2,hsd⟩
    ·rw[m1,m2];exact .inl ⟨d,rfl,rfl,hQ,hI,0,p1,.inl ⟨rfl,hH⟩⟩
    ·rw[m1,m2];exact .inr ⟨d,e,he,rfl,rfl,hsd⟩
 ·have hv2:(v==0)=false:=by simpa using hv
  obtain ⟨o,ho,hoi,hg,hw⟩:=g2 hv;rw[hg,hv2];dsimp only;simp only[yam,yaV,yaa];cases hpk:o.Pickup==x.Custody.Branch with
  |true=>
   simp only[yac];rcases b6d h hx o with ⟨d,m1,m2,hQ,hI,st,u,hH⟩|⟨d,e,he,m1,m2,hsd⟩
   ·rw[m1,m2];exact .inl ⟨d,rfl,rfl,hQ,hI,v,p1,.inr ⟨st,u,by rw[←hoi];exact hH,fun _ o2 ho2 hv2=>by rw[b7p h.sorted ho2 ho (hv2.trans hoi.symm)];simpa using hpk⟩⟩
   ·rw[m1,m2];exact .inr ⟨d,e,he,rfl,rfl,hsd⟩
  |false=>
   simp only[yaa];rcases mv 6 o.Pickup o.Patron rfl with ⟨d,m1,m2,⟨hm2,hf⟩,hH,hI⟩|⟨d,e,he,m1,m2,hsd⟩
   ·rw[m1,m2];simp only[yai,yam,yac,yaa,f3i hm2.short.holds,c91 hm2.short.holds hm2.sorted];have ck:=b4p (l:=d.Holds) (id:=v) (item:=x.ID) (state:=2) (u:=0);generalize hcq:a2l d.Holds v x.ID 2 0=q at ck;obtain ⟨l,e⟩:=q;by_cases he:e=0
    ·subst he;exact .inl ⟨u0 d l,rfl,rfl,⟨a8j hm2 (ck rfl),hf.trans (a6d (ck rfl))⟩,hI,v,p1,.inr ⟨2,0,by rw[←hH];exact hcq,fun h=>absurd h (by decide)⟩⟩
    ·have he2:(e==0)=false:=by simpa using he
     simp only[a4u d l e he,he2,yap,yac];exact .inr ⟨_,e,he,rfl,rfl,hm2.short⟩
   ·have he2:(e==0)=false:=by simpa using he
    rw[m1,m2];simp only[he2,yaa,yap,yac];exact .inr ⟨d,e,he,rfl,rfl,hsd⟩
theorem c7d {c:Circ} (h:MidP c) {i:Nat} {x:Item} (hx:c.Items[i]?=some x):b82 (qci (i:Int) ⟨c,0⟩) (qcv c x.ID) (fun d=>MidP d∧Frame c d):=(b0w h hx).mono (fun _ h=>h.1)
end
section
theorem a4n {c:Circ} {i:Nat} {x:Item} (hx:c.Items[i]?=some x) (m:Move) (u:Custody):(p8 c i x m u).Items[i]?=some (w8 u x):=by
 show (c.Items.set i (w8 u x))[i]?=_
 rw[yby (zL hx)]
theorem a25 {c:Circ} (h:MidP c) (item:Int):(a7b (fun x=>x.ID==item) c.Items = -1∧qe c item=some (-1)∧c.Items.find? (fun x=>x.ID==item)=none)∨
 ∃(i:Nat) (x:Item),a7b (fun x=>x.ID==item) c.Items=(i:Int)∧qe c item=some (i:Int)∧c.Items[i]?=some x∧x.ID=item∧c.Items.find? (fun x=>x.ID==item)=some x:=by
 rcases o8 (fun x:Item=>x.ID==item) c.Items with ⟨h1,h2⟩|⟨i,x,h1,h2,h3,h4⟩
 ·exact .inl ⟨h1,by rw[e8t h.short.items,h1],h2⟩
 ·exact .inr ⟨i,x,h1,by rw[e8t h.short.items,h1],h2,by simpa using h3,h4⟩
theorem b8i {c:Circ} (h:MidP c) {item branch:Int}:d3w (qb6 c item branch) (qeq c item branch):=by
 unfold qb6 qeq;simp -zeta only[qcd,a4l h.short];rcases a25 h item with ⟨h1,h2,-⟩|⟨i,x,h1,h2,hx,hid,-⟩
 ·rw[h1,h2];exact a02
 ·subst hid;have d0:decide ((0:Int)≤(i:Int))=true:=by rw[yae];omega
  rw[h1,h2];simp only[a52,d0,yac,yaa];rcases a4o h hx 1 branch 0 with ⟨u,ha,m1,m2,hm2⟩|⟨e,he,m1,m2⟩
  ·rw[m1,m2];simp only[yai,yam,yaa];rcases c7d hm2 (a4n hx _ u) with ⟨d,q1,q2,hd,_⟩|⟨d,e,he,q1,q2,hsd⟩
   ·rw[q1,show qcv _ x.ID=_ from q2];exact ⟨d,0,rfl,rfl,hd.short⟩
   ·rw[q1,show qcv _ x.ID=_ from q2];simp only[a0h d e he];exact a02
  ·have he2:(e==0)=false:=by simpa using he
   rw[m1,m2];simp only[a8a c _ e he,a0h c e he,he2,yap,yac];exact a02
end
section
theorem d7g {c d:Circ} (h:Frame c d):d.Items.length=c.Items.length:=by
 have:=congrArg List.length h.ids;simpa using this
theorem a7j (c:Circ) (record e:Int) (n i k:Nat) (he:e≠0) :
 o4 a3t (k+1) (record,(n:Int),(i:Int),⟨c,e⟩,())=some (.inl (⟨c,e⟩,()))∨o4 a3t (k+1) (record,(n:Int),(i:Int),⟨c,e⟩,())=some (.inr (⟨c,e⟩,())):=by
 have h:(e==0)=false:=by simpa using he
 simp only[o4,a3t];cases decide ((i:Int)<(n:Int)) with
 |false=>exact .inl rfl
 |true=>
  simp only[yac,h,yap];refine .inr ?_
  first|rfl|trivial
def e3f (r:Int) (c d:Circ):Prop:=d.Items.map (fun x=>x.Record)=c.Items.map (fun x=>x.Record)∧∀(j:Nat) (y:Item),c.Items[j]?=some y→¬y.Record=r→d.Items[j]?=some y
theorem e3f.refl (r:Int) (c:Circ):e3f r c c:=⟨rfl,fun _ _ h _=>h⟩
theorem e3f.trans {r:Int} {a b c:Circ} (h:e3f r a b) (k:e3f r b c):e3f r a c:=⟨k.1.trans h.1,fun j y hy hr=>k.2 j y (h.2 j y hy hr) hr⟩
theorem e85 {c d:Circ} {i:Nat} {x:Item} {record w:Int} (hx:c.Items[i]?=some x) (hp:Put c d i x) (hq:((x.Record==record&&x.Custody.State==3)&&!(w==0))=true):e3f record c d:=by
 obtain ⟨⟨u,hI⟩,-⟩:=hp;simp only[yad,ybb]at hq;refine ⟨by rw[hI];exact a1d hx rfl,fun j y hy hr=>?_⟩;rw[hI,List.getElem?_set];split
 ·rename_i e;subst e;rw[hx]at hy;cases hy
  exact absurd hq.1.1 hr
 ·exact hy
theorem d3e {record:Int} {n:Nat} {v:Circ} (hn:n<1000000000):∀(k i:Nat) (c:Circ),i+k=n→MidP c→c.Items.length=n→
 (∃d,o4 a3t (k+2) (record,(n:Int),(i:Int),⟨c,0⟩,())=some (.inl (⟨d,0⟩,()))∧o4 a3u (k+2) (record,(i:Int),c,v,())=some (.inl (d,v,()))∧MidP d∧Frame c d∧e3f record c d)∨
 (∃d e,e≠0∧Short d∧(o4 a3t (k+2) (record,(n:Int),(i:Int),⟨c,0⟩,())=some (.inl (⟨d,e⟩,()))∨o4 a3t (k+2) (record,(n:Int),(i:Int),⟨c,0⟩,())=some (.inr (⟨d,e⟩,())))∧
  o4 a3u (k+2) (record,(i:Int),c,v,())=some (.inr (e,o5,()))):=by
 intro k
 induction k with
 |zero=>
  intro i c hi h hl;have:i=n:=by omega
  subst this;refine .inl ⟨c,?_,?_,h,Frame.refl c,e3f.refl _ c⟩
  ·simp only[o4,a3t,dge,yaa]
  ·simp only[o4,a3u,hl,dge,yaa]
 |succ k ih=>
  intro i c hi h hl;have hlt:i<n:=by omega
  have hx:c.Items[i]?=some (c.Items[i]'(by omega)):=yab (by omega);generalize c.Items[i]'(by omega)=x at hx;obtain ⟨w,p1,p2,g1,g2⟩:=b0j h hx;have hsu:=g9 (show i<9223372036854775807 by omega);have s1:a3t (record,(n:Int),(i:Int),⟨c,0⟩,())=(bif (x.Record==record&&x.Custody.State==3)&&!(w==0) then (match qci (i:Int) ⟨c,0⟩ with|some (_,v6)=>some (.inl (record,(n:Int),((i+1:Nat):Int),v6,()))|none=>none) else some (.inl (record,(n:Int),((i+1:Nat):Int),⟨c,0⟩,()))):=by
   simp -zeta only[a3t,dlt hlt,yac,yai,yam,yaa,d8,hx,p1,s8,hsu]
   try rfl
  have s2:a3u (record,(i:Int),c,v,())=(bif (x.Record==record&&x.Custody.State==3)&&!(w==0) then (match qcv c x.ID with|some (r5,r6)=>(bif !(r6==0) then some (.inr (.inr (r6,o5,()))) else some (.inl (record,((i+1:Nat):Int),r5,v,())))|none=>none) else some (.inl (record,((i+1:Nat):Int),c,v,()))):=by
   simp -zeta only[a3u,hl,dlt hlt,yac,d8,hx,p2,a06,hsu];dsimp only;cases x.Record==record<;>cases x.Custody.State==3<;>cases w==0<;>rfl
  rw[o4,o4,s1,s2];cases hq:(x.Record==record&&x.Custody.State==3)&&!(w==0) with
  |false=>
   simp only[yaa];exact ih (i+1) c (by omega) h hl
  |true=>
   simp only[yac];rcases b0w h hx with ⟨d,q1,q2,⟨hd,hf⟩,hput⟩|⟨d,e,he,q1,q2,hsd⟩
   ·rw[q1,q2];simp only[yai,yam,yaa];rcases ih (i+1) d (by omega) hd (by rw[d7g hf,hl]) with ⟨d2,a1,a2,a3,a4,a5⟩|⟨d2,e,he,hsd,a1,a2⟩
    ·exact .inl ⟨d2,a1,a2,a3,hf.trans a4,(e85 hx hput hq).trans a5⟩
    ·exact .inr ⟨d2,e,he,hsd,a1,a2⟩
   ·have he2:(e==0)=false:=by simpa using he
    rw[q1,q2];simp only[he2,yap,yac];exact .inr ⟨d,e,he,hsd,a7j d record e n (i+1) (k+1) he,rfl⟩
theorem e2o {c:Circ} (h:MidP c) (record:Int):b82 (qbd record ⟨c,0⟩) (qbl c record) (fun d=>MidP d∧Frame c d∧e3f record c d):=by
 have hi:=h.short.items;unfold qbd qbl;rcases d3e (record:=record) (v:=o5) hi c.Items.length 0 c (by omega) h rfl with ⟨d,a1,a2,a3,a4⟩|⟨d,e,he,hsd,a1,a2⟩
 ·have w1:=o6 _ (by rw[m5];omega) a1;have w2:=o6 _ (by rw[m5];omega) a2;rw[show c4 a3t (record,(c.Items.length:Int),0,⟨c,0⟩,())=_ from w1,show c4 a3u (record,0,c,ZN,())=_ from w2];exact .inl ⟨d,rfl,rfl,a3,a4⟩
 ·have w2:=o6 _ (by rw[m5];omega) a2;rw[show c4 a3u (record,0,c,ZN,())=_ from w2];rcases a1 with a1|a1
  ·have w1:=o6 _ (by rw[m5];omega) a1;rw[show c4 a3t (record,(c.Items.length:Int),0,⟨c,0⟩,())=_ from w1];exact .inr ⟨d,e,he,rfl,rfl,hsd⟩
  ·have w1:=o6 _ (by rw[m5];omega) a1;rw[show c4 a3t (record,(c.Items.length:Int),0,⟨c,0⟩,())=_ from w1];exact .inr ⟨d,e,he,rfl,rfl,hsd⟩
theorem a7g (c:Circ) (record e:Int) (he:e≠0):qbd record ⟨c,e⟩=some ((),⟨c,e⟩):=by
 unfold qbd;rcases a7j c record e c.Items.length 0 0 he with a1|a1
 ·have w1:=o6 _ (by rw[m5];omega) a1;rw[show c4 a3t (record,(c.Items.length:Int),0,⟨c,e⟩,())=_ from w1]
 ·have w1:=o6 _ (by rw[m5];omega) a1;rw[show c4 a3t (record,(c.Items.length:Int),0,⟨c,e⟩,())=_ from w1]
end
section
end
section
theorem c6v {l:List Hold}:(∀i x,l[i]?=some x→t8 l i (fun y=>decide (x.ID≤y.ID))=false)↔l.Pairwise (fun a b=>a.ID<b.ID):=by
 constructor
 ·intro h;rw[ya1];intro i j hi hj hij;exact a1v (key:=fun y:Hold=>y.ID) h j i l[i] l[j] hij (yab hi) (yab hj)
 ·intro h i x hx;cases i with
  |zero=>rfl
  |succ j=>
   unfold t8;simp only;have hi:=(yaE.1 hx)
   have hj:j<l.length:=by have:=hi.1;omega
   rw[yab hj];have:=(ya1.1 h) j (j+1) hj hi.1 (by omega);rw[hi.2]at this;simp only[yag];omega
end
section
def b87 (l:List Charge) (c:Charge):List Charge×Int:=bif !(o1 (l++[c])==0) then ([],o1 (l++[c])) else (l++[c],0)
theorem h0a {l:List Charge} {c:Charge} (hl:l.length<1000000):qb2 l c=some (b87 l c):=by
 have l1:decide (l.length+([c]:List Charge).length≤LIM)=true:=a4b (by simp;omega);have l0:decide (l.length≤LIM)=true:=by rw[yae];unfold LIM;omega
 unfold qb2 b87;simp only[l0,l1,yac,h0d (show (l++[c]).length<1000000000 by simp;omega)];cases !(o1 (l++[c])==0)<;>rfl
theorem d1j {X:Type}:∀(l o:List X),l.foldl (fun s x=>s++[x]) o=o++l:=by
 intro l
 induction l with
 |nil=>intro o;simp
 |cons x l ih=>intro o;rw[ybj,ih];simp
theorem h0g {l:List Charge} {c:Charge} (hl:l.length<1000000):qbo l c=some (b87 l c):=by
 have hw:=m0 (step:=b57) (fun (i:Nat) (s:List Charge)=>s.length≤i) (fun i s=>(l,(i:Int),c,s,())) l
  (fun i x s=>.inl (s++[x])) (fun s=>(c,s,())) (by rw[m5];omega)
  (fun s _=>by simp only[b57,dge,yaa])
  (fun i x s hx hi=>by
   have hlt:=(zL hx)
   have l1:∀z:Charge,decide (s.length+([z]:List Charge).length≤LIM)=true:=fun z=>a4b (by simp;omega)
   refine ⟨?_,fun s' hs'=>?_⟩
   ·simp only[b57,dlt hlt,d8,hx,yac,l1,g9 (show i<9223372036854775807 by omega)]
   ·cases hs'
    simp;omega) [] (by simp)
 rw[a1i,d1j,ya7]at hw;have l1:decide (l.length+([c]:List Charge).length≤LIM)=true:=a4b (by simp;omega);unfold qbo b87;rw[show c4 b57 (l,0,c,([]:List Charge),())=_ from hw];simp only[l1,yac,f3e (show (l++[c]).length<1000000000 by simp;omega)];cases !(o1 (l++[c])==0)<;>rfl
def a4f (c:Circ) (l:List Charge) (n:Int):Circ:=⟨c.Today,c.Items,c.Patrons,c.Loans,c.Holds,l,c.Rules,c.Cals,c.Moves,c.NextHold,n,c.Local⟩
theorem b9x {c:Circ} (h:MidP c) {l:List Charge} (hl:l.length<1000000) (n:Int):MidP (a4f c l n):=by
 obtain ⟨⟨a1,a2,a3,a4,a5,a6,a7,a8,a9,a10,a11,a12,a13⟩,h2,h3,h4,h5,h6,h7,h8,h9,h10,h11⟩:=h;exact ⟨⟨a1,a2,a3,a4,by show l.length<_;omega,a6,a7,a8,a9,a10,a11,a12,a13⟩,h2,h3,h4,h5,h6,h7,h8,h9,h10,hl⟩
theorem e3r {l:List Charge} {x:Charge} (h:(b87 l x).2=0):(b87 l x).1=l++[x]∧o1 (l++[x])=0:=by
 unfold b87 at h ⊢;by_cases he:o1 (l++[x])=0
 ·simp only[he,yai,yam,yaa,and_self]
 ·have he2:(o1 (l++[x])==0)=false:=by simpa using he
  rw[he2]at h;exact absurd h he
theorem a8z {c:Circ} (h:MidP c) (vid item kind amount:Int):b82 (qdt vid item kind amount ⟨c,0⟩) (qdy c vid item kind amount)
 (fun d=>d=a4f c (c.Charges++[⟨c.NextCharge,vid,item,c.Today,kind,amount,0⟩]) (wr .i64 (c.NextCharge+1))∧o1 (c.Charges++[⟨c.NextCharge,vid,item,c.Today,kind,amount,0⟩])=0∧c.NextCharge≤99999):=by
 unfold qdt qdy;simp only[yai,yam,yaa,h0a h.chN,h0g h.chN];cases hq:decide (99999<c.NextCharge) with
 |true=>exact .inr ⟨c,13,by decide,rfl,rfl,h.short⟩
 |false=>
  have hq:¬99999<c.NextCharge:=by simpa using hq
  simp only[yaa];have ho:=e3r (l:=c.Charges) (x:=⟨c.NextCharge,vid,item,c.Today,kind,amount,0⟩);generalize b87 c.Charges ⟨c.NextCharge,vid,item,c.Today,kind,amount,0⟩=q at ho ⊢;obtain ⟨l,e⟩:=q;by_cases he:e=0
  ·subst he;have:=ho rfl;exact .inl ⟨a4f c l (wr .i64 (c.NextCharge+1)),rfl,rfl,by rw[←this.1],this.2,by omega⟩
  ·have he2:(e==0)=false:=by simpa using he
   simp only[he2,yap,yac];exact .inr ⟨c,e,he,by simp only[qs,yai,yac],rfl,h.short⟩
theorem b1j (c:Circ) (vid item kind amount e0:Int) (h0:e0≠0):qdt vid item kind amount ⟨c,e0⟩=some ((),⟨c,e0⟩):=by
 have h:(e0==0)=false:=by simpa using h0
 unfold qdt;simp only[h,yap,yac]
theorem a7m {l:List Charge} (h:o1 l=0):l.length<1000000:=by have:=(d08 h).1;omega
def a93 (l:List Hold) (item:Int):List Hold×Int:=
 match l.find? (fun h=>h.Got==item) with
 |none=>([],9)
 |some x=>bif item==0 then ([],9) else (l.set (a7b (fun h=>h.Got==item) l).toNat (b8w x 0 1 0),0)
theorem g94 {l:List Hold} {item:Int} (hl:l.length<1000000000):qao l item=some (a93 l item):=by
 unfold qao a93;rw[c2m (p:=fun (g:Unit×Int×Unit) x0=>qdf x0 g.2.1) (g:=((),(item,()))) (fun x=>x.Got==item) hl (fun x _=>rfl)];rcases o8 (fun x:Hold=>x.Got==item) l with ⟨h1,h2⟩|⟨i,x,h1,h2,h3,h4⟩
 ·rw[h1,h2];rfl
 ·rw[h1,h4];simp only[a52,yaa,yaK,d8,h2,f3s hl h2];cases item==0<;>rfl
theorem f3n {l:List Hold} {item:Int} (hl:l.length<1000000000) (hsort:∀i x,l[i]?=some x→t8 l i (fun y=>decide (x.ID≤y.ID))=false):qbn l item=some (a93 l item):=by
 unfold qbn a93;have h:=t7 (step:=b56) (fun i=>(l,item,(i:Int),())) l (fun x=>!(item==0)&&x.Got==item) (fun i x=>(.inr (l.set i (b8w x 0 1 0),0,()):Unit⊕(List Hold×Int×Unit))) (.inl ()) hl
  (by simp only[b56,dge,yaa])
  (fun i x hx=>by
   have hi:=(zL hx)
   have hw:=d9s (l:=l) (y:=b8w x 0 1 0) hl;rw[a63 hsort hx (y:=b8w x 0 1 0) rfl]at hw;simp -zeta only[b56,dlt hi,d8,hx,yac,s8,g9 (show i<9223372036854775807 by omega)];rw[show qah l (⟨x.ID,x.Patron,x.Record,x.Item,x.Pickup,x.Placed,1,0,0,x.Asleep,x.Rank⟩:Hold)=_ from hw])
 rw[show c4 b56 (l,item,0,())=_ from h];have key:∀(p:Hold→Bool) (m:List Hold) (k:Nat),a2t p (fun i x=>(.inr (l.set i (b8w x 0 1 0),0,()):Unit⊕(List Hold×Int×Unit))) (.inl ()) k m =
  (match m.find? p with|some x=>.inr (l.set (k+(a7b p m).toNat) (b8w x 0 1 0),0,())|none=>.inl ()):=by
  intro p m
  induction m with
  |nil=>intro k;rfl
  |cons x m ih=>
   intro k;simp only[a2t,List.find?_cons];cases hp:p x with
   |true=>
    have:a7b p (x::m)=0:=by unfold a7b;simp[ybV,hp]
    simp[this]
   |false=>
    simp only[yaa,ih];rcases o8 p m with ⟨a1,a2⟩|⟨i,y,a1,a2,a3,a4⟩
    ·rw[a2]
    ·have e2:a7b p (x::m)=((i+1:Nat):Int):=by
      unfold a7b at a1 ⊢;simp only[ybV,hp];cases hf:m.findIdx? p with
      |none=>rw[hf]at a1;simp at a1<;>omega
      |some j=>rw[hf]at a1;simp at a1 ⊢;omega
     rw[a4,a1,e2];simp only[yaK];rw[show k+1+i=k+(i+1) by omega]
 rw[key];cases h0:item==0 with
 |true=>
  have e:(fun x:Hold=>!true&&x.Got==item)=fun _=>false:=by funext x;rfl
  rw[e];have:l.find? (fun _:Hold=>false)=none:=by rw[ybr];simp
  rw[this];cases l.find? (fun h=>h.Got==item)<;>rfl
 |false=>
  have e:(fun x:Hold=>!false&&x.Got==item)=fun x=>x.Got==item:=by funext x;rfl
  rw[e,yaH];cases l.find? (fun h=>h.Got==item)<;>rfl
theorem c0d {l:List Hold} {item:Int} (h:(a93 l item).2=0):(a93 l item).1.map a1c=l.map a1c:=by
 unfold a93 at h ⊢;rcases o8 (fun x:Hold=>x.Got==item) l with ⟨h1,h2⟩|⟨i,x,h1,h2,h3,h4⟩
 ·rw[h2]at h;cases h
 ·rw[h4]at h ⊢;simp only at h ⊢;cases hq:item==0 with
  |true=>rw[hq]at h;cases h
  |false=>
   simp only[yaa,h1,yaK];exact a1d h2 rfl
theorem b34 (c:Circ) (l:List Hold) (e e0:Int) (h0:e0≠0):qcb l e ⟨c,e0⟩=some ((),⟨u0 c c.Holds,e0⟩):=by
 have h:(e0==0)=false:=by simpa using h0
 unfold qcb qs;simp only[h,yaa];cases !(e==0)<;>simp only[yac,yaa,h]<;>rfl
theorem d19 {c:Circ} (h:MidP c) {item:Int}:d3w (qc6 c item) (qdn c item):=by
 unfold qc6 qdn;simp -zeta only[qcd,a4l h.short,a06];rcases a25 h item with ⟨h1,h2,-⟩|⟨i,x,h1,h2,hx,hid,-⟩
 ·rw[h1,h2];exact a02
 ·subst hid;rw[h1,h2];simp -zeta only[a52,yaa,a9n hx,d8,hx];dsimp only;cases (x.Custody.State==4||x.Custody.State==9) with
  |true=>
   simp only[yac];rcases a4o h hx 12 x.Custody.Branch 0 with ⟨u,ha,m1,m2,hm2⟩|⟨e,he,m1,m2⟩
   ·rw[m1,m2];simp only[yai,yam,yaa];cases x.Price==0 with
    |true=>exact ⟨_,0,rfl,rfl,hm2.short⟩
    |false=>
     simp only[yap,yac,yaa];rcases a8z hm2 x.Custody.Who x.ID 2 x.Price with ⟨d,q1,q2,hd,hd2,-⟩|⟨d,e,he,q1,q2,hsd⟩
     ·rw[q1,q2];exact ⟨d,0,rfl,rfl,by rw[hd];exact (b9x hm2 (a7m hd2) _).short⟩
     ·rw[q1,q2];simp only[a0h d e he];exact a02
   ·have he2:(e==0)=false:=by simpa using he
    rw[m1,m2];simp only[b1j _ _ _ _ _ _ he,a0h c e he,he2,yap,yac];cases !(x.Price==0)<;>exact a02
  |false=>
   simp only[yaa,a9t h.short.holds,g94 h.short.holds];rcases a4o h hx 13 x.Custody.Branch 0 with ⟨u,ha,m1,m2,hm2⟩|⟨e,he,m1,m2⟩
   ·rw[m1,m2];simp only[yai,yam,yaa,c51 hm2.short.holds];rw[show o7 (p8 c i x ⟨c.Today,x.ID,13,x.Custody.Branch,0⟩ u) x.ID=o7 c x.ID from rfl];have hk:=c0d (l:=c.Holds) (item:=x.ID);have rd:=f3n (item:=x.ID) hm2.short.holds hm2.sorted;generalize hc2:p8 c i x ⟨c.Today,x.ID,13,x.Custody.Branch,0⟩ u=c2 at hm2 rd ⊢;have hH:c2.Holds=c.Holds:=by rw[←hc2];rfl
    rw[hH]at rd;simp only[hH,rd];cases (o7 c x.ID).2 with
    |false=>exact ⟨c2,0,rfl,rfl,hm2.short⟩
    |true=>
     simp only[yac,yam,yaa];generalize a93 c.Holds x.ID=q at hk ⊢;obtain ⟨l,e⟩:=q;by_cases he:e=0
     ·subst he;have hm3:=a8j hm2 (l:=l) (by rw[hH];exact hk rfl);simp only[b66,yai,yam,yaa];rcases e2o hm3 x.Record with ⟨d,a1,a2,a3,-⟩|⟨d,e,he,a1,a2,hsd⟩
      ·dsimp only[u0]at a1 a2 ⊢;rw[a1,a2];exact ⟨d,0,rfl,rfl,a3.short⟩
      ·dsimp only[u0]at a1 a2 ⊢;rw[a1,a2];simp only[a0h d e he];exact a02
     ·have he2:(e==0)=false:=by simpa using he
      simp only[a4u c2 l e he,a7g _ _ _ he,a0h _ e he,he2,yap,yac];exact a02
   ·have he2:(e==0)=false:=by simpa using he
    rw[m1,m2];simp only[a0h c e he,he2,yap,yac];cases (o7 c x.ID).2 with
    |true=>
     simp only[yac];generalize a93 c.Holds x.ID=q;obtain ⟨l,e2⟩:=q;simp only[b34 _ _ _ _ he,a7g _ _ _ he,a0h _ e he];exact a02
    |false=>exact a02
end
section
def a7l (l:List Loan) (item:Int):List Loan×Loan×Int:=
 match l.find? (fun n=>n.Item==item) with
 |some n=>(l.take (a7b (fun n=>n.Item==item) l).toNat++l.drop ((a7b (fun n=>n.Item==item) l).toNat+1),n,0)
 |none=>([],g9s,9)
theorem h0n {l:List Loan} {item:Int} (hl:l.length<100000000):qdk l item=some (a7l l item):=by
 have hl2:l.length<1000000000:=by omega
 unfold qdk a7l qbp;dsimp only;rw[b7w hl2];rcases o8 (fun x:Loan=>x.Item==item) l with ⟨h1,h2⟩|⟨i,x,h1,h2,h3,h4⟩
 ·rw[h2];rfl
 ·have hlt:=(zL h2)
  have hc:qdc l=some l:=by unfold qdc;rw[b0c hl2];rfl
  have hd:qda l (i:Int) ((i+1:Nat):Int)=some (l.take i++l.drop (i+1)):=by
   show b1h l (i:Int) ((i+1:Nat):Int)=_
   unfold b1h;have d1:decide ((0:Int)≤(i:Int))=true:=by rw[yae];omega
   have d2:decide ((i:Int)≤((i+1:Nat):Int))=true:=by rw[yae];omega
   have d3:decide (((i+1:Nat):Int)≤(l.length:Int))=true:=by rw[yae];omega
   have d4:decide (l.length≤1073741824)=true:=by rw[yae];omega
   simp only[d1,d2,d3,d4,Bool.and_self,yac,yaK]
  rw[h4,h1];unfold qei;simp only[a52,yaa,hc,g9 (show i<9223372036854775807 by omega),hd,yaK]
theorem f32 {l:List Loan} {item:Int} (hl:l.length<100000000):qex l item=some (a7l l item):=by
 have hl2:l.length<1000000000:=by omega
 unfold qex a7l;rw[f3d hl2];rcases o8 (fun x:Loan=>x.Item==item) l with ⟨h1,h2⟩|⟨i,x,h1,h2,h3,h4⟩
 ·rw[h1,h2];rfl
 ·have hlt:=(zL h2)
  have d1:decide ((0:Int)≤(i:Int))=true:=by rw[yae];omega
  have d2:decide ((i:Int)≤(l.length:Int))=true:=by rw[yae];omega
  have d3:decide (((i+1:Nat):Int)≤(l.length:Int))=true:=by rw[yae];omega
  have d4:decide ((0:Int)≤((i+1:Nat):Int))=true:=by rw[yae];omega
  have d5:decide ((0:Int)≤0)=true:=rfl;have d6:decide ((l.length:Int)≤(l.length:Int))=true:=by simp
  have t0:((l.take i).drop (0:Int).toNat)=l.take i:=by simp
  have t1:(l.take (l.length:Int).toNat)=l:=by simp
  have l1:decide (([]:List Loan).length+(l.take i).length≤LIM)=true:=a4b (by rw[ya5];simp;omega);have l2:decide (([]++l.take i).length+(l.drop (i+1)).length≤LIM)=true:=a4b (by rw[ya7,ya5,ya9];omega);rw[h1,h4];simp only[a52,yaa,d1,d2,d3,d4,d5,d6,Bool.and_self,yac,g9 (show i<9223372036854775807 by omega),yaK,t0,t1,l1,l2,d8,h2,ya7,List.take_length];have l3:decide ((l.take i).length+(l.drop (i+1)).length≤LIM)=true:=a4b (by rw[ya5,ya9];omega);rw[l3]
  try rfl
theorem e33 {l:List Loan} {item:Int} (hl:l.length<1000000000):(a7l l item).1.length<1000000000:=by
 unfold a7l;cases l.find? (fun n=>n.Item==item) with
 |none=>simp
 |some n=>
  simp only[yaM,ya5,ya9];omega
theorem c00 {c:Circ} (h:MidP c) {l:List Loan} (hl:l.length<1000000000):MidP (j8 c l):=by
 obtain ⟨⟨a1,a2,a3,a4,a5,a6,a7,a8,a9,a10,a11,a12,a13⟩,h2,h3,h4,h5,h6,h7,h8,h9,h10,h11⟩:=h;exact ⟨⟨a1,a2,hl,a4,a5,a6,a7,a8,a9,a10,a11,a12,a13⟩,h2,h3,h4,h5,h6,h7,h8,h9,h10,h11⟩
end
section
def b8v (p:Int→Bool) (f:Int):Nat→Int
 |0=>0
 |k+1=>b8v p f k+(bif p (f+k) then 1 else 0)
theorem c36 {p:Int→Bool} {f:Int}:∀k:Nat,0≤b8v p f k∧b8v p f k≤k:=by
 intro k
 induction k with
 |zero=>exact ⟨by simp[b8v],by simp[b8v]⟩
 |succ k ih=>
  simp only[b8v];cases p (f+k)<;>simp only[yac,yaa]<;>omega
theorem b08 {p:Int→Bool} {f:Int} {k:Nat}:b8v p f (k+1)=b8v p f k+(bif p (f+k) then 1 else 0):=rfl
theorem d5i {p:Int→Bool}:∀(k:Nat) (f:Int),b8v p f (k+1)=(bif p f then 1 else 0)+b8v p (f+1) k:=by
 intro k
 induction k with
 |zero=>intro f;simp[b8v]
 |succ k ih=>
  intro f;rw[b08,ih f,b08];rw[show f+((k+1:Nat):Int)=f+1+(k:Int) by omega];omega
theorem g2q {c:Calendar} (hc:CalOk c) {t:Int}:∀(k:Nat) (d n:Int),0≤d→d+k=(if 109572<t then 109572 else t)+1→0≤n→n+k<1000000000→o4 b2u (k+1) (t,n,d,c,())=some (n+b8v (a8r c) d k,()):=by
 intro k
 induction k with
 |zero=>
  intro d n h0 h1 h2 h3;have:decide (d≤(if 109572<t then 109572 else t))=false:=by rw[yag];omega
  simp only[o4,b2u,this,yaa,b8v,Int.add_zero]
 |succ k ih=>
  intro d n h0 h1 h2 h3;have hd:decide (d≤(if 109572<t then 109572 else t))=true:=by rw[yae];omega
  have hb:d<200000:=by split at h1<;>omega
  rw[o4];simp only[b2u,hd,yac,g2y hc];rw[d5i,a0x (n:=d+1) (by omega) (by omega),a0x (n:=n+1) (by omega) (by omega)];cases a8r c d with
  |true=>
   simp only[yac];rw[ih (d+1) (n+1) (by omega) (by omega) (by omega) (by omega)];rw[Int.add_assoc]
  |false=>
   simp only[yaa];rw[ih (d+1) n (by omega) (by omega) (by omega) (by omega),Int.zero_add]
theorem h0e {c:Calendar} (hc:CalOk c) (f t:Int):qbk c f t=some (b8v (a8r c) (if f<0 then 0 else f) ((if 109572<t then 109572 else t)+1-(if f<0 then 0 else f)).toNat):=by
 unfold qbk;generalize hF:(if f<0 then 0 else f)=F;have hF0:0≤F:=by rw[←hF];split<;>omega
 have hT:(if 109572<t then 109572 else t)≤109572:=by split<;>omega
 by_cases hk:F≤(if 109572<t then 109572 else t)+1
 ·have:=g2q hc (t:=t) ((if 109572<t then 109572 else t)+1-F).toNat F 0 hF0 (by omega) (by omega) (by omega);rw[o6 _ (by rw[m5];omega) this,Int.zero_add]
 ·have h0:((if 109572<t then 109572 else t)+1-F).toNat=0:=by omega
  have hd:decide (F≤(if 109572<t then 109572 else t))=false:=by rw[yag];omega
  have:o4 b2u 1 (t,0,F,c,())=some (0,()):=by simp only[o4,b2u,hd,yaa]
  rw[o6 _ (by rw[m5];omega) this,h0]
  try rfl
def upS (d w:Int):Int:=if d<w then 0 else (d-w) / 7+1
theorem b6i {d:Int} (h:rng 0 109572 d=true):qcq d=some (d.tmod 7):=by
 have e:qet d=some (rng 0 109572 d):=by
  unfold qet;simp -zeta only[s8]
  try rfl
 unfold qcq;rw[e,h]
 try rfl
theorem e2y {d w:Int} (h0 : -1≤d) (h1:d≤109572) (h2:0≤w) (h3:w<7):qdx d w=some (upS d w):=by
 unfold qdx upS;rw[b6i rfl];have e0:(0:Int).tmod 7=0:=rfl;simp only[e0];rw[a0x (n:=w-0) (by omega) (by omega),a0x (n:=w-0+7) (by omega) (by omega)];have e1:(w-0+7).tmod 7=w:=by rw[Int.tmod_eq_emod_of_nonneg (by omega)];omega
 rw[e1];by_cases hd:d<w
 ·simp only[hd,decide_true,yac,ybB]
 ·simp only[hd,decide_false,yaa,ybk];rw[a0x (n:=d-w) (by omega) (by omega),Int.tdiv_eq_ediv_of_nonneg (by omega),a0x (n:=(d-w) / 7) (by omega) (by omega),a0x (by omega) (by omega)]
theorem e9l {d w:Int} (h0:0≤d) (h2:0≤w) (h3:w<7):upS d w=upS (d-1) w+(if d % 7=w then 1 else 0):=by
 unfold upS;split<;>split<;>split<;>omega
theorem a68 {d w:Int} (h0 : -1≤d) (h1:d≤109572) (h2:0≤w) (h3:w<7):0≤upS d w∧upS d w≤20000:=by
 unfold upS;split<;>omega
def wk (c:Calendar):V7 Bool:=⟨y9 c.Week 0,y9 c.Week 1,y9 c.Week 2,y9 c.Week 3,y9 c.Week 4,y9 c.Week 5,y9 c.Week 6⟩
def u4 (c:Calendar) (f t:Int) (w:Nat):Int:=bif y9 c.Week w then upS t w-upS (f-1) w else 0
theorem e3s {b:Bool} {n a:Int} (hn : -1000000≤n) (hn2:n≤1000000) (ha : -100000≤a) (ha2:a≤100000) {α:Type} (k:Int→α):(bif b then k (wr .i64 (n+wr .i64 a)) else k n)=k (n+(bif b then a else 0)):=by
 cases b with
 |true=>simp only[yac];rw[a0x (n:=a) (by omega) (by omega),a0x (by omega) (by omega)]
 |false=>simp only[yaa,Int.add_zero]
theorem p9 {c:Calendar} {f t:Int} {w:Nat} (hf:0≤f) (hf2:f≤109573) (ht : -1≤t) (ht2:t≤109572) (hw:w<7) : -20000≤u4 c f t w∧u4 c f t w≤20000:=by
 unfold u4;have a:=a68 ht ht2 (show 0≤(w:Int) by omega) (by omega);have b:=a68 (d:=f-1) (by omega) (by omega) (show 0≤(w:Int) by omega) (by omega);cases y9 c.Week w<;>simp only[yac,yaa]<;>omega
theorem b97 {c:Calendar} {f t:Int} (hf:0≤f) (hf2:f≤109573) (ht : -1≤t) (ht2:t≤109572):c4 c5e (f,t,0,wk c,0,c,wk c,()) =
 some (f,t,u4 c f t 0+u4 c f t 1+u4 c f t 2+u4 c f t 3+u4 c f t 4+u4 c f t 5+u4 c f t 6,c,wk c,()):=by
 have st:∀(w:Nat) (n:Int),w<7→-200000≤n→n≤200000→c5e (f,t,n,wk c,(w:Int),c,wk c,())=some (.inl (f,t,n+u4 c f t w,wk c,((w+1:Nat):Int),c,wk c,())):=by
  intro w n hw h1 h2;have u1:=e2y ht ht2 (show 0≤(w:Int) by omega) (by omega);have u2:=e2y (d:=f-1) (by omega) (by omega) (show 0≤(w:Int) by omega) (by omega);have b1:=a68 ht ht2 (show 0≤(w:Int) by omega) (by omega);have b2:=a68 (d:=f-1) (by omega) (by omega) (show 0≤(w:Int) by omega) (by omega);have hd:decide ((w:Int)<7)=true:=by rw[yae];omega
  have hw1:wr .i64 (f-1)=f-1:=a0x (by omega) (by omega);have hw2:=g9 (show w<9223372036854775807 by omega);unfold u4;simp -zeta only[c5e,hd,yac,u1,hw1,u2,hw2];dsimp only;have ap:=fun b=>e3s (b:=b) (n:=n) (a:=upS t w-upS (f-1) w) (by omega) (by omega) (by omega) (by omega) (fun n7=>(some (.inl (f,t,n7,wk c,((w+1:Nat):Int),c,wk c,())):Option ((Int×Int×Int×(V7 Bool)×Int×Calendar×(V7 Bool)×Unit)⊕((Int×Int×Int×Calendar×(V7 Bool)×Unit)))))
  have hcs:w=0∨w=1∨w=2∨w=3∨w=4∨w=5∨w=6:=by omega
  rcases hcs with h|h|h|h|h|h|h<;>subst h<;>exact ap _
 have p0:=p9 (c:=c) hf hf2 ht ht2 (show 0<7 by omega);have p1:=p9 (c:=c) hf hf2 ht ht2 (show 1<7 by omega);have p2:=p9 (c:=c) hf hf2 ht ht2 (show 2<7 by omega);have p3:=p9 (c:=c) hf hf2 ht ht2 (show 3<7 by omega);have p4:=p9 (c:=c) hf hf2 ht ht2 (show 4<7 by omega);have p5:=p9 (c:=c) hf hf2 ht ht2 (show 5<7 by omega);have p6:=p9 (c:=c) hf hf2 ht ht2 (show 6<7 by omega);refine o6 8 (by rw[m5];omega) ?_;have s0:=st 0 0 (by omega) (by omega) (by omega);have s1:=st 1 (0+u4 c f t 0) (by omega) (by omega) (by omega);have s2:=st 2 (0+u4 c f t 0+u4 c f t 1) (by omega) (by omega) (by omega);have s3:=st 3 (0+u4 c f t 0+u4 c f t 1+u4 c f t 2) (by omega) (by omega) (by omega);have s4:=st 4 (0+u4 c f t 0+u4 c f t 1+u4 c f t 2+u4 c f t 3) (by omega) (by omega) (by omega);have s5:=st 5 (0+u4 c f t 0+u4 c f t 1+u4 c f t 2+u4 c f t 3+u4 c f t 4) (by omega) (by omega) (by omega);have s6:=st 6 (0+u4 c f t 0+u4 c f t 1+u4 c f t 2+u4 c f t 3+u4 c f t 4+u4 c f t 5) (by omega) (by omega) (by omega);rw[o4,show c5e (f,t,0,wk c,0,c,wk c,())=_ from s0];simp only;rw[o4,s1];simp only;rw[o4,s2];simp only;rw[o4,s3];simp only;rw[o4,s4];simp only;rw[o4,s5];simp only;rw[o4,s6];simp only;rw[o4];rw[Int.zero_add]
 try rfl
def a8u (c:Calendar) (f t:Int) (x:Int):Bool:=decide (f≤x)&&decide (x≤t)&&y9 c.Week (x.tmod 7).toNat
theorem h3t (c:Calendar) {α:Type} (k:Bool→α) (d:α) {r:Int} (h0:0≤r) (h1:r<7):(bif r==0 then k (wk c).x0 else bif r==1 then k (wk c).x1 else bif r==2 then k (wk c).x2 else bif r==3 then k (wk c).x3 else bif r==4 then k (wk c).x4 else bif r==5 then k (wk c).x5 else bif r==6 then k (wk c).x6 else d)=k (y9 c.Week r.toNat):=by
 have hcs:r=0∨r=1∨r=2∨r=3∨r=4∨r=5∨r=6:=by omega
 rcases hcs with h|h|h|h|h|h|h<;>subst h<;>rfl
theorem b62 {c:Calendar} {f t n:Int} {l:List Int} (hl:l.length<1000000000) (hf:0≤f) (ht:t≤109572) (hn : -1000000≤n) (hn2:n≤1000000) :
 c4 b5e (f,t,n,l,(l.length:Int),0,wk c,())=some (n-(l.filter (a8u c f t)).length,()):=by
 have h:=m0 (step:=b5e) (fun (i:Nat) (s:Int)=>-1000000-(i:Int)≤s∧s≤1000000) (fun i s=>(f,t,s,l,(l.length:Int),(i:Int),wk c,())) l
  (fun i x s=>.inl (bif a8u c f t x then s-1 else s)) (fun s=>(s,())) (by rw[m5];omega)
  (fun s _=>by simp only[b5e,dge,yaa])
  (fun i x s hx hi=>by
   have hlt:=(zL hx)
   obtain ⟨b1,b2⟩:=hi;have hw:wr .i64 (s-1)=s-1:=a0x (by omega) (by omega);refine ⟨?_,fun s' hs'=>?_⟩
   ·simp -zeta only[b5e,dlt hlt,d8,hx,yac,s8,g9 (show i<9223372036854775807 by omega),hw];unfold a8u;cases hq:(decide (f≤x)&&decide (x≤t)) with
    |false=>rfl
    |true=>
     simp only[yad,yae]at hq;have hr:rng 0 109572 x=true:=by rw[w6];omega
     have hm:=g54 (d:=x) (by omega);dsimp only;rw[b6i hr];simp only[yac,yaQ];rw[h3t c (fun v17=>(bif v17 then some (.inl (f,t,s-1,l,(l.length:Int),((i+1:Nat):Int),wk c,())) else some (.inl (f,t,s,l,(l.length:Int),((i+1:Nat):Int),wk c,())):Option ((Int×Int×Int×(List Int)×Int×Int×(V7 Bool)×Unit)⊕((Int×Unit))))) none hm.1 hm.2];cases y9 c.Week (x.tmod 7).toNat<;>rfl
   ·cases hs'
    cases a8u c f t x<;>simp only[yac,yaa]<;>omega) n (by omega)
 rw[a1i]at h;have key:∀(m:List Int) (s:Int),m.foldl (fun s x=>bif a8u c f t x then s-1 else s) s=s-(m.filter (a8u c f t)).length:=by
  intro m
  induction m with
  |nil=>intro s;simp
  |cons x m ih=>
   intro s;rw[ybj,ih,ybh];cases a8u c f t x with
   |true=>simp only[yac,ybB,yaB];omega
   |false=>simp
 rw[key]at h;exact h
theorem c4l (p r:Int→Bool):∀(l:List Int),(∀x∈l,¬(p x=true∧r x=true))→(l.filter (fun x=>p x||r x)).length=(l.filter p).length+(l.filter r).length:=by
 intro l
 induction l with
 |nil=>intro _;rfl
 |cons x l ih=>
  intro h;have hx:=h x (yaD ..);have:=ih (fun y hy=>h y (yaP _ hy));simp only[ybh];cases hp:p x<;>cases hr:r x<;>simp_all<;>omega
theorem d60 {d:Int} {q:Int→Bool}:∀{l:List Int},(∀(j i:Nat) (x y:Int),i<j→l[i]?=some x→l[j]?=some y→x<y)→(l.filter (fun x=>x==d&&q x)).length=if (l.any (fun x=>x==d)&&q d)=true then 1 else 0:=by
 intro l
 induction l with
 |nil=>intro _;rfl
 |cons x l ih=>
  intro h;have h2:∀(j i:Nat) (x y:Int),i<j→l[i]?=some x→l[j]?=some y→x<y:=fun j i a b hij ha hb=>h (j+1) (i+1) a b (by omega) (by simpa using ha) (by simpa using hb)
  have ih:=ih h2;rw[ybh,List.any_cons];by_cases e:x=d
  ·subst e;have hn:l.any (fun y=>y==x)=false:=by
    rw[ybM];intro y hy he;obtain ⟨j,hj⟩:=yaI hy;have:=h (j+1) 0 x y (by omega) (by simp) (by simpa using hj);have:y=x:=by simpa using he
    omega
   rw[hn]at ih;simp only[yai,yaQ,Bool.true_or,yaV]at ih ⊢;cases q x with
   |true=>simp only[ybB,yaB];rw[ih];rfl
   |false=>simp only[yaF,ybk];exact ih
  ·have e2:(x==d)=false:=by simpa using e
   simp only[e2,yaV,ybu,yaF,ybk];exact ih
theorem e9i (c:Calendar) (f d:Int) (h0:0≤d):u4 c f d 0+u4 c f d 1+u4 c f d 2+u4 c f d 3+u4 c f d 4+u4 c f d 5+u4 c f d 6 =
 (u4 c f (d-1) 0+u4 c f (d-1) 1+u4 c f (d-1) 2+u4 c f (d-1) 3+u4 c f (d-1) 4+u4 c f (d-1) 5+u4 c f (d-1) 6)+(bif y9 c.Week (d.tmod 7).toNat then 1 else 0):=by
 have st:∀w:Nat,w<7→u4 c f d w=u4 c f (d-1) w+(bif y9 c.Week w then (if d % 7=w then 1 else 0) else 0):=by
  intro w hw;unfold u4;have:=e9l (d:=d) (w:=w) h0 (by omega) (by omega);cases y9 c.Week w<;>simp only[yac,yaa]<;>omega
 rw[st 0 (by omega),st 1 (by omega),st 2 (by omega),st 3 (by omega),st 4 (by omega),st 5 (by omega),st 6 (by omega)];have e:(d.tmod 7).toNat=(d % 7).toNat:=by rw[Int.tmod_eq_emod_of_nonneg h0]
 rw[e];have hcs:d % 7=0∨d % 7=1∨d % 7=2∨d % 7=3∨d % 7=4∨d % 7=5∨d % 7=6:=by omega
 have z:∀b:Bool,(bif b then (0:Int) else 0)=0:=by intro b;cases b<;>rfl
 rcases hcs with h|h|h|h|h|h|h<;>rw[h]<;>simp[z]<;>omega
theorem d6z {c:Calendar} (hc:CalOk c) {f:Int} (hf:0≤f):∀k:Nat,f+k≤109573→
 u4 c f (f+k-1) 0+u4 c f (f+k-1) 1+u4 c f (f+k-1) 2+u4 c f (f+k-1) 3+u4 c f (f+k-1) 4+u4 c f (f+k-1) 5+u4 c f (f+k-1) 6-(c.Closed.filter (a8u c f (f+k-1))).length=b8v (a8r c) f k:=by
 intro k
 induction k with
 |zero=>
  intro _;have z:∀w:Nat,u4 c f (f+((0:Nat):Int)-1) w=0:=by
   intro w;unfold u4;rw[show f+((0:Nat):Int)-1=f-1 by omega];cases y9 c.Week w<;>simp
  have e:c.Closed.filter (a8u c f (f+((0:Nat):Int)-1))=[]:=by
   rw[List.filter_eq_nil_iff];intro x _;unfold a8u;simp only[yad,yae];omega
  rw[z,z,z,z,z,z,z,e]
  try rfl
 |succ k ih=>
  intro hk;have ih:=ih (by omega);rw[b08,←ih];have ed:f+((k+1:Nat):Int)-1=f+(k:Int):=by omega
  rw[ed];rw[e9i c f (f+k) (by omega)];have e1:(c.Closed.filter (a8u c f (f+k))).length=(c.Closed.filter (a8u c f (f+k-1))).length+(c.Closed.filter (fun x=>x==f+k&&y9 c.Week (x.tmod 7).toNat)).length:=by
   rw[←c4l]
   ·congr 1;apply List.filter_congr;intro x _;unfold a8u;by_cases h1:f≤x
    ·by_cases h2:x=f+k
     ·subst h2;have a:decide (f≤f+(k:Int))=true:=by rw[yae];omega
      have b:decide (f+(k:Int)≤f+(k:Int))=true:=by rw[yae];omega
      simp only[a,b,yai,yaQ];cases decide (f+(k:Int)≤f+(k:Int)-1)<;>simp
     ·have a:(x==f+(k:Int))=false:=by simpa using h2
      have b:decide (x≤f+(k:Int))=decide (x≤f+(k:Int)-1):=by rw[decide_eq_decide];omega
      rw[a,b];simp
    ·have a:decide (f≤x)=false:=by rw[yag];exact h1
     have b:(x==f+(k:Int))=false:=by
      have:¬x=f+(k:Int):=by omega
      simpa using this
     rw[a,b]
     try rfl
   ·intro x _;unfold a8u;simp only[yad,yae,ybb];omega
  rw[e1,d60 (b1t hc.inc)];have hr:rng 0 109572 (f+(k:Int))=true:=by rw[w6];omega
  unfold a8r;rw[hr];cases c.Closed.any (fun x=>x==f+(k:Int))<;>cases y9 c.Week ((f+(k:Int)).tmod 7).toNat<;>simp<;>omega
theorem h29 {c:Calendar} (hc:CalOk c) (f t:Int):q8 c f t=some (b8v (a8r c) (if f<0 then 0 else f) ((if 109572<t then 109572 else t)+1-(if f<0 then 0 else f)).toNat):=by
 unfold q8;generalize hF:(if f<0 then 0 else f)=F;generalize hT:(if 109572<t then 109572 else t)=T;have hF0:0≤F:=by rw[←hF];split<;>omega
 have hT0:T≤109572:=by rw[←hT];split<;>omega
 by_cases hk:T<F
 ·have h0:(T+1-F).toNat=0:=by omega
  simp only[hk,decide_true,yac,h0,b8v]
 ·simp only[hk,decide_false,yaa,f3f];rw[show c4 c5e (F,T,0,(⟨y9 c.Week 0,y9 c.Week 1,y9 c.Week 2,y9 c.Week 3,y9 c.Week 4,y9 c.Week 5,y9 c.Week 6⟩:V7 Bool),0,c,(⟨y9 c.Week 0,y9 c.Week 1,y9 c.Week 2,y9 c.Week 3,y9 c.Week 4,y9 c.Week 5,y9 c.Week 6⟩:V7 Bool),())=_ from b97 (c:=c) hF0 (by omega) (by omega) hT0];simp only;have p0:=p9 (c:=c) (f:=F) (t:=T) hF0 (by omega) (by omega) hT0 (show 0<7 by omega);have p1:=p9 (c:=c) (f:=F) (t:=T) hF0 (by omega) (by omega) hT0 (show 1<7 by omega);have p2:=p9 (c:=c) (f:=F) (t:=T) hF0 (by omega) (by omega) hT0 (show 2<7 by omega);have p3:=p9 (c:=c) (f:=F) (t:=T) hF0 (by omega) (by omega) hT0 (show 3<7 by omega);have p4:=p9 (c:=c) (f:=F) (t:=T) hF0 (by omega) (by omega) hT0 (show 4<7 by omega);have p5:=p9 (c:=c) (f:=F) (t:=T) hF0 (by omega) (by omega) hT0 (show 5<7 by omega);have p6:=p9 (c:=c) (f:=F) (t:=T) hF0 (by omega) (by omega) hT0 (show 6<7 by omega);rw[b62 hc.len hF0 hT0 (by omega) (by omega)];simp only;have:=d6z hc hF0 (T+1-F).toNat (by omega);rw[show F+((T+1-F).toNat:Int)-1=T by omega]at this;rw[this]
end
section
theorem g03 {c:Calendar} (hc:CalOk c) {r:Rule} (hr:a9x r=true) (due back:Int):∃v,qdl r c due back=some v∧qey r c due back=some v∧0≤v:=by
 have ec:∀n:Int,qdh n=some (rng 0 109572 n):=fun n=>by
  unfold qdh;simp -zeta only[s8]
  try rfl
 unfold qdl qey;simp -zeta only[h3i hc.len,e0a hc.len,h29 hc,h0e hc,ec,d9y,a06];dsimp only;cases (!(a04 c==0)||!(rng 0 109572 due))||!(rng 0 109572 back) with
 |true=>exact ⟨0,rfl,rfl,by omega⟩
 |false=>
  simp only[yaa];have hb:=c36 (p:=a8r c) (f:=if wr .i64 (due+1)<0 then 0 else wr .i64 (due+1)) ((if 109572<back then 109572 else back)+1-(if wr .i64 (due+1)<0 then 0 else wr .i64 (due+1))).toNat;have hk:((if 109572<back then 109572 else back)+1-(if wr .i64 (due+1)<0 then 0 else wr .i64 (due+1))).toNat≤109573:=by
   have h1:(if 109572<back then 109572 else back)≤109572:=by split<;>omega
   have h2:0≤(if wr .i64 (due+1)<0 then 0 else wr .i64 (due+1)):=by split<;>omega
   omega
  generalize b8v (a8r c) _ _=n at hb ⊢;generalize ((if 109572<back then 109572 else back)+1-(if wr .i64 (due+1)<0 then 0 else wr .i64 (due+1))).toNat=k at hb hk;cases decide (n≤r.Grace) with
  |true=>exact ⟨0,rfl,rfl,by omega⟩
  |false=>
   simp only[yaa];refine ⟨_,rfl,rfl,?_⟩;unfold a9x at hr;simp only[yad,w6]at hr;obtain ⟨⟨⟨⟨⟨_,⟨hf,_⟩,hm⟩,_⟩,_⟩,_⟩,_⟩:=hr;have hp:0≤n*r.Fine:=Int.mul_nonneg hb.1 hf.1;have hq:n*r.Fine≤109573*1000:=Int.mul_le_mul (by omega) hf.2 hf.1 (by omega);rw[a0x (by omega) (by omega)];split<;>omega
def b3f (p item kind:Int) (x:Charge):Bool:=(x.Patron==p&&x.Item==item)&&(kind==0||x.Kind==kind)
theorem f3o {l:List Charge} {p item kind:Int} (hl:l.length<1000000000):∃v,qbr l p item kind=some (l.filter (fun x=>!(b3f p item kind x)),v):=by
 have hq:∀x:Charge,qco x p item kind=some (b3f p item kind x):=fun x=>by
  unfold qco b3f;simp -zeta only[s8,a06]
  try rfl
 have h:=m0 (step:=b5w (fun (g:Unit×Int×Int×Int×Unit) x0=>qco x0 g.2.1 g.2.2.1 g.2.2.2.1)) (fun (i:Nat) (s:Int×Int×List Charge)=>s.2.2.length≤i)
  (fun i s=>(((),(p,item,kind,())),s.1,s.2.1,l,(l.length:Int),(i:Int),s.2.2,())) l
  (fun i x s=>.inl (bif b3f p item kind x then (wr .i64 (s.1+x.Paid),wr .i64 (s.2.1+1),s.2.2) else (s.1,s.2.1,s.2.2++[x]))) (fun s=>(s.1,s.2.1,s.2.2,())) (by rw[m5];omega)
  (fun s _=>by simp only[b5w,dge,yaa])
  (fun i x s hx hi=>by
   have hlt:=(zL hx)
   have l1:∀z:Charge,decide (s.2.2.length+([z]:List Charge).length≤LIM)=true:=fun z=>a4b (by simp;omega)
   refine ⟨?_,fun s' hs'=>?_⟩
   ·simp only[b5w,dlt hlt,d8,hx,yac,hq,l1,g9 (show i<9223372036854775807 by omega)];cases b3f p item kind x<;>rfl
   ·cases hs'
    cases b3f p item kind x<;>simp<;>omega) (0,0,[]) (by simp)
 rw[a1i]at h;have key:∀(m:List Charge) (s:Int×Int×List Charge),∃a b,m.foldl (fun s x=>bif b3f p item kind x then (wr .i64 (s.1+x.Paid),wr .i64 (s.2.1+1),s.2.2) else (s.1,s.2.1,s.2.2++[x])) s=(a,b,s.2.2++m.filter (fun x=>!(b3f p item kind x))):=by
  intro m
  induction m with
  |nil=>intro s;exact ⟨s.1,s.2.1,by simp⟩
  |cons x m ih=>
   intro s;rw[ybj,ybh];cases b3f p item kind x with
   |true=>
    obtain ⟨a,b,e⟩:=ih (wr .i64 (s.1+x.Paid),wr .i64 (s.2.1+1),s.2.2);exact ⟨a,b,by simp only[yac];rw[e];simp⟩
   |false=>
    obtain ⟨a,b,e⟩:=ih (s.1,s.2.1,s.2.2++[x]);exact ⟨a,b,by simp only[yaa];rw[e];simp⟩
 obtain ⟨a,b,e⟩:=key l (0,0,[]);rw[e]at h;refine ⟨a,?_⟩;unfold qbr qar;rw[show c4 (b5w (fun (g:Unit×Int×Int×Int×Unit) x0=>qco x0 g.2.1 g.2.2.1 g.2.2.2.1)) (((),(p,item,kind,())),0,0,l,(l.length:Int),0,([]:List Charge),())=_ from h]
 try rfl
theorem f3l {l:List Charge} {p item kind:Int} (hl:l.length<1000000):∃v,qbg l p item kind=some (l.filter (fun x=>!(b3f p item kind x)),v):=by
 have h:=m0 (step:=b54) (fun (i:Nat) (s:Int×List Charge)=>s.2.length≤i)
  (fun i s=>(l,p,item,kind,s.1,(i:Int),s.2,())) l
  (fun i x s=>.inl (bif b3f p item kind x then (wr .i64 (s.1+x.Paid),s.2) else (s.1,s.2++[x]))) (fun s=>(s.1,s.2,())) (by rw[m5];omega)
  (fun s _=>by simp only[b54,dge,yaa])
  (fun i x s hx hi=>by
   have hlt:=(zL hx)
   have l1:∀z:Charge,decide (s.2.length+([z]:List Charge).length≤LIM)=true:=fun z=>a4b (by simp;omega)
   refine ⟨?_,fun s' hs'=>?_⟩
   ·simp -zeta only[b54,dlt hlt,d8,hx,yac,s8,a06,l1,g9 (show i<9223372036854775807 by omega)];dsimp only;unfold b3f;cases ((x.Patron==p&&x.Item==item)&&(kind==0||x.Kind==kind))<;>rfl
   ·cases hs'
    cases b3f p item kind x<;>simp<;>omega) (0,[]) (by simp)
 rw[a1i]at h;have key:∀(m:List Charge) (s:Int×List Charge),∃a,m.foldl (fun s x=>bif b3f p item kind x then (wr .i64 (s.1+x.Paid),s.2) else (s.1,s.2++[x])) s=(a,s.2++m.filter (fun x=>!(b3f p item kind x))):=by
  intro m
  induction m with
  |nil=>intro s;exact ⟨s.1,by simp⟩
  |cons x m ih=>
   intro s;rw[ybj,ybh];cases b3f p item kind x with
   |true=>
    obtain ⟨a,e⟩:=ih (wr .i64 (s.1+x.Paid),s.2);exact ⟨a,by simp only[yac];rw[e];simp⟩
   |false=>
    obtain ⟨a,e⟩:=ih (s.1,s.2++[x]);exact ⟨a,by simp only[yaa];rw[e];simp⟩
 obtain ⟨a,e⟩:=key l (0,[]);rw[e]at h;refine ⟨a,?_⟩;unfold qbg;rw[show c4 b54 (l,p,item,kind,0,0,([]:List Charge),())=_ from h]
 try rfl
theorem e5m {c:Circ} (h:Short c) {l:List Charge} (hl:l.length<1000000000) (n:Int):Short (a4f c l n):=by
 obtain ⟨a1,a2,a3,a4,a5,a6,a7,a8,a9,a10,a11,a12,a13⟩:=h;exact ⟨a1,a2,a3,a4,hl,a6,a7,a8,a9,a10,a11,a12,a13⟩
def a8b (c:Circ) (i:Nat) (x:Item) (branch:Int) (u:Custody) (l:List Loan):Circ:=j8 (p8 c i x ⟨c.Today,x.ID,4,branch,0⟩ u) l
theorem c3c {c:Circ} (h:MidP c) (hln:c.Loans.length<100000000) {i:Nat} {x:Item} (hx:c.Items[i]?=some x) {n:Loan} (hn:c.Loans.find? (fun n=>n.Item==x.ID)=some n) {branch:Int} (hb:rng 1 4 branch=true) :
 b82 (qeh (i:Int) branch ⟨c,0⟩) (qen c x.ID branch) (fun d=>MidP d∧∃u ch nc,o0 x.Custody ⟨c.Today,x.ID,4,branch,0⟩=(u,0)∧d=a4f (a8b c i x branch u (a7l c.Loans x.ID).1) ch nc):=by
 unfold qeh qen;simp only[d8,hx];rcases a4o h hx 4 branch 0 with ⟨u,ha,m1,m2,hm2⟩|⟨e,he,m1,m2⟩
 ·rw[m1,m2];have hat:=a7i hm2 (a4n hx ⟨c.Today,x.ID,4,branch,0⟩ u);have hx2:=a4n hx ⟨c.Today,x.ID,4,branch,0⟩ u;have hbk:a7l c.Loans x.ID=((a7l c.Loans x.ID).1,n,0):=by unfold a7l;rw[hn]
  have bl:=e33 (item:=x.ID) h.short.loans;have hL:(p8 c i x ⟨c.Today,x.ID,4,branch,0⟩ u).Loans=c.Loans:=rfl;simp only[yai,yam,yaa,hL,h0n hln,f32 hln];rw[hbk];simp only[yai,yam,yaa,b68];have hm3:=c00 hm2 bl;show b82 _ _ (fun d=>MidP d∧∃u ch nc,o0 x.Custody ⟨c.Today,x.ID,4,branch,0⟩=(u,0)∧d=a4f (a8b c i x branch u (a7l c.Loans x.ID).1) ch nc)
  generalize hl:(a7l c.Loans x.ID).1=l at hm3 bl;have hat3:qe (j8 (p8 c i x ⟨c.Today,x.ID,4,branch,0⟩ u) l) x.ID=some (i:Int):=a7i (x:=w8 u x) hm3 hx2;have hc3:a8b c i x branch u l=j8 (p8 c i x ⟨c.Today,x.ID,4,branch,0⟩ u) l:=rfl;rw[show (⟨(p8 c i x ⟨c.Today,x.ID,4,branch,0⟩ u).Today,(p8 c i x ⟨c.Today,x.ID,4,branch,0⟩ u).Items,(p8 c i x ⟨c.Today,x.ID,4,branch,0⟩ u).Patrons,l,(p8 c i x ⟨c.Today,x.ID,4,branch,0⟩ u).Holds,(p8 c i x ⟨c.Today,x.ID,4,branch,0⟩ u).Charges,(p8 c i x ⟨c.Today,x.ID,4,branch,0⟩ u).Rules,(p8 c i x ⟨c.Today,x.ID,4,branch,0⟩ u).Cals,(p8 c i x ⟨c.Today,x.ID,4,branch,0⟩ u).Moves,(p8 c i x ⟨c.Today,x.ID,4,branch,0⟩ u).NextHold,(p8 c i x ⟨c.Today,x.ID,4,branch,0⟩ u).NextCharge,(p8 c i x ⟨c.Today,x.ID,4,branch,0⟩ u).Local⟩:Circ)=j8 (p8 c i x ⟨c.Today,x.ID,4,branch,0⟩ u) l from rfl];rw[hat3];simp only[d8,hx2];have hru:qd2 (j8 (p8 c i x ⟨c.Today,x.ID,4,branch,0⟩ u) l) n.Patron (w8 u x)=qd2 (j8 (p8 c i x ⟨c.Today,x.ID,4,branch,0⟩ u) l) n.Patron x:=rfl;rw[hru,d92 hm3.short];obtain ⟨r,b,hr,hrm⟩:=c59 (c:=j8 (p8 c i x ⟨c.Today,x.ID,4,branch,0⟩ u) l) (p:=n.Patron) (x:=x) hm3.short;have hT:(p8 c i x ⟨c.Today,x.ID,4,branch,0⟩ u).Today=(j8 (p8 c i x ⟨c.Today,x.ID,4,branch,0⟩ u) l).Today:=rfl;rw[hr,hT];rw[←hc3]at hm3 hrm ⊢;have fin:∀d:Circ,MidP d→(∃ch nc,d=a4f (a8b c i x branch u l) ch nc)→b82 (match qbr d.Charges n.Patron x.ID 2 with
   |some (r19,r20)=>some ((),(⟨⟨d.Today,d.Items,d.Patrons,d.Loans,d.Holds,r19,d.Rules,d.Cals,d.Moves,d.NextHold,d.NextCharge,d.Local⟩,0⟩:Circ_desk))
   |none=>none) (match qbg d.Charges n.Patron x.ID 2 with
   |some (r21,r22)=>some ({d with Charges:=r21},0)
   |none=>none) (fun d=>MidP d∧∃u ch nc,o0 x.Custody ⟨c.Today,x.ID,4,branch,0⟩=(u,0)∧d=a4f (a8b c i x branch u l) ch nc):=by
   intro d hd hw;obtain ⟨v1,f1⟩:=f3o (p:=n.Patron) (item:=x.ID) (kind:=2) hd.short.charges;obtain ⟨v2,f2⟩:=f3l (p:=n.Patron) (item:=x.ID) (kind:=2) hd.chN;have hfl:=yaw (fun y=>!(b3f n.Patron x.ID 2 y)) d.Charges;have:=hd.chN;rw[f1,f2];obtain ⟨ch,nc,rfl⟩:=hw;exact .inl ⟨_,rfl,rfl,b9x hd (by omega) nc,u,_,nc,ha,rfl⟩
  have f0:=fin (a8b c i x branch u l) hm3 ⟨(a8b c i x branch u l).Charges,(a8b c i x branch u l).NextCharge,rfl⟩;cases b with
  |false=>exact f0
  |true=>
   obtain ⟨v,lv1,lv2,lv0⟩:=g03 (hm3.cal branch) (hm3.rules r (hrm rfl)) n.Due (a8b c i x branch u l).Today;simp only[yac,d94 hb,g2w hb,lv1,lv2];by_cases hv:v=0
   ·subst hv;exact f0
   ·have hv2:(v==0)=false:=by simpa using hv
    have hv3:decide (0<v)=true:=by rw[yae];omega
    simp only[hv2,hv3,yap,yac];rcases a8z hm3 n.Patron x.ID 1 v with ⟨d,q1,q2,hd,hd2,-⟩|⟨d,e,he,q1,q2,hsd⟩
    ·rw[q1,q2];have hmd:MidP d:=by rw[hd];exact b9x hm3 (a7m hd2) _
     exact fin d hmd ⟨_,_,hd⟩
    ·obtain ⟨v1,f1⟩:=f3o (p:=n.Patron) (item:=x.ID) (kind:=2) hsd.charges;have hfl:=yaw (fun y=>!(b3f n.Patron x.ID 2 y)) d.Charges;have:=hsd.charges;have he2:(e==0)=false:=by simpa using he
     rw[q1,q2];simp only[he2,yap,yac,f1];exact .inr ⟨a4f d (d.Charges.filter (fun y=>!(b3f n.Patron x.ID 2 y))) d.NextCharge,e,he,rfl,rfl,e5m hsd (by omega) _⟩
 ·have he2:(e==0)=false:=by simpa using he
  rw[m1,m2];simp only[he2,yap,yac];exact .inr ⟨c,e,he,rfl,rfl,h.short⟩
end
section
def b6z (i item:Int) (d:Circ_desk):Option (Circ×Int×Int):=
 match qa8 d.c item with
 |some (o,ok)=>
  match (bif ok&&o.State==2 then qc1 i o d else qci i d) with
  |some (_,v)=>(match qa8 v.c item with
   |some (r,_)=>(match qcg r.ID v with
    |some ((a,b,e),_)=>some (a,b,e)
    |none=>none)
   |none=>none)
  |none=>none
 |none=>none
def e0m (item e:Int) (c:Circ):Option (Circ×Int×Int):=
 bif !(e==0) then some (o5,0,e)
 else match qz c item with
  |some (o,ok)=>(match (bif ok then qc4 c item o else qcv c item) with
   |some (d,f)=>(bif !(f==0) then some (o5,0,f) else match qz d item with
    |some (r,_)=>some (d,r.ID,0)
    |none=>none)
   |none=>none)
  |none=>none
def d3t (i item:Int) (a:Option (Unit×Circ_desk)):Option (Circ×Int×Int):=match a with|some (_,v)=>b6z i item v|none=>none
def d0x (item:Int) (a:Option (Circ×Int)):Option (Circ×Int×Int):=match a with|some (c,e)=>e0m item e c|none=>none
theorem b07 {c:Circ} (hs:Short c) (i item e:Int) (he:e≠0):b6z i item ⟨c,e⟩=some (o5,0,e):=by
 unfold b6z;simp only[a9t hs.holds,b36 c i e _ he,a8a c i e he];cases ((o7 c item).2&&(o7 c item).1.State==2)<;>
  simp only[yac,yaa,a9t hs.holds,b7a c _ e he]
theorem a0s (u:Custody):a2h u=(u.State==4||u.State==9||u.State==10):=by
 unfold a2h;cases u.State==4<;>cases u.State==9<;>rfl
theorem h0y {c:Circ} (hs:Short c) {i:Nat} {x:Item} (hf:a7b (fun y=>y.ID==x.ID) c.Items=(i:Int)) (hx:c.Items[i]?=some x) (branch:Int) :
 qev c x.ID branch=(bif a2h x.Custody then d3t i x.ID (qeh i branch ⟨c,0⟩) else bif x.Custody.State==8 then d3t i x.ID (qbe i 4 branch 0 ⟨c,0⟩)
  else bif x.Custody.State==11 then d3t i x.ID (qbe i 14 branch 0 ⟨c,0⟩) else bif x.Custody.State==6 then d3t i x.ID (qbe i 7 branch 0 ⟨c,0⟩) else b6z i x.ID ⟨c,12⟩):=by
 have leaf:∀v23:Circ_desk,(match qa8 v23.c x.ID with
  |some (r25,r26)=>
   let k41:Bool→Option (Circ×Int×Int):=fun v27=>
    let k:Circ_desk→Option (Circ×Int×Int):=fun v32=>
     match qa8 v32.c x.ID with
     |some (r34,r35)=>(match qcg r34.ID v32 with
      |some ((r37,r38,r39),v40)=>some (r37,r38,r39)
      |none=>none)
     |none=>none
    bif v27 then (match qc1 (i:Int) r25 v23 with|some (_,v29)=>k v29|none=>none)
    else (match qci (i:Int) v23 with|some (_,v31)=>k v31|none=>none)
   bif r26 then k41 (r25.State==2) else k41 false
  |none=>none)=b6z i x.ID v23:=by
  intro v;unfold b6z;cases qa8 v.c x.ID with
  |none=>rfl
  |some q=>
   obtain ⟨o,ok⟩:=q;dsimp only;cases ok with
   |false=>rfl
   |true=>cases o.State==2<;>rfl
 have leaf2:∀a:Option (Unit×Circ_desk),d3t i x.ID a=d3t i x.ID a:=fun _=>rfl
 unfold qev;simp -zeta only[qcd,a4l hs,hf,a52,yaa,d8,hx];rw[a0s];have tb:∀(a:Option (Unit×Circ_desk)) (K:Circ_desk→Option (Circ×Int×Int)),(∀v,K v=b6z i x.ID v)→(match a with|some (_,v)=>K v|none=>none)=d3t i x.ID a:=by
  intro a K hK;unfold d3t;cases a with
  |none=>rfl
  |some p=>exact hK _
 cases x.Custody.State==4 with
 |true=>exact tb _ _ leaf
 |false=>
  cases x.Custody.State==9 with
  |true=>exact tb _ _ leaf
  |false=>
   cases x.Custody.State==10 with
   |true=>exact tb _ _ leaf
   |false=>
    cases x.Custody.State==8 with
    |true=>exact tb _ _ leaf
    |false=>
     cases x.Custody.State==11 with
     |true=>exact tb _ _ leaf
     |false=>
      cases x.Custody.State==6 with
      |true=>exact tb _ _ leaf
      |false=>exact leaf _
theorem f31 {c:Circ} (hs:Short c) {i:Nat} {x:Item} (hf:qe c x.ID=some (i:Int)) (hx:c.Items[i]?=some x) (branch:Int) :
 qew c x.ID branch=(bif a2h x.Custody then (bif decide (branch<1)||decide (4<branch) then some (o5,0,1) else d0x x.ID (qen c x.ID branch)) else bif x.Custody.State==8 then d0x x.ID (qp c x.ID 4 branch 0)
  else bif x.Custody.State==11 then d0x x.ID (qp c x.ID 14 branch 0) else bif x.Custody.State==6 then d0x x.ID (qp c x.ID 7 branch 0) else e0m x.ID 12 c):=by
 have leaf:∀(e21:Int) (c22:Circ),(bif !(e21==0) then (some (o5,0,e21):Option (Circ×Int×Int))
  else match qz c22 x.ID with
   |some (r24,r25)=>
    let k37:Int→Circ→Option (Circ×Int×Int):=fun e32 c33=>
     bif !(e32==0) then some (o5,0,e32)
     else match qz c33 x.ID with
      |some (r35,r36)=>some (c33,r35.ID,0)
      |none=>none
    bif r25 then (match qc4 c22 x.ID r24 with|some (r27,r28)=>k37 r28 r27|none=>none)
    else (match qcv c22 x.ID with|some (r30,r31)=>k37 r31 r30|none=>none)
   |none=>none)=e0m x.ID e21 c22:=by
  intro e d;unfold e0m;cases !(e==0) with
  |true=>rfl
  |false=>
   simp only[yaa];cases qz d x.ID with
   |none=>rfl
   |some q=>
    obtain ⟨o,ok⟩:=q;cases ok<;>rfl
 have tb:∀(a:Option (Circ×Int)) (K:Int→Circ→Option (Circ×Int×Int)),(∀e v,K e v=e0m x.ID e v)→(match a with|some (v,e)=>K e v|none=>none)=d0x x.ID a:=by
  intro a K hK;unfold d0x;cases a with
  |none=>rfl
  |some p=>exact hK _ _
 unfold qew;simp -zeta only[hf,a52,yaa,d8,hx,d9x];cases a2h x.Custody with
 |true=>
  cases decide (branch<1) with
  |true=>rfl
  |false=>
   cases decide (4<branch) with
   |true=>rfl
   |false=>exact tb _ _ leaf
 |false=>
  cases x.Custody.State==8 with
  |true=>exact tb _ _ leaf
  |false=>
   cases x.Custody.State==11 with
   |true=>exact tb _ _ leaf
   |false=>
    cases x.Custody.State==6 with
    |true=>exact tb _ _ leaf
    |false=>exact leaf 12 c
theorem d4x {i:Nat} {item:Int} {a:Option (Unit×Circ_desk)} {b:Option (Circ×Int)} {Q:Circ→Prop} (hs:b82 a b Q)
 (hQ:∀d,Q d→MidP d∧∃y,d.Items[i]?=some y∧y.ID=item∧((o7 d item).2=true→(o7 d item).1.State=2)):b8y (d3t i item a) (d0x item b):=by
 rcases hs with ⟨d,rfl,rfl,hq⟩|⟨d,e,he,rfl,rfl,hsd⟩
 ·obtain ⟨hd,y,hy,rfl,hC⟩:=hQ d hq;unfold d3t d0x b6z e0m;simp only[yai,yam,yaa,a9t hd.short.holds,c51 hd.short.holds];have fin:∀(a:Option (Unit×Circ_desk)) (b:Option (Circ×Int)),b82 a b (fun d=>MidP d∧Frame d d)→True:=fun _ _ _=>trivial
  cases hok:(o7 d y.ID).2 with
  |true=>
   have h2:((o7 d y.ID).1.State==2)=true:=by simpa using hC hok
   simp only[h2,Bool.and_self,yac];rcases e0l hd hy (o7 d y.ID).1 with ⟨d2,a1,a2,hd2,-⟩|⟨d2,e,he,a1,a2,hsd⟩
   ·rw[a1,a2];simp only[a9t hd2.short.holds,c51 hd2.short.holds,yai,yam,yaa,d63];exact ⟨_,_,_,rfl,rfl,hd2.short⟩
   ·have he2:(e==0)=false:=by simpa using he
    rw[a1,a2];simp only[a9t hsd.holds,b7a d2 _ e he,he2,yap,yac];exact a4y
  |false=>
   simp only[yaV,yaa];rcases c7d hd hy with ⟨d2,a1,a2,hd2,-⟩|⟨d2,e,he,a1,a2,hsd⟩
   ·rw[a1,a2];simp only[a9t hd2.short.holds,c51 hd2.short.holds,yai,yam,yaa,d63];exact ⟨_,_,_,rfl,rfl,hd2.short⟩
   ·have he2:(e==0)=false:=by simpa using he
    rw[a1,a2];simp only[a9t hsd.holds,b7a d2 _ e he,he2,yap,yac];exact a4y
 ·have he2:(e==0)=false:=by simpa using he
  unfold d3t d0x;simp only[b07 hsd _ _ e he];unfold e0m;simp only[he2,yap,yac];exact a4y
theorem d0u {u:Custody} {day item kind branch who:Int} (h:(decide (branch<1)||decide (4<branch))=true):o0 u ⟨day,item,kind,branch,who⟩=(⟨0,0,0,0⟩,1):=by
 have hw:a7t ⟨day,item,kind,branch,who⟩=false:=by
  unfold a7t;simp only[yba,yae]at h;rcases h with h|h
  ·have:decide (1≤branch)=false:=by rw[yag];omega
   simp[this]
  ·have:decide (branch≤4)=false:=by rw[yag];omega
   simp[this]
 unfold o0;rw[hw];simp
theorem d07 {c:Circ} (h:FitP c) {x:Item} (hx:x∈c.Items) (hs:¬x.Custody.State=5) {o:Hold} (ho:o∈c.Holds) (hg:o.Got=x.ID):o.State=2∧x.Custody.State=6:=by
 have hsh:=a1h h.holds ho;have hid:=g0v h hx;have h1:¬o.State=1:=by
  intro e;unfold o3 at hsh;have h2:=a0g hsh (by decide);rw[h2]at hsh;simp only[yaa]at hsh;have h3:=a0g hsh (by decide);rw[h3]at hsh;simp only[yaa]at hsh;have h4:=a0g hsh (by decide);simp only[yal]at h4;have e1:(o.State==1)=true:=by simpa using e
  have e2:decide (0<o.Got)=true:=by rw[yae,hg];omega
  rw[e1,e2]at h4;exact absurd h4.1 (by decide)
 have hG:=h.holdG o ho;unfold a3y at hG;have hfind:c.Items.find? (fun y=>y.ID==o.Got)=some x:=by
  rw[hg];exact a4d (key:=fun y:Item=>y.ID) (a2e h.items) hx
 rw[hfind]at hG;have e1:(o.State==1)=false:=by simpa using h1
 rw[e1]at hG;simp only[yad,ybu,yas,ybc,yal,yaL,ybb,yaZ,ne_eq]at hG;obtain ⟨_,⟨_,q3⟩,q2⟩:=hG;rcases d1m hsh with e|e|e
 ·exact absurd e h1
 ·refine ⟨e,?_⟩;rcases q2 with q2|q2
  ·exact absurd e q2
  ·exact q2.1.1
 ·rcases q3 with q3|q3
  ·exact absurd e q3
  ·exact absurd q3.1.1 hs
theorem a57 {c:Circ} {item:Int} (h:(o7 c item).2=true):(o7 c item).1∈c.Holds∧(o7 c item).1.Got=item:=by
 unfold o7 at h ⊢;cases hq:c.Holds.find? (fun h=>h.Got==item) with
 |none=>rw[hq]at h;cases h
 |some o=>exact ⟨ybf hq,by have:=ybE hq;simpa using this⟩
theorem b6v {c d:Circ} {item:Int} (h:d.Holds=c.Holds):o7 d item=o7 c item:=by unfold o7;rw[h]
theorem d0v {c:Circ} (m:MidP c) (h:FitP c) (hln:c.Loans.length<100000000) {item branch:Int}:b8y (qev c item branch) (qew c item branch):=by
 rcases a25 m item with ⟨h1,h2,-⟩|⟨i,x,h1,h2,hx,hid,-⟩
 ·unfold qev qew;simp -zeta only[qcd,a4l m.short];rw[h1,h2];exact a4y
 ·subst hid;rw[h0y m.short h1 hx,f31 m.short h2 hx];have hmem:=yaf hx;have hC:∀d:Circ,d.Holds=c.Holds→¬x.Custody.State=5→((o7 d x.ID).2=true→(o7 d x.ID).1.State=2):=by
   intro d hd h5 hk;rw[b6v hd]at hk ⊢;have:=a57 hk;exact (d07 h hmem h5 this.1 this.2).1
  have mv:∀kind:Int,¬x.Custody.State=5→b8y (d3t i x.ID (qbe i kind branch 0 ⟨c,0⟩)) (d0x x.ID (qp c x.ID kind branch 0)):=by
   intro kind h5;refine d4x (Q:=fun d=>∃u,d=p8 c i x ⟨c.Today,x.ID,kind,branch,0⟩ u∧MidP d) ?_ ?_
   ·rcases a4o m hx kind branch 0 with ⟨u,ha,m1,m2,hm2⟩|⟨e,he,m1,m2⟩
    ·exact .inl ⟨_,m1,m2,u,rfl,hm2⟩
    ·exact .inr ⟨c,e,he,m1,m2,m.short⟩
   ·rintro d ⟨u,rfl,hd⟩;exact ⟨hd,w8 u x,a4n hx _ u,rfl,hC _ rfl h5⟩
  cases hp:a2h x.Custody with
  |true=>
   simp only[yac];have h5:¬x.Custody.State=5:=by
    intro e;rw[a0s,e]at hp;cases hp
   have hl:=h.itemG x hmem;rw[hp]at hl;unfold b1p at hl;cases hb:(decide (branch<1)||decide (4<branch)) with
   |true=>
    simp only[yac];have dm:=a9o (kind:=4) (branch:=branch) (who:=0) m.short (by have:=m.moves;omega) hx;rw[d0u hb]at dm;have e1:qeh (i:Int) branch ⟨c,0⟩=some ((),⟨c,1⟩):=by
     unfold qeh;simp only[d8,hx];rw[dm]
     try rfl
    rw[e1];show b8y (b6z i x.ID ⟨c,1⟩) _
    rw[b07 m.short _ _ 1 (by decide)];exact a4y
   |false=>
    simp only[yaa];have hbr:rng 1 4 branch=true:=by
     rw[w6];simp only[yal,yag]at hb;omega
    cases hn:c.Loans.find? (fun n=>n.Item==x.ID) with
    |none=>rw[hn]at hl;cases hl
    |some n=>
     refine d4x (c3c m hln hx hn hbr) ?_;rintro d ⟨hd,u,ch,nc,-,rfl⟩;exact ⟨hd,w8 u x,a4n hx ⟨c.Today,x.ID,4,branch,0⟩ u,rfl,hC _ rfl h5⟩
  |false=>
   simp only[yaa];cases h8:x.Custody.State==8 with
   |true=>exact mv 4 (by have:x.Custody.State=8:=(by simpa using h8);omega)
   |false=>
    simp only[yaa];cases h11:x.Custody.State==11 with
    |true=>exact mv 14 (by have:x.Custody.State=11:=(by simpa using h11);omega)
    |false=>
     simp only[yaa];cases h6:x.Custody.State==6 with
     |true=>exact mv 7 (by have:x.Custody.State=6:=(by simpa using h6);omega)
     |false=>
      simp only[yaa];rw[b07 m.short _ _ 12 (by decide)];exact a4y
end
section
theorem g13 {c:Circ} (h:MidP c) (r:Int):(c.Holds.filter (y8 r c.Today)).length<20:=by
 have e:c.Holds.filter (y8 r c.Today)=(c.Holds.filter (fun o=>o.Record==r)).filter (y8 r c.Today):=by
  rw[ybW];apply List.filter_congr;intro o _;unfold y8;cases o.Record==r<;>simp
 rw[e];have:=yaw (y8 r c.Today) (c.Holds.filter (fun o=>o.Record==r));have:=h.few r;omega
theorem e8l {c:Circ} (h:MidP c) (x:Item) (branch:Int):qa0 c.Holds x branch c.Today c.Local=some (b2l branch c.Local x (p7 (c.Holds.filter (y8 x.Record c.Today))) 0):=
 f3a h.holdsN (g13 h x.Record) (fun o ho=>(h.rank o ho).1)
end
section
end
section
theorem g7w (d:Array Int) (hs:∀i j,i≤j→j<d.size→d[i]!≤d[j]!):∀m,m≤d.size→(Go.Lib.compactUpTo d m).Pairwise (fun a b=>a<b)∧(∀x,x∈Go.Lib.compactUpTo d m↔∃j,j<m∧d[j]! = x):=by
 intro m
 induction m with
 |zero=>intro _;simp[Go.Lib.compactUpTo]
 |succ m ih=>
  intro hm;obtain ⟨h1,h2⟩:=ih (by omega);have e:Go.Lib.compactUpTo d (m+1)=Go.Lib.compactUpTo d m++(if Go.Lib.keeps d m=true then [d[m]!] else []):=by
   unfold Go.Lib.compactUpTo;rw[List.range_succ,List.filter_append,List.map_append];congr 1;simp only[ybh,List.filter_nil];split<;>rfl
  rw[e];by_cases hk:Go.Lib.keeps d m=true
  ·rw[yaJ hk];have hk2:m=0∨¬d[m]! = d[m-1]!:=by
    unfold Go.Lib.keeps at hk;exact yaO hk
   have hlt:∀x∈Go.Lib.compactUpTo d m,x<d[m]!:=by
    intro x hx;obtain ⟨j,hj,rfl⟩:=(h2 x).1 hx;have a:=hs j (m-1) (by omega) (by omega);have b:=hs (m-1) m (by omega) (by omega);rcases hk2 with h|h
    ·omega
    ·omega
   constructor
   ·rw[List.pairwise_append];refine ⟨h1,by simp,fun a ha b hb=>?_⟩;have:b=d[m]!:=by simpa using hb
    rw[this];exact hlt a ha
   ·intro x;rw[yau,h2];constructor
    ·rintro (⟨j,hj,e⟩|hx)
     ·exact ⟨j,by omega,e⟩
     ·have:x=d[m]!:=by simpa using hx
      exact ⟨m,by omega,this.symm⟩
    ·rintro ⟨j,hj,e⟩;by_cases hjm:j=m
     ·right;rw[←e,hjm];simp
     ·left;exact ⟨j,by omega,e⟩
  ·rw[yar hk,List.append_nil];have hk2:¬m=0∧d[m]! = d[m-1]!:=by
    unfold Go.Lib.keeps at hk;have:=fun h=>hk (decide_eq_true h)
    constructor
    ·intro h;exact this (.inl h)
    ·by_cases q:d[m]! = d[m-1]!
     ·exact q
     ·exact absurd (.inr q) this
   refine ⟨h1,fun x=>?_⟩;rw[h2];constructor
   ·rintro ⟨j,hj,e⟩;exact ⟨j,by omega,e⟩
   ·rintro ⟨j,hj,e⟩;by_cases hjm:j=m
    ·exact ⟨m-1,by omega,by rw[←e,hjm,hk2.2]⟩
    ·exact ⟨j,by omega,e⟩
theorem c7m (l:List Int):(Go.Lib.compact (l.mergeSort fun x y=>decide (x≤y))).Pairwise (fun a b=>a<b)∧∀x,x∈Go.Lib.compact (l.mergeSort fun x y=>decide (x≤y))↔x∈l:=by
 have hp:=List.pairwise_mergeSort (le:=fun x y:Int=>decide (x≤y)) (fun a b c h1 h2=>by simp only[yae]at *;omega) (fun a b=>by simp only[yba,yae];omega) l;have hm:∀x,x∈(l.mergeSort fun x y=>decide (x≤y))↔x∈l:=fun x=>List.mem_mergeSort
 generalize (l.mergeSort fun x y=>decide (x≤y))=s at hp hm;have hget:∀i (h:i<s.length),s.toArray[i]! = s[i]:=fun i h=>by simp[h]
 obtain ⟨h1,h2⟩:=g7w s.toArray (fun i j hij hj=>by
  have hj2:j<s.length:=by simpa using hj
  rw[hget i (by omega),hget j hj2];by_cases e:i=j
  ·subst e;exact Int.le_refl _
  ·have:=(ya1.1 hp) i j (by omega) hj2 (by omega);simpa using this) s.length (by simp)
 refine ⟨h1,fun x=>?_⟩;unfold Go.Lib.compact;rw[h2,←hm];constructor
 ·rintro ⟨j,hj,rfl⟩;rw[hget j hj];exact ybv hj
 ·intro hx;obtain ⟨j,hj,e⟩:=List.getElem_of_mem hx;exact ⟨j,hj,by rw[hget j hj,e]⟩
end
section
theorem a9w (m:Move) (item:Int):∀(l:List Move) (i:Nat) (c:Custody),
 u6 i (l++[m]) item c=(match u6 i l item c with
  |.inl c'=>bif m.Item==item then (bif (o0 c' m).2==0 then .inl (o0 c' m).1 else .inr (((i+l.length:Nat):Int),(o0 c' m).2)) else .inl c'
  |.inr p=>.inr p):=by
 intro l
 induction l with
 |nil=>
  intro i c;simp only[ya7,u6,yaS,ybe]
 |cons x l ih=>
  intro i c;simp only[List.cons_append,u6];rw[ih,ih];have e:i+1+l.length=i+(x::l).length:=by simp;omega
  rw[e];cases x.Item==item with
  |false=>rfl
  |true=>
   simp only[yac];cases (o0 c x).2==0<;>rfl
theorem c2r {branch:Int} {l:List Move} {m:Move} {item:Int} (h:(m.Item==item)=false) (hr:(a0q branch l item).2.2=0):a0q branch (l++[m]) item=a0q branch l item:=by
 unfold a0q at *;rw[a9w,h];cases decide (branch<1)||decide (4<branch) with
 |true=>rfl
 |false=>cases u6 0 l item (b26 branch)<;>rfl
theorem c57 {branch:Int} {l:List Move} {m:Move} {item:Int} {u:Custody} (h:m.Item=item) (hr:(a0q branch l item).2.2=0) (ha:o0 (a0q branch l item).1 m=(u,0)):a0q branch (l++[m]) item=(u,-1,0):=by
 unfold a0q at *;rw[a9w,show (m.Item==item)=true by simpa using h];cases hb:(decide (branch<1)||decide (4<branch)) with
 |true=>rw[hb]at hr;cases hr
 |false=>
  rw[hb]at hr ha;simp only[yaa]at hr ha ⊢;cases hf:u6 0 l item (b26 branch) with
  |inr p=>
   obtain ⟨i,e⟩:=p;rw[hf]at hr ha;simp only at hr ha;subst hr;exact absurd hf (by
    have key:∀(l:List Move) (i:Nat) (c:Custody) (j:Int),u6 i l item c≠.inr (j,0):=by
     intro l
     induction l with
     |nil=>intro i c j h;cases h
     |cons x l ih=>
      intro i c j h;unfold u6 at h;cases hx:x.Item==item with
      |false=>rw[hx]at h;exact ih _ _ _ h
      |true=>
       rw[hx]at h;simp only[yac]at h;cases hz:(o0 c x).2==0 with
       |true=>rw[hz]at h;exact ih _ _ _ h
       |false=>
        rw[hz]at h;simp only[yaa]at h;have h2:=Sum.inr.inj h;have h3:(o0 c x).2=0:=(Prod.mk.inj h2).2;rw[h3]at hz;cases hz
    exact key _ _ _ _)
  |inl c'=>
   rw[hf]at ha;simp only at ha ⊢;rw[ha]
   try rfl
def b6h (x:Item) (u:Custody) (z:Item):Item:=bif z.ID==x.ID then w8 u z else z
theorem d0e {l:List Item} {i:Nat} {x:Item} {u:Custody} (hi:∀(i:Nat) (x:Item) (j:Nat) (y:Item),l[i]?=some x→l[j]?=some y→x.ID=y.ID→i=j) (hx:l[i]?=some x):l.set i (w8 u x)=l.map (b6h x u):=by
 apply List.ext_getElem?;intro j;rw[yaR];by_cases e:i=j
 ·subst e;rw[yby (zL hx),hx];unfold b6h;simp
 ·rw[List.getElem?_set_ne e];cases hj:l[j]? with
  |none=>rfl
  |some y=>
   have:(y.ID==x.ID)=false:=by
    rw[yaZ];intro q;exact e (hi i x j y hx hj q.symm)
   show some y=some (b6h x u y)
   unfold b6h;rw[this];rfl
theorem b8o (x:Item) (u:Custody) (z:Item):(b6h x u z).ID=z.ID:=by unfold b6h;cases z.ID==x.ID<;>rfl
theorem d3d (x:Item) (u:Custody) (z:Item):a01 (b6h x u z)=a01 z:=by unfold b6h;cases z.ID==x.ID<;>rfl
theorem c6r (x:Item) (u:Custody) (z:Item):(b6h x u z).Branch=z.Branch:=by unfold b6h;cases z.ID==x.ID<;>rfl
theorem c0i (x:Item) (u:Custody) (id:Int) (l:List Item):(l.map (b6h x u)).find? (fun z=>z.ID==id)=(l.find? (fun z=>z.ID==id)).map (b6h x u):=by
 rw[List.find?_map];congr 2;funext z;show ((b6h x u z).ID==id)=_
 rw[b8o]
theorem d9p {X Y:Type} (g:X→Y) (f:Y→Bool) (l:List X) (i:Nat):t8 (l.map g) i f=t8 l i (fun z=>f (g z)):=by
 unfold t8;cases i with
 |zero=>rfl
 |succ j=>
  simp only;rw[yaR];cases l[j]?<;>rfl
theorem d1r {c:Circ} (h:a1j c=true) (hi:∀(i:Nat) (x:Item) (j:Nat) (y:Item),c.Items[i]?=some x→c.Items[j]?=some y→x.ID=y.ID→i=j) {i:Nat} {x:Item} (hx:c.Items[i]?=some x) {m:Move} {u:Custody}
 (hm:m.Item=x.ID) (ha:o0 x.Custody m=(u,0)) (hl:c.Moves.length<2000):a1j (p8 c i x m u)=true:=by
 have hall:=fun (y:Item) (hy:y∈c.Items)=>a6l h hy
 have hmem:=yaf hx;unfold a1j at h ⊢;simp only[yad]at h ⊢;obtain ⟨h1,h2,h3,h4⟩:=h;have hit:(p8 c i x m u).Items=c.Items.map (b6h x u):=d0e hi hx;have hmv:(p8 c i x m u).Moves=c.Moves++[m]:=rfl;rw[hit,hmv];refine ⟨?_,?_,?_,?_⟩
 ·rw[yaU,yaM];simp only[yas,yal,yag]at h1 ⊢;refine ⟨h1.1,?_⟩;simp;omega
 ·rw[a4z]at h2 ⊢;intro k y hk;rw[yaR]at hk;cases hz:c.Items[k]? with
  |none=>rw[hz]at hk;cases hk
  |some z=>
   rw[hz]at hk;cases hk
   have:=h2 k z hz;rw[d3d,d9p,b8o];simp only[b8o];exact this
 ·unfold c49 at h3 ⊢;rw[hmv,hit,List.all_append];simp only[yad,yak]at h3 ⊢;refine ⟨fun w hw=>?_,fun w hw=>?_⟩
  ·rw[c0i,Option.isSome_map];exact h3 w hw
  ·have:w=m:=by simpa using hw
   subst this;rw[c0i,Option.isSome_map,hm,List.find?_isSome];exact ⟨x,hmem,by simp⟩
 ·rw[yak];intro y hy;obtain ⟨z,hz,rfl⟩:=ybd.1 hy;have hr:=hall z hz;unfold a07 at hr ⊢;simp only[yas,yal,yaL,ybb]at hr ⊢;obtain ⟨r1,r2⟩:=hr;have r2:=a1a.1 r2;rw[hmv,c6r,b8o];cases hq:z.ID==x.ID with
  |true=>
   have hid:z.ID=x.ID:=by simpa using hq
   have hzx:z=x:=by
    obtain ⟨j,hj⟩:=List.mem_iff_getElem?.1 hz;have:=hi j z i x hj hx hid;subst this;rw[hx]at hj;cases hj;rfl
   subst hzx;have:=c57 (branch:=z.Branch) (l:=c.Moves) (item:=z.ID) hm r1 (by rw[r2];exact ha);rw[this];refine ⟨rfl,?_⟩;rw[a1a];unfold b6h;rw[hq];rfl
  |false=>
   have hmz:(m.Item==z.ID)=false:=by
    rw[hm,yaZ];rw[yaZ]at hq;exact fun e=>hq e.symm
   rw[c2r hmz r1];refine ⟨r1,?_⟩;rw[a1a,r2];unfold b6h;rw[hq];rfl
end
section
theorem g52 {X:Type} (key:X→Int) {l:List X}:(∀i x,l[i]?=some x→t8 l i (fun y=>decide (key x≤key y))=false)↔l.Pairwise (fun a b=>key a<key b):=by
 constructor
 ·intro h;rw[ya1];intro i j hi hj hij;exact a1v (key:=key) h j i l[i] l[j] hij (yab hi) (yab hj)
 ·intro h i x hx;cases i with
  |zero=>rfl
  |succ j=>
   unfold t8;simp only;have hi:=(yaE.1 hx)
   have hj:j<l.length:=by have:=hi.1;omega
   rw[yab hj];have:=(ya1.1 h) j (j+1) hj hi.1 (by omega);rw[hi.2]at this;simp only[yag];omega
theorem h2w {X:Type} (key:X→Int) (sh:X→Int) {l:List X}:a0k (fun i x=>bif t8 l i (fun y=>decide (key x≤key y)) then 7 else sh x) 0 l=0↔(∀x∈l,sh x=0)∧l.Pairwise (fun a b=>key a<key b):=by
 rw[b4y,←g52 key];constructor
 ·intro h;have h2:∀i x,l[i]?=some x→t8 l i (fun y=>decide (key x≤key y))=false:=fun i x hx=>by
   have:=h i x hx;rw[yaH]at this;exact a0g this (by decide)
  refine ⟨fun x hx=>?_,h2⟩;obtain ⟨i,hi⟩:=yaI hx;have:=h i x hi;rw[yaH,h2 i x hi]at this;exact this
 ·rintro ⟨h1,h2⟩ i x hx;rw[yaH,h2 i x hx];exact h1 x (yaf hx)
theorem c3w {n:Nat} {m:Int} {e:Int}:(bif decide (m<(n:Int)) then (13:Int) else e)=0↔(n:Int)≤m∧e=0:=by
 by_cases h:m<(n:Int)
 ·rw[decide_eq_true h];constructor
  ·intro h;cases h
  ·rintro ⟨h2,-⟩;omega
 ·rw[ybX h];exact ⟨fun e=>⟨by omega,e⟩,fun e=>e.2⟩
def c0z (x:Loan):Int:=bif decide (x.Item<1)||decide (9999<x.Item)||decide (x.Patron<1)||decide (9999<x.Patron)||decide (x.Out<0)||decide (109572<x.Out)||decide (x.Due<0)||decide (109572<x.Due)||decide (x.Due<x.Out)||decide (x.Renewals<0)||decide (10<x.Renewals) then 2 else 0
theorem b13 {l:List Loan}:a2o l=0↔(l.length:Int)≤64∧(∀x∈l,c0z x=0)∧l.Pairwise (fun a b=>a.Item<b.Item):=by
 unfold a2o;rw[c3w];exact and_congr Iff.rfl (h2w (fun x:Loan=>x.Item) c0z)
theorem b6y {l:List Charge}:o1 l=0↔(l.length:Int)≤128∧(∀x∈l,a2z x=0)∧l.Pairwise (fun a b=>a.ID<b.ID):=by
 unfold o1;rw[c3w];exact and_congr Iff.rfl (h2w (fun x:Charge=>x.ID) a2z)
theorem c4x (l:List Hold):a1m l=fun i x=>bif t8 l i (fun y=>decide (x.ID≤y.ID)) then 7 else o3 x:=by
 funext i x;rw[a5k]
theorem d0s {l:List Hold}:a33 l=true↔l.Pairwise (fun a b=>a00 b a=false):=by
 unfold a33;rw[a4z,ya1];constructor
 ·intro h i j hi hj hij;have:=h j l[j] (yab hj);rw[yaH,yak]at this;have h2:=this l[i] (by rw[List.mem_take_iff_getElem];exact ⟨i,by omega,rfl⟩);simpa using h2
 ·intro h i x hx;rw[yaH,yak];intro y hy;rw[List.mem_take_iff_getElem]at hy;obtain ⟨j,hj,rfl⟩:=hy;obtain ⟨hi,rfl⟩:=yaE.1 hx;have:=h j i (by omega) hi (by omega);simpa using this
theorem b43 {l:List Hold}:a0c l=0↔(l.length:Int)≤64∧((∀x∈l,o3 x=0)∧l.Pairwise (fun a b=>a.ID<b.ID))∧l.Pairwise (fun a b=>a00 b a=false):=by
 unfold a0c;rw[c3w,←d0s,←h2w (fun x:Hold=>x.ID) o3,←c4x];refine and_congr Iff.rfl ?_;by_cases e:a0k (a1m l) 0 l=0
 ·rw[e];cases a33 l<;>simp
 ·have h2:(a0k (a1m l) 0 l==0)=false:=by simpa using e
  rw[h2];exact ⟨fun h=>absurd h e,fun h=>absurd h.1 e⟩
theorem b6s {b:Bool} {n m:Int} (hn:n≠0):(bif b then n else m)=0↔b=false∧m=0:=by
 cases b with
 |true=>exact ⟨fun h=>absurd h hn,fun h=>by cases h.1⟩
 |false=>exact ⟨fun h=>⟨rfl,h⟩,fun h=>h.2⟩
theorem g0b {p:Prop} [Decidable p] {n m:Int}:(decide p=!(n==m))↔(p↔¬n=m):=by
 by_cases h:p<;>by_cases k:n=m<;>simp[h,k]
theorem f99 {p:Prop} [Decidable p] {n m:Int}:(decide p=(n==m))↔(p↔n=m):=by
 by_cases h:p<;>by_cases k:n=m<;>simp[h,k]
theorem e2n {h:Hold}:o3 h=0↔((1≤h.ID∧h.ID≤99999)∧(1≤h.Patron∧h.Patron≤9999)∧(1≤h.Record∧h.Record≤9999)∧(h.Item=0∨(1≤h.Item∧h.Item≤9999))∧(1≤h.Pickup∧h.Pickup≤4)∧(0≤h.Placed∧h.Placed≤109572)∧
 (h.Got=0∨(1≤h.Got∧h.Got≤9999))∧(0≤h.Until∧h.Until≤109572)∧(0≤h.Asleep∧h.Asleep≤109572)∧(0≤h.Rank∧h.Rank≤9))∧(1≤h.State∧h.State≤3)∧(0<h.Got↔¬h.State=1)∧(0<h.Until↔h.State=3):=by
 unfold o3;rw[b6s (by decide),b6s (by decide),b6s (by decide)];simp only[yal,yag,yaL,w6,ybc,ybb,g0b,f99,and_true];constructor
 ·rintro ⟨h1,h2,h3⟩;exact ⟨by omega,by omega,h3⟩
 ·rintro ⟨h1,h2,h3⟩;exact ⟨by omega,by omega,h3⟩
theorem a6h {h:Hold} (e:o3 h=0):(1≤h.ID∧h.ID≤99999)∧(1≤h.Record∧h.Record≤9999)∧(1≤h.Pickup∧h.Pickup≤4)∧(h.State=1∨h.State=2∨h.State=3)∧(h.State=1→h.Got=0)∧(h.State≠1→1≤h.Got)∧(1≤h.Patron∧h.Patron≤9999):=by
 rw[e2n]at e;obtain ⟨⟨a1,a2,a3,a4,a5,a6,a7,a8,a9,a10⟩,b,c,d⟩:=e;refine ⟨a1,a3,a5,by omega,fun q=>?_,fun q=>?_,a2⟩
 ·by_cases g:0<h.Got
  ·exact absurd q (c.1 g)
  ·omega
 ·exact c.2 q
end
section
def h3n (c:Custody) (m:Move):Custody:=
 bif w9 m.Kind==2 then ⟨w9 m.Kind,m.Branch,0,0⟩
 else bif w9 m.Kind==4||(w9 m.Kind==5||w9 m.Kind==8) then ⟨w9 m.Kind,c.Branch,m.Who,0⟩
 else bif w9 m.Kind==6 then ⟨w9 m.Kind,c.Branch,m.Who,m.Branch⟩
 else bif w9 m.Kind==9||w9 m.Kind==10 then ⟨w9 m.Kind,c.Branch,c.Who,0⟩
 else ⟨w9 m.Kind,c.Branch,0,0⟩
structure AppP (c:Custody) (m:Move) (u:Custody):Prop where
 res:u=h3n c m
 right:a7s c=true
 within:a7t m=true
 allow:a5x c.State m.Kind=true
 same:m.Kind=3→c.State=5→m.Who=c.Who
 fits:b8g c m=true
theorem c3s {c:Custody} {m:Move} {u:Custody} (h:o0 c m=(u,0)):AppP c m u:=by
 unfold o0 at h;cases e1:(!(a7s c)||!(a7t m)) with
 |true=>rw[e1]at h;cases h
 |false=>
  have e0:=e1;simp only[yal,yaL]at e0;rw[e1]at h;simp only[yaa]at h;cases e2:!(a5x c.State m.Kind) with
  |true=>rw[e2]at h;cases h
  |false=>
   rw[e2]at h;simp only[yaa]at h;cases e3:(m.Kind==3&&c.State==5&&!(m.Who==c.Who)) with
   |true=>rw[e3]at h;cases h
   |false=>
    rw[e3]at h;simp only[yaa]at h;cases e4:!(b8g c m) with
    |true=>rw[e4]at h;cases h
    |false=>
     rw[e4]at h;simp only[yaa]at h;have hr:u=h3n c m:=by
      unfold h3n;generalize w9 m.Kind=k at h ⊢;cases k2:k==2 with
      |true=>rw[k2]at h;cases h;rfl
      |false=>
       rw[k2]at h;simp only[yaa]at h ⊢;cases k4:k==4||(k==5||k==8) with
       |true=>rw[k4]at h;cases h;rfl
       |false=>
        rw[k4]at h;simp only[yaa]at h ⊢;cases k6:k==6 with
        |true=>rw[k6]at h;cases h;rfl
        |false=>
         rw[k6]at h;simp only[yaa]at h ⊢;cases k9:k==9||k==10 with
         |true=>rw[k9]at h;cases h;rfl
         |false=>rw[k9]at h;cases h;rfl
     refine ⟨hr,e0.1,e0.2,by simpa using e2,fun a b=>?_,by simpa using e4⟩;simp only[ybc,yaZ,yaL,ybb,ne_eq]at e3;rcases e3 with (q|q)|q
     ·exact absurd a q
     ·exact absurd b q
     ·exact q
theorem e3v {s k:Int} (h:a5x s k=true):s∈c5g k:=by
 unfold a5x at h;rw[List.any_eq_true]at h;obtain ⟨x,hx,e⟩:=h;have:x=s:=by simpa using e
 exact this▸hx
def e9o (u:Custody) (h:Hold):Prop:=(h.State=3→u.State=5∧u.Branch=h.Pickup∧u.Who=h.Patron)∧(h.State=2→u.State=6∧u.To=h.Pickup∧u.Who=h.Patron)
structure Val (it:Int) (c:Circ):Prop where
 nums:a4p c=true
 patrons:a34 c.Patrons=0
 loans:a2o c.Loans=0
 holds:a0c c.Holds=0
 charges:o1 c.Charges=0
 rules:a5s c.Rules=0
 cals:a5h c=true
 chG:∀x∈c.Charges,a0p c x=true
 items:a1j c=true
 loanP:∀n∈c.Loans,(a84 c.Patrons n.Patron).2=true
 loanI:∀n∈c.Loans,∃x∈c.Items,x.ID=n.Item∧(n.Item≠it→a2h x.Custody=true∧x.Custody.Who=n.Patron)
 itemL:∀x∈c.Items,x.ID≠it→a2h x.Custody=true→∃n∈c.Loans,n.Item=x.ID
 holdP:∀h∈c.Holds,(a84 c.Patrons h.Patron).2=true∧h.ID<c.NextHold
 holdI:∀h∈c.Holds,h.State≠1→∃x∈c.Items,x.ID=h.Got∧x.Record=h.Record∧(h.Got≠it→e9o x.Custody h)
 itemH:∀x∈c.Items,x.ID≠it→x.Custody.State=5→∃h∈c.Holds,h.Got=x.ID∧h.State=3
theorem u3 {c:Circ} (h:a1j c=true) {x y:Item} (hx:x∈c.Items) (hy:y∈c.Items) (e:x.ID=y.ID):x=y:=by
 have h1:=a4d (key:=fun y:Item=>y.ID) (a2e h) hx;have h2:=a4d (key:=fun y:Item=>y.ID) (a2e h) hy;rw[e,h2]at h1;cases h1;rfl
theorem b1y {c:Circ} (h:a1j c=true) {x:Item} (hx:x∈c.Items) {id:Int} (e:x.ID=id):c.Items.find? (fun y=>y.ID==id)=some x:=by
 subst e;exact a4d (key:=fun y:Item=>y.ID) (a2e h) hx
theorem a1p {c:Circ} (h:a1j c=true) {x:Item} (hx:x∈c.Items):1≤x.ID∧x.ID≤9999∧1≤x.Record∧(1≤x.Branch∧x.Branch≤4)∧x.Call.length≤200:=by
 unfold a1j at h;simp only[yad]at h;obtain ⟨i,hi⟩:=yaI hx;have:=(a4z.1 h.2.1) i x hi;rw[yaH]at this;simp only[yas,yal,yaL]at this;have h2:=this.1;unfold a01 at h2;simp only[yad,w6,yae]at h2;omega
theorem h18 {c:Circ} (h:a5c c=true):Val 0 c:=by
 have f:=h3v h;have hch:∀x∈c.Charges,a0p c x=true:=by
  unfold a5c at h;simp only[yad,yak]at h;exact h.2.2.2.1
 have hcal:a5h c=true:=by
  unfold a5c at h;simp only[yad]at h;exact h.2.2.1
 refine ⟨f.nums,f.patrons,f.loans,f.holds,f.charges,f.rules,hcal,hch,f.items,fun n hn=>?_,fun n hn=>?_,fun x hx _ hw=>?_,fun o ho=>?_,fun o ho h1=>?_,fun x hx _ h5=>?_⟩
 ·obtain ⟨x,p,-,-,-,hp,-⟩:=b5b f hn;rw[hp]
 ·obtain ⟨x,p,-,hx,hi,-,-,hw,hwho⟩:=b5b f hn;exact ⟨x,hx,hi,fun _=>⟨hw,hwho⟩⟩
 ·have:=f.itemG x hx;rw[hw]at this;unfold b1p at this;cases hq:c.Loans.find? (fun n=>n.Item==x.ID) with
  |none=>rw[hq]at this;cases this
  |some n=>exact ⟨n,ybf hq,by have:=ybE hq;simpa using this⟩
 ·have:=f.holdG o ho;unfold a3y at this;simp only[yad,yas,yal,yaL,yag]at this;exact ⟨this.1.1,by have:=this.1.2;omega⟩
 ·have hg:=f.holdG o ho;unfold a3y at hg;rw[show (o.State==1)=false by simpa using h1]at hg;simp only[yad,ybu]at hg;have hg:=hg.2;cases hq:c.Items.find? (fun x=>x.ID==o.Got) with
  |none=>rw[hq]at hg;cases hg
  |some x=>
   rw[hq]at hg;refine ⟨x,ybf hq,by have:=ybE hq;simpa using this,?_,fun _=>?_⟩
   ·simp only[yad,Bool.not_not,ybb]at hg;exact hg.1.1
   ·simp only[yad,Bool.not_not,ybb,yas,ybc,yal,yaL,yaZ,ne_eq]at hg;obtain ⟨⟨-,g3⟩,g2⟩:=hg;refine ⟨fun e=>?_,fun e=>?_⟩
    ·rcases g3 with g3|g3
     ·exact absurd e g3
     ·exact ⟨g3.1.1,g3.1.2,g3.2⟩
    ·rcases g2 with g2|g2
     ·exact absurd e g2
     ·exact ⟨g2.1.1,g2.1.2,g2.2⟩
 ·have hg:=f.readyG x hx;unfold a4c at hg;rw[h5]at hg;simp only[yai,yam,ybu,yas,yal,yaL,ybb]at hg;have:=a57 hg.1;exact ⟨_,this.1,this.2,hg.2⟩
theorem e23 {c:Circ} (v:Val 0 c):a5c c=true:=by
 have hid:=fun x hx=>a1p (x:=x) v.items hx
 unfold a5c;simp only[yad,yak];refine ⟨v.nums,?_,v.cals,v.chG,by rw[a9q];exact v.items,?_,?_⟩
 ·unfold a8o;rw[v.patrons,v.loans,v.holds,v.charges,v.rules];rfl
 ·unfold a49;simp only[yad,yak,ybb];refine ⟨fun n hn=>?_,fun x hx=>?_⟩
  ·obtain ⟨x,hx,hi,hw⟩:=v.loanI n hn;have:=(hid x hx).1;have hw:=hw (by omega);unfold a5o;rw[b1y v.items hx hi];simp only[v.loanP n hn,hw.1,hw.2];simp
  ·have:=(hid x hx).1;cases hw:a2h x.Custody with
   |true=>
    obtain ⟨n,hn,e⟩:=v.itemL x hx (by omega) hw;unfold b1p;cases hq:c.Loans.find? (fun n=>n.Item==x.ID) with
    |none=>exact absurd (ybr.1 hq n hn) (by simpa using e)
    |some m=>rfl
   |false=>
    unfold b1p;cases hq:c.Loans.find? (fun n=>n.Item==x.ID) with
    |none=>rfl
    |some m=>
     have hm:=ybf hq;have he:m.Item=x.ID:=by have:=ybE hq;simpa using this
     obtain ⟨y,hy,hi,hy2⟩:=v.loanI m hm;have:=u3 v.items hy hx (hi.trans he);subst this;rw[(hy2 (by omega)).1]at hw;cases hw
 ·unfold a47;simp only[yad,yak];refine ⟨fun o ho=>?_,fun x hx=>?_⟩
  ·unfold a3y;obtain ⟨p1,p2⟩:=v.holdP o ho;rw[p1,show decide (c.NextHold≤o.ID)=false by rw[yag];omega];by_cases h1:o.State=1
   ·rw[show (o.State==1)=true by simpa using h1];rfl
   ·obtain ⟨x,hx,hg,hr,ha⟩:=v.holdI o ho h1;have:=(hid x hx).1;obtain ⟨a3,a2⟩:=ha (by omega);rw[show (o.State==1)=false by simpa using h1,b1y v.items hx hg];simp only[hr,yai,yam,yap,yaQ,Bool.or_false,ybu];by_cases e3:o.State=3
    ·obtain ⟨q1,q2,q3⟩:=a3 e3;simp[e3,q1,q2,q3]
    ·by_cases e2:o.State=2
     ·obtain ⟨q1,q2,q3⟩:=a2 e2;simp[e2,q1,q2,q3]
     ·simp[e2,e3]
  ·unfold a4c;have:=(hid x hx).1;by_cases h5:x.Custody.State=5
   ·rw[show (x.Custody.State==5)=true by simpa using h5];obtain ⟨o,ho,hg,h3⟩:=v.itemH x hx (by omega) h5;unfold o7;cases hq:c.Holds.find? (fun h=>h.Got==x.ID) with
    |none=>exact absurd (ybr.1 hq o ho) (by simpa using hg)
    |some p=>
     have hp:=ybf hq;have hpg:p.Got=x.ID:=by have:=ybE hq;simpa using this
     have hn:=a6h (a1h v.holds hp);have hp1:p.State≠1:=fun e=>by have:=hn.2.2.2.2.1 e;omega
     obtain ⟨y,hy,hyg,-,ha⟩:=v.holdI p hp hp1;have:=u3 v.items hy hx (hyg.trans hpg);subst this;have ha:=(ha (by omega)).2;have h3:p.State=3:=by
      rcases hn.2.2.2.1 with e|e|e
      ·exact absurd e hp1
      ·have:=(ha e).1;omega
      ·exact e
     simp[h3]
   ·rw[show (x.Custody.State==5)=false by simpa using h5];rfl
theorem Val.weak {c:Circ} (v:Val 0 c) (it:Int):Val it c:=by
 have hid:=fun x hx=>a1p (x:=x) v.items hx
 refine ⟨v.nums,v.patrons,v.loans,v.holds,v.charges,v.rules,v.cals,v.chG,v.items,v.loanP,fun n hn=>?_,fun x hx _ hw=>?_,v.holdP,fun o ho h1=>?_,fun x hx _ h5=>?_⟩
 ·obtain ⟨x,hx,hi,hw⟩:=v.loanI n hn;have:=(hid x hx).1;exact ⟨x,hx,hi,fun _=>hw (by omega)⟩
 ·have:=(hid x hx).1;exact v.itemL x hx (by omega) hw
 ·obtain ⟨x,hx,hg,hr,ha⟩:=v.holdI o ho h1;have:=(hid x hx).1;exact ⟨x,hx,hg,hr,fun _=>ha (by omega)⟩
 ·have:=(hid x hx).1;exact v.itemH x hx (by omega) h5
theorem Val.close {it:Int} {c:Circ} (v:Val it c) {x:Item} (hx:x∈c.Items) (hi:x.ID=it)
 (h1:∀n∈c.Loans,n.Item=it→a2h x.Custody=true∧x.Custody.Who=n.Patron) (h2:a2h x.Custody=true→∃n∈c.Loans,n.Item=it)
 (h3:∀h∈c.Holds,h.State≠1→h.Got=it→e9o x.Custody h) (h4:x.Custody.State=5→∃h∈c.Holds,h.Got=it∧h.State=3):Val 0 c:=by
 refine ⟨v.nums,v.patrons,v.loans,v.holds,v.charges,v.rules,v.cals,v.chG,v.items,v.loanP,fun n hn=>?_,fun y hy _ hw=>?_,v.holdP,fun o ho hs1=>?_,fun y hy _ h5=>?_⟩
 ·obtain ⟨y,hy,hiy,hw⟩:=v.loanI n hn;refine ⟨y,hy,hiy,fun _=>?_⟩;by_cases e:n.Item=it
  ·have:=u3 v.items hy hx (by omega);subst this;exact h1 n hn e
  ·exact hw e
 ·by_cases e:y.ID=it
  ·have:=u3 v.items hy hx (by omega);subst this;obtain ⟨n,hn,e2⟩:=h2 hw;exact ⟨n,hn,by omega⟩
  ·exact v.itemL y hy e hw
 ·obtain ⟨y,hy,hg,hr,ha⟩:=v.holdI o ho hs1;refine ⟨y,hy,hg,hr,fun _=>?_⟩;by_cases e:o.Got=it
  ·have:=u3 v.items hy hx (by omega);subst this;exact h3 o ho hs1 e
  ·exact ha e
 ·by_cases e:y.ID=it
  ·have:=u3 v.items hy hx (by omega);subst this;obtain ⟨n,hn,e2,e3⟩:=h4 h5;exact ⟨n,hn,by omega,e3⟩
  ·exact v.itemH y hy e h5
end
section
theorem a85 {c:Circ} (h:a1j c=true):∀(i:Nat) (x:Item) (j:Nat) (y:Item),c.Items[i]?=some x→c.Items[j]?=some y→x.ID=y.ID→i=j:=by
 intro i x j y hx hy e;have hs:=a2e h;rcases Nat.lt_trichotomy i j with hl|hl|hl
 ·have:=a1v (key:=fun y:Item=>y.ID) hs j i x y hl hx hy;omega
 ·exact hl
 ·have:=a1v (key:=fun y:Item=>y.ID) hs i j y x hl hy hx;omega
theorem a3f {c:Circ} (h:a1j c=true) {i:Nat} {x:Item} (hx:c.Items[i]?=some x) {m:Move} {u:Custody} {y:Item}:y∈(p8 c i x m u).Items↔(y∈c.Items∧y.ID≠x.ID)∨y=w8 u x:=by
 have hit:(p8 c i x m u).Items=c.Items.map (b6h x u):=d0e (a85 h) hx;rw[hit,ybd];constructor
 ·rintro ⟨z,hz,rfl⟩;unfold b6h;by_cases e:z.ID=x.ID
  ·have:=u3 h hz (yaf hx) e;subst this;right;simp
  ·left;rw[show (z.ID==x.ID)=false by simpa using e];exact ⟨hz,e⟩
 ·rintro (⟨hy,e⟩|rfl)
  ·refine ⟨y,hy,?_⟩;unfold b6h;rw[show (y.ID==x.ID)=false by simpa using e];rfl
  ·refine ⟨x,yaf hx,?_⟩;unfold b6h;simp
theorem Val.move {c:Circ} {i:Nat} {x:Item} (v:Val x.ID c) (hx:c.Items[i]?=some x) {m:Move} {u:Custody} (hm:m.Item=x.ID) (ha:o0 x.Custody m=(u,0)) (hl:c.Moves.length<2000):Val x.ID (p8 c i x m u):=by
 have mm:=fun y=>a3f (y:=y) v.items hx (m:=m) (u:=u)
 refine ⟨v.nums,v.patrons,v.loans,v.holds,v.charges,v.rules,v.cals,v.chG,d1r v.items (a85 v.items) hx hm ha hl,v.loanP,fun n hn=>?_,fun y hy hne hw=>?_,v.holdP,fun o ho h1=>?_,fun y hy hne h5=>?_⟩
 ·obtain ⟨y,hy,hi,hw⟩:=v.loanI n hn;by_cases e:y.ID=x.ID
  ·exact ⟨w8 u x,(mm _).2 (.inr rfl),e.symm.trans hi,fun q=>absurd (hi.symm.trans e) q⟩
  ·exact ⟨y,(mm _).2 (.inl ⟨hy,e⟩),hi,hw⟩
 ·rcases (mm y).1 hy with ⟨hy,_⟩|rfl
  ·exact v.itemL y hy hne hw
  ·exact absurd rfl hne
 ·obtain ⟨y,hy,hg,hr,ha⟩:=v.holdI o ho h1;by_cases e:y.ID=x.ID
  ·have:=u3 v.items hy (yaf hx) e;subst this;exact ⟨w8 u y,(mm _).2 (.inr rfl),hg,hr,fun q=>absurd hg.symm q⟩
  ·exact ⟨y,(mm _).2 (.inl ⟨hy,e⟩),hg,hr,ha⟩
 ·rcases (mm y).1 hy with ⟨hy,_⟩|rfl
  ·exact v.itemH y hy hne h5
  ·exact absurd rfl hne
theorem a6i {l:List Hold} (h:a0c l=0) {o p:Hold} (ho:o∈l) (hp:p∈l) (e:o.ID=p.ID):o=p:=b7p (a2d h) ho hp e
def b4l (l:List Hold) (id:Int) (o:Hold):List Hold:=l.map (fun z=>bif z.ID==id then o else z)
theorem a3g {l:List Hold} {o p z:Hold} (ho:o∈l):z∈b4l l o.ID p↔(z∈l∧z.ID≠o.ID)∨z=p:=by
 unfold b4l;rw[ybd];constructor
 ·rintro ⟨y,hy,rfl⟩;by_cases e:y.ID=o.ID
  ·right;rw[show (y.ID==o.ID)=true by simpa using e];rfl
  ·left;rw[show (y.ID==o.ID)=false by simpa using e];exact ⟨hy,e⟩
 ·rintro (⟨hz,e⟩|rfl)
  ·exact ⟨z,hz,by rw[show (z.ID==o.ID)=false by simpa using e];rfl⟩
  ·exact ⟨o,ho,by rw[show (o.ID==o.ID)=true by simp];rfl⟩
theorem e9j {l:List Hold} (h:a0c l=0) {o p:Hold} (ho:o∈l) (k1:p.ID=o.ID) (k2:p.Patron=o.Patron) (k3:p.Record=o.Record) (hs:o3 p=0) (hg:∀z∈l,0<p.Got→z.Got=p.Got→z.ID=o.ID):a0c (b4l l o.ID p)=0:=by
 rw[b43]at h ⊢;obtain ⟨h1,⟨h2,h3⟩,h4⟩:=h;refine ⟨by unfold b4l;rw[yaU];exact h1,⟨fun z hz=>?_,?_⟩,?_⟩
 ·rcases (a3g ho).1 hz with ⟨hz,_⟩|rfl
  ·exact h2 z hz
  ·exact hs
 ·unfold b4l;rw[List.pairwise_map];have key:∀z:Hold,(bif z.ID==o.ID then p else z).ID=z.ID:=by
   intro z;by_cases e:z.ID=o.ID
   ·rw[show (z.ID==o.ID)=true by simpa using e,yac,k1,e]
   ·rw[show (z.ID==o.ID)=false by simpa using e];rfl
  refine h3.imp (fun {a b} q=>?_);rw[key,key];exact q
 ·unfold b4l;rw[List.pairwise_map];refine (h3.and h4).imp_of_mem (fun {a b} ha hb q=>?_);obtain ⟨q1,q2⟩:=q;have one:∀z∈l,z.ID=o.ID→z=o:=fun z hz e=>b7p (c6v.2 h3) hz ho e
  unfold a00 at q2 ⊢;simp only[yal,ybc,yaZ,ne_eq,yag]at q2 ⊢;by_cases ea:a.ID=o.ID
  ·have:=one a ha ea;subst this;have eb:¬b.ID=a.ID:=by omega
   rw[show (b.ID==a.ID)=false by simpa using eb,show (a.ID==a.ID)=true by simp];simp only[yac,yaa,k2,k3];refine ⟨q2.1,?_⟩;by_cases e:b.Got=p.Got
   ·left;intro hpos;exact eb (hg b hb (by omega) e)
   ·exact .inr e
  ·by_cases eb:b.ID=o.ID
   ·have:=one b hb eb;subst this;rw[show (a.ID==b.ID)=false by simpa using ea,show (b.ID==b.ID)=true by simp];simp only[yac,yaa,k2,k3];refine ⟨q2.1,?_⟩;by_cases e:p.Got=a.Got
    ·left;intro hpos;exact ea (hg a ha hpos e.symm)
    ·exact .inr e
   ·rw[show (a.ID==o.ID)=false by simpa using ea,show (b.ID==o.ID)=false by simpa using eb];exact q2
theorem Val.swap {it:Int} {c:Circ} (v:Val it c) {o p:Hold} (ho:o∈c.Holds) (k1:p.ID=o.ID) (k2:p.Patron=o.Patron) (k3:p.Record=o.Record) (hs:o3 p=0) (hg:∀z∈c.Holds,0<p.Got→z.Got=p.Got→z.ID=o.ID)
 (old:o.State≠3∨o.Got=it) (new:p.State≠1→p.Got=it∧∃x∈c.Items,x.ID=it∧x.Record=o.Record):Val it (u0 c (b4l c.Holds o.ID p)):=by
 refine ⟨v.nums,v.patrons,v.loans,e9j v.holds ho k1 k2 k3 hs hg,v.charges,v.rules,v.cals,v.chG,v.items,v.loanP,v.loanI,v.itemL,fun z hz=>?_,fun z hz h1=>?_,fun y hy hne h5=>?_⟩
 ·rcases (a3g ho).1 hz with ⟨hz,_⟩|rfl
  ·exact v.holdP z hz
  ·have:=v.holdP o ho;exact ⟨by rw[k2];exact this.1,by rw[k1];exact this.2⟩
 ·rcases (a3g ho).1 hz with ⟨hz,_⟩|rfl
  ·exact v.holdI z hz h1
  ·obtain ⟨e,x,hx,hi,hr⟩:=new h1;exact ⟨x,hx,by rw[hi,e],by rw[hr,k3],fun q=>absurd e q⟩
 ·obtain ⟨z,hz,e,e3⟩:=v.itemH y hy hne h5;refine ⟨z,(a3g ho).2 (.inl ⟨hz,fun q=>?_⟩),e,e3⟩;have:=a6i v.holds hz ho q;subst this;rcases old with q|q
  ·exact q e3
  ·exact hne (e.symm.trans q)
theorem Val.setLoans {it:Int} {c:Circ} (v:Val it c) {l:List Loan} (he:a2o l=0) (h1:∀n∈l,(a84 c.Patrons n.Patron).2=true∧((∃n0∈c.Loans,n0.Item=n.Item∧n0.Patron=n.Patron)∨(n.Item=it∧∃x∈c.Items,x.ID=it)))
 (h2:∀n0∈c.Loans,n0.Item≠it→∃n∈l,n.Item=n0.Item):Val it (j8 c l):=by
 refine ⟨v.nums,v.patrons,he,v.holds,v.charges,v.rules,v.cals,v.chG,v.items,fun n hn=>(h1 n hn).1,fun n hn=>?_,fun x hx hne hw=>?_,v.holdP,v.holdI,v.itemH⟩
 ·rcases (h1 n hn).2 with ⟨n0,hn0,e1,e2⟩|⟨e,x,hx,hi⟩
  ·obtain ⟨x,hx,hi,hw⟩:=v.loanI n0 hn0;exact ⟨x,hx,by rw[hi,e1],fun q=>by have:=hw (by rw[e1];exact q);rw[e2]at this;exact this⟩
  ·exact ⟨x,hx,by rw[hi,e],fun q=>absurd e q⟩
 ·obtain ⟨n,hn,e⟩:=v.itemL x hx hne hw;obtain ⟨m,hm,e2⟩:=h2 n hn (by rw[e];exact hne);exact ⟨m,hm,e2.trans e⟩
theorem c5b {c:Circ} (h:a4p c=true):(0≤c.Today∧c.Today≤109572)∧(1≤c.NextHold∧c.NextHold≤100000)∧(1≤c.NextCharge∧c.NextCharge≤100000):=by
 unfold a4p at h;simp only[yas,yal,yag]at h;omega
theorem g2d {c:Circ} (h:(0≤c.Today∧c.Today≤109572)∧(1≤c.NextHold∧c.NextHold≤100000)∧(1≤c.NextCharge∧c.NextCharge≤100000)):a4p c=true:=by
 unfold a4p;simp only[yas,yal,yag];omega
theorem b9y {c:Circ} {x:Charge} (h:a0p c x=true):(a84 c.Patrons x.Patron).2=true∧x.ID<c.NextCharge:=by
 unfold a0p at h;simp only[yas,yal,yaL,yag]at h;exact ⟨h.1,by omega⟩
theorem d5c {c:Circ} {x:Charge} (h:(a84 c.Patrons x.Patron).2=true) (h2:x.ID<c.NextCharge):a0p c x=true:=by
 unfold a0p;simp only[yas,yal,yaL,yag];exact ⟨h,by omega⟩
theorem Val.setCharges {it:Int} {c:Circ} (v:Val it c) {l:List Charge} {n:Int} (he:o1 l=0) (hn:c.NextCharge≤n∧n≤100000) (h1:∀x∈l,(a84 c.Patrons x.Patron).2=true∧x.ID<n):Val it (a4f c l n):=by
 have hv:=c5b v.nums;exact ⟨g2d ⟨hv.1,hv.2.1,(by omega:1≤n),hn.2⟩,v.patrons,v.loans,v.holds,he,v.rules,v.cals,fun x hx=>d5c (h1 x hx).1 (h1 x hx).2,v.items,v.loanP,v.loanI,v.itemL,v.holdP,v.holdI,v.itemH⟩
end
section
theorem a1r {c d:Circ} (h:MidP c) {i:Nat} {x:Item} (hx:c.Items[i]?=some x) {kind branch who:Int} (e:qp c x.ID kind branch who=some (d,0)) :
 ∃u,o0 x.Custody ⟨c.Today,x.ID,kind,branch,who⟩=(u,0)∧c.Moves.length<2000∧d=p8 c i x ⟨c.Today,x.ID,kind,branch,who⟩ u∧MidP d:=by
 have hmv:=h.moves;rcases a4o h hx kind branch who with ⟨u,ha,-,m2,hm2⟩|⟨e',he,-,m2⟩
 ·rw[m2]at e;cases e
  have rm:=h02 (kind:=kind) (branch:=branch) (who:=who) h.short (by omega) (a7i h hx) hx rfl;rw[m2,ha]at rm;refine ⟨u,ha,?_,rfl,hm2⟩;by_cases hl:c.Moves.length<2000
  ·exact hl
  ·have e1:b0a c 0=13:=by
    unfold b0a;rw[show decide (2000≤(c.Moves.length:Int))=true by rw[yae];omega];rfl
   rw[e1]at rm;have q:(0:Int)=13:=congrArg Prod.snd (ybD rm);exact absurd q (by decide)
 ·rw[m2]at e;cases e
  exact absurd rfl he
theorem b82.b {a:Option (Unit×Circ_desk)} {b:Option (Circ×Int)} {Q:Circ→Prop} (h:b82 a b Q) {d:Circ} (e:b=some (d,0)):Q d:=by
 rcases h with ⟨d',-,h2,h3⟩|⟨d',e',he,-,h2,-⟩
 ·rw[e]at h2;cases h2
  exact h3
 ·rw[e]at h2;cases h2
  exact absurd rfl he
def Rdy (c d:Circ) (i:Nat) (x:Item) (o:Hold):Prop:=∃u l un,o0 x.Custody ⟨c.Today,x.ID,5,x.Custody.Branch,o.Patron⟩=(u,0)∧c.Moves.length<2000∧a2l c.Holds o.ID x.ID 3 un=(l,0)∧d=u0 (p8 c i x ⟨c.Today,x.ID,5,x.Custody.Branch,o.Patron⟩ u) l
theorem c2p {c d:Circ} (h:MidP c) {i:Nat} {x:Item} (hx:c.Items[i]?=some x) {o:Hold} (e:qc4 c x.ID o=some (d,0)):Rdy c d i x o:=by
 obtain ⟨r,b,hr,_⟩:=c59 (p:=o.Patron) (x:=x) h.short;have hb:=h.branch x (yaf hx);unfold qc4 at e;simp -zeta only[a7i h hx,d8,hx,hr]at e;have key:∀days:Int,(match qp c x.ID 5 x.Custody.Branch o.Patron with
  |some (r6,r7)=>bif !(r7==0) then some (o5,r7) else
   match qk r6 x.Custody.Branch with
   |some r9=>(match qbj r9 r6.Today days with
    |some (r11,r12)=>bif !(r12==0) then some (o5,r12) else
     match qa5 r6.Holds o.ID x.ID 3 r11 with
     |some (r14,r15)=>bif !(r15==0) then some (o5,r15) else some ({r6 with Holds:=r14},0)
     |none=>none
    |none=>none)
   |none=>none
  |none=>none)=some (d,0)→Rdy c d i x o:=by
  intro days e;cases hm:qp c x.ID 5 x.Custody.Branch o.Patron with
  |none=>rw[hm]at e;cases e
  |some p=>
   obtain ⟨c2,e2⟩:=p;rw[hm]at e;dsimp only at e;by_cases he2:e2=0
   ·subst he2;obtain ⟨u,ha,hl,rfl,hm2⟩:=a1r h hx hm;simp only[yai,yam,yaa,g2w hb]at e;obtain ⟨dd,ee,hq⟩:=a87 (hm2.cal x.Custody.Branch) (p8 c i x ⟨c.Today,x.ID,5,x.Custody.Branch,o.Patron⟩ u).Today days;rw[hq]at e;dsimp only at e;by_cases hee:ee=0
    ·subst hee;simp only[yai,yam,yaa,c91 hm2.short.holds hm2.sorted]at e;generalize hc:a2l (p8 c i x ⟨c.Today,x.ID,5,x.Custody.Branch,o.Patron⟩ u).Holds o.ID x.ID 3 dd=q at e;obtain ⟨l,e3⟩:=q;dsimp only at e;by_cases he3:e3=0
     ·subst he3;simp only[yai,yam,yaa]at e;cases e
      exact ⟨u,l,dd,ha,hl,hc,rfl⟩
     ·rw[show (e3==0)=false by simpa using he3]at e;simp only[yap,yac]at e;cases e
      exact absurd rfl he3
    ·rw[show (ee==0)=false by simpa using hee]at e;simp only[yap,yac]at e;cases e
     exact absurd rfl hee
   ·rw[show (e2==0)=false by simpa using he2]at e;simp only[yap,yac]at e;cases e
    exact absurd rfl he2
 cases b with
 |true=>exact key _ e
 |false=>exact key _ e
inductive Aw (c d:Circ) (i:Nat) (x:Item):Prop
 |stay (h0:qcu c x=some 0) (h3:x.Custody.State=3) (hd:d=c)
 |move (h0:qcu c x=some 0) (kind branch:Int) (hk:kind=6∨kind=2) (u:Custody) (ha:o0 x.Custody ⟨c.Today,x.ID,kind,branch,0⟩=(u,0)) (hl:c.Moves.length<2000) (hd:d=p8 c i x ⟨c.Today,x.ID,kind,branch,0⟩ u)
 |ready (o:Hold) (ho:o∈c.Holds) (hw:y8 x.Record c.Today o=true) (hp:o.Pickup=x.Custody.Branch) (hr:Rdy c d i x o)
 |send (o:Hold) (ho:o∈c.Holds) (hw:y8 x.Record c.Today o=true) (u:Custody) (l:List Hold) (ha:o0 x.Custody ⟨c.Today,x.ID,6,o.Pickup,o.Patron⟩=(u,0)) (hl:c.Moves.length<2000) (hc:a2l c.Holds o.ID x.ID 2 0=(l,0))
  (hd:d=u0 (p8 c i x ⟨c.Today,x.ID,6,o.Pickup,o.Patron⟩ u) l)
theorem b6r {c d:Circ} (h:MidP c) {i:Nat} {x:Item} (hx:c.Items[i]?=some x) (e:qcv c x.ID=some (d,0)):Aw c d i x:=by
 obtain ⟨v,p1,p2,g1,g2⟩:=b0j h hx;unfold qcv at e;simp -zeta only[a7i h hx,d8,hx,p2,c92 h.short.holds]at e;dsimp only at e;by_cases hv:v=0
 ·subst hv;simp only[yai,yac]at e;have mv:∀kind branch:Int,(kind=6∨kind=2)→(match qp c x.ID kind branch 0 with|some (r5,r6)=>some (r5,r6)|none=>none)=some (d,0)→Aw c d i x:=by
   intro kind branch hk e;cases hm:qp c x.ID kind branch 0 with
   |none=>rw[hm]at e;cases e
   |some p=>
    obtain ⟨c2,e2⟩:=p;rw[hm]at e;cases e
    obtain ⟨u,ha,hl,hd,-⟩:=a1r h hx hm;exact .move p1 kind branch hk u ha hl hd
  cases hb:x.Branch==x.Custody.Branch with
  |false=>
   rw[hb]at e;exact mv 6 _ (.inl rfl) e
  |true=>
   rw[hb]at e;simp only[yam,yaa]at e;cases h3:x.Custody.State==3 with
   |true=>
    rw[h3]at e;cases e
    exact .stay p1 (by simpa using h3) rfl
   |false=>
    rw[h3]at e;exact mv 2 _ (.inr rfl) e
 ·obtain ⟨o,ho,hoi,hg,hw⟩:=g2 hv;rw[show (v==0)=false by simpa using hv,hg]at e;simp only[yaa]at e;cases hpk:o.Pickup==x.Custody.Branch with
  |true=>
   rw[hpk]at e;simp only[yac]at e;cases hm:qc4 c x.ID o with
   |none=>rw[hm]at e;cases e
   |some p=>
    obtain ⟨c2,e2⟩:=p;rw[hm]at e;cases e
    exact .ready o ho hw (by simpa using hpk) (c2p h hx hm)
  |false=>
   rw[hpk]at e;simp only[yaa]at e;cases hm:qp c x.ID 6 o.Pickup o.Patron with
   |none=>rw[hm]at e;cases e
   |some p=>
    obtain ⟨c2,e2⟩:=p;rw[hm]at e;dsimp only at e;by_cases he2:e2=0
    ·subst he2;obtain ⟨u,ha,hl,rfl,hm2⟩:=a1r h hx hm;simp only[yai,yam,yaa,c91 hm2.short.holds hm2.sorted]at e;generalize hc:a2l (p8 c i x ⟨c.Today,x.ID,6,o.Pickup,o.Patron⟩ u).Holds v x.ID 2 0=q at e;obtain ⟨l,e3⟩:=q;dsimp only at e;by_cases he3:e3=0
     ·subst he3;simp only[yai,yam,yaa]at e;cases e
      exact .send o ho hw u l ha hl (by rw[hoi];exact hc) rfl
     ·rw[show (e3==0)=false by simpa using he3]at e;simp only[yap,yac]at e;cases e
      exact absurd rfl he3
    ·rw[show (e2==0)=false by simpa using he2]at e;simp only[yap,yac]at e;cases e
     exact absurd rfl he2
end
section
theorem a79 {l m:List Hold} (hs:∀i x,l[i]?=some x→t8 l i (fun y=>decide (x.ID≤y.ID))=false) {id it st un:Int} (h:a2l l id it st un=(m,0)) :
 ∃o∈l,o.ID=id∧(1≤it∧it≤9999)∧((st=3∧1≤un∧un≤109572)∨(st=2∧un=0))∧(o.State=1∨(o.State=2∧o.Got=it∧st=3))∧(∀p∈l,p.Got=it→p.ID=id)∧m=b4l l o.ID (b8w o it st un):=by
 unfold a2l at h;rcases o8 (fun x:Hold=>x.ID==id) l with ⟨h1,h2⟩|⟨i,x,h1,h2,h3,h4⟩
 ·rw[h2]at h;cases h
 ·rw[h4]at h;simp only at h;have hid:x.ID=id:=by simpa using h3
  cases hq:(!(rng 1 9999 it)||!(okS st un)) with
  |true=>rw[hq]at h;cases h
  |false=>
   rw[hq]at h;simp only[yaa]at h;cases hq2:(!(x.State==1)&&((!(x.State==2)||!(x.Got==it))||!(st==3))) with
   |true=>rw[hq2]at h;cases h
   |false=>
    rw[hq2]at h;simp only[yaa]at h;cases hq3:l.any (fun o=>o.Got==it&&!(o.ID==id)) with
    |true=>rw[hq3]at h;cases h
    |false=>
     rw[hq3]at h;simp only[yaa,h1,yaK,ya3,and_true]at h;subst h;simp only[yal,yaL,w6]at hq;refine ⟨x,yaf h2,hid,hq.1,?_,?_,fun p hp e=>?_,?_⟩
     ·have:=hq.2;unfold okS at this;simp only[yba,yad,ybb,w6]at this;rcases this with q|q
      ·exact .inl ⟨q.1,q.2.1,q.2.2⟩
      ·exact .inr q
     ·simp only[ybc,yal,yaL,ybb]at hq2;rcases hq2 with q|q
      ·exact .inl q
      ·exact .inr ⟨q.1.1,q.1.2,q.2⟩
     ·rw[ybM]at hq3;have:=hq3 p hp;simp only[yad,ybb,yas,yaZ,ne_eq,not_and,Decidable.not_not]at this;exact this e
     ·exact (a63 hs h2 (y:=b8w x it st un) rfl).symm
theorem d7j {o:Hold} (h:o3 o=0) {it st un:Int} (h1:1≤it∧it≤9999) (h2:(st=3∧1≤un∧un≤109572)∨(st=2∧un=0)):o3 (b8w o it st un)=0:=by
 rw[e2n]at h ⊢;obtain ⟨⟨a1,a2,a3,a4,a5,a6,a7,a8,a9,a10⟩,b,c,d⟩:=h;have e1:1≤st∧st≤3:=by omega
 have e2:¬st=1:=by omega
 have e3:0≤un∧un≤109572:=by omega
 have e4:0<un↔st=3:=by omega
 exact ⟨⟨a1,a2,a3,a4,a5,a6,.inr h1,e3,a9,a10⟩,e1,⟨fun _=>e2,fun _=>(by have:=h1.1;show 0<it;omega)⟩,e4⟩
theorem Val.catch {it:Int} {c:Circ} (v:Val it c) {id st un:Int} {l:List Hold} (h:a2l c.Holds id it st un=(l,0)) {x:Item} (hx:x∈c.Items) (hi:x.ID=it) (hr:∀o∈c.Holds,o.ID=id→x.Record=o.Record):Val it (u0 c l):=by
 obtain ⟨o,ho,hid,h1,h2,h3,h4,rfl⟩:=a79 (a2d v.holds) h;refine v.swap ho rfl rfl rfl (d7j (a1h v.holds ho) h1 h2) (fun z hz _ e=>(h4 z hz e).trans hid.symm) (.inl (by omega)) (fun _=>⟨rfl,x,hx,hi,hr o ho hid⟩)
def b80 (c:Circ) (it:Int):Prop:=∀n∈c.Loans,n.Item≠it
def c3l (c:Circ) (it:Int):Prop:=∀h∈c.Holds,h.State≠1→h.Got≠it
theorem e0k {c d:Circ} {i:Nat} {x:Item} {o:Hold} (v:Val x.ID c) (hx:c.Items[i]?=some x) (hl:b80 c x.ID) (ho:o∈c.Holds) (hrec:x.Record=o.Record) (hp:o.Pickup=x.Custody.Branch)
 (hf:∀h∈c.Holds,h.State≠1→h.Got=x.ID→h.ID=o.ID) (r:Rdy c d i x o):Val 0 d:=by
 obtain ⟨u,l,un,ha,hlen,hc,rfl⟩:=r;have v2:=v.move hx rfl ha hlen;have hm:w8 u x∈(p8 c i x ⟨c.Today,x.ID,5,x.Custody.Branch,o.Patron⟩ u).Items:=(a3f v.items hx).2 (.inr rfl);have v3:=v2.catch hc hm rfl (fun p hp e=>by rw[a6i v.holds hp ho e];exact hrec);have hu:u=⟨5,x.Custody.Branch,o.Patron,0⟩:=(c3s ha).res;obtain ⟨p,hpm,hid,h1,h2,h3,h4,rfl⟩:=a79 (a2d v.holds) hc;have:=a6i v.holds hpm ho hid;subst this;refine v3.close hm rfl (fun n hn e=>absurd e (hl n hn)) (fun h=>?_) (fun h hh hs1 hg=>?_) (fun _=>⟨b8w p x.ID 3 un,(a3g hpm).2 (.inr rfl),rfl,rfl⟩)
 ·rw[show (w8 u x).Custody=u from rfl,hu]at h;cases h
 ·rw[show (w8 u x).Custody=u from rfl,hu];rcases (a3g hpm).1 hh with ⟨hh,hne⟩|rfl
  ·exact absurd (hf h hh hs1 hg) hne
  ·exact ⟨fun _=>⟨rfl,hp.symm,rfl⟩,fun e=>absurd (show (3:Int)=2 from e) (by decide)⟩
theorem b0p {r t:Int} {o:Hold} (h:y8 r t o=true):o.Record=r∧o.State=1∧o.Asleep≤t:=by
 unfold y8 at h;simp only[yad,ybb,yae]at h;exact ⟨h.1.1,h.1.2,h.2⟩
theorem d4u {c d:Circ} {i:Nat} {x:Item} (v:Val x.ID c) (hx:c.Items[i]?=some x) (hl:b80 c x.ID) (hf:c3l c x.ID) (r:Aw c d i x):Val 0 d:=by
 have hm0:=yaf hx;cases r with
 |stay _ h3 hd=>
  subst hd;refine v.close hm0 rfl (fun n hn e=>absurd e (hl n hn)) (fun h=>?_) (fun h hh hs1 hg=>absurd hg (hf h hh hs1)) (fun h=>by omega);unfold a2h at h;rw[h3]at h;cases h
 |move _ kind branch hk u ha hlen hd=>
  subst hd;have v2:=v.move hx rfl ha hlen;have hm:w8 u x∈(p8 c i x ⟨c.Today,x.ID,kind,branch,0⟩ u).Items:=(a3f v.items hx).2 (.inr rfl);have hu:=(c3s ha).res;have hs:u.State=6∨u.State=3:=by
   rcases hk with rfl|rfl
   ·left;rw[hu];rfl
   ·right;rw[hu];rfl
  refine v2.close hm rfl (fun n hn e=>absurd e (hl n hn)) (fun h=>?_) (fun h hh hs1 hg=>absurd hg (hf h hh hs1)) (fun h=>?_)
  ·rw[show (w8 u x).Custody=u from rfl,a0s]at h;rcases hs with e|e<;>rw[e]at h<;>cases h
  ·rw[show (w8 u x).Custody=u from rfl]at h;omega
 |ready o ho hw hp hr=>exact e0k v hx hl ho (b0p hw).1.symm hp (fun h hh hs1 hg=>absurd hg (hf h hh hs1)) hr
 |send o ho hw u l ha hlen hc hd=>
  subst hd;have v2:=v.move hx rfl ha hlen;have hm:w8 u x∈(p8 c i x ⟨c.Today,x.ID,6,o.Pickup,o.Patron⟩ u).Items:=(a3f v.items hx).2 (.inr rfl);have v3:=v2.catch hc hm rfl (fun p hp e=>by rw[a6i v.holds hp ho e];exact (b0p hw).1.symm);have hu:u=⟨6,x.Custody.Branch,o.Patron,o.Pickup⟩:=(c3s ha).res;obtain ⟨p,hpm,hid,h1,h2,h3,h4,rfl⟩:=a79 (a2d v.holds) hc;have:=a6i v.holds hpm ho hid;subst this;refine v3.close hm rfl (fun n hn e=>absurd e (hl n hn)) (fun h=>?_) (fun h hh hs1 hg=>?_) (fun h=>?_)
  ·rw[show (w8 u x).Custody=u from rfl,hu]at h;cases h
  ·rw[show (w8 u x).Custody=u from rfl,hu];rcases (a3g hpm).1 hh with ⟨hh,hne⟩|rfl
   ·exact absurd hg (hf h hh hs1)
   ·exact ⟨fun e=>absurd (show (2:Int)=3 from e) (by decide),fun _=>⟨rfl,rfl,rfl⟩⟩
  ·rw[show (w8 u x).Custody=u from rfl,hu]at h;cases h
def a9j (c:Circ) (x:Item):Prop:=∀o∈c.Holds,y8 x.Record c.Today o=true→(o.Item==0||o.Item==x.ID)=false
theorem b2j (b:Int) (v:Bool) (x:Item) (h:Hold) (f:Int):((h.Item==0||h.Item==x.ID)=false∧b4e b v x h f=.inl f)∨((h.Item==0||h.Item==x.ID)=true∧(b4e b v x h f=.inr h.ID∨b4e b v x h f=.inl (bif f==0 then h.ID else f))):=by
 unfold b4e;cases h.Item==0<;>cases h.Item==x.ID<;>cases (!v||h.Pickup==b)<;>simp
theorem e8r {b:Int} {v:Bool} {x:Item}:∀{q:List Hold} {f:Int},(∀h∈q,h.ID≠0)→f≠0→b2l b v x q f≠0:=by
 intro q
 induction q with
 |nil=>intro f _ hf;exact hf
 |cons h q ih=>
  intro f hq hf;have hq2:=fun y hy=>hq y (yaP _ hy)
  unfold b2l;rcases b2j b v x h f with ⟨-,e⟩|⟨-,e|e⟩
  ·rw[e];exact ih hq2 hf
  ·rw[e];exact hq h (yaD ..)
  ·rw[e];have h0:(f==0)=false:=by simpa using hf
   rw[h0];exact ih hq2 hf
theorem d2g {b:Int} {v:Bool} {x:Item}:∀{q:List Hold},(∀h∈q,h.ID≠0)→(b2l b v x q 0=0↔∀h∈q,(h.Item==0||h.Item==x.ID)=false):=by
 intro q
 induction q with
 |nil=>intro _;exact ⟨fun _ h hh=>(by cases hh),fun _=>rfl⟩
 |cons h q ih=>
  intro hq;have hq2:=fun y hy=>hq y (yaP _ hy)
  have h1:=hq h (yaD ..);unfold b2l;rcases b2j b v x h 0 with ⟨k,e⟩|⟨k,e|e⟩
  ·rw[e];constructor
   ·intro p y hy;rcases yaC.1 hy with rfl|hy
    ·exact k
    ·exact (ih hq2).1 p y hy
   ·intro p;exact (ih hq2).2 (fun y hy=>p y (yaP _ hy))
  ·rw[e];constructor
   ·intro p;exact absurd p h1
   ·intro p;have:=p h (yaD ..);rw[k]at this;cases this
  ·rw[e];constructor
   ·intro p;exact absurd p (e8r hq2 h1)
   ·intro p;have:=p h (yaD ..);rw[k]at this;cases this
theorem d2b {q:List Hold} {o:Hold} (h:o∈q) (hr:rng 0 9 o.Rank=true):o∈p7 q:=by
 rw[w6]at hr;have k:∀n:Int,o.Rank=n→o∈rk n q:=fun n e=>yaX.2 ⟨h,by simpa using e⟩
 have:o.Rank=0∨o.Rank=1∨o.Rank=2∨o.Rank=3∨o.Rank=4∨o.Rank=5∨o.Rank=6∨o.Rank=7∨o.Rank=8∨o.Rank=9:=by omega
 unfold p7;simp only[yau];rcases this with e|e|e|e|e|e|e|e|e|e<;>simp[k _ e]
theorem d9m {c:Circ} (h:MidP c) (x:Item) (branch:Int):∃v,qa0 c.Holds x branch c.Today c.Local=some v∧(v=0↔a9j c x):=by
 refine ⟨_,e8l h x branch,?_⟩;have hm:∀o∈p7 (c.Holds.filter (y8 x.Record c.Today)),o∈c.Holds∧y8 x.Record c.Today o=true:=fun o ho=>yaX.1 (a41 ho)
 rw[d2g (fun o ho=>(h.rank o (hm o ho).1).2)];constructor
 ·intro p o ho hw;exact p o (d2b (yaX.2 ⟨ho,hw⟩) (h.rank o ho).1)
 ·intro p o ho;exact p o (hm o ho).1 (hm o ho).2
theorem c93 {c:Circ} (h:MidP c) {x:Item} (e:qcu c x=some 0):a9j c x:=by
 obtain ⟨v,hv,hz⟩:=d9m h x x.Custody.Branch;unfold qcu at e;rw[hv]at e;cases e
 exact hz.1 rfl
end
section
def d0m (d c:Circ):Prop:=d.Today=c.Today∧∀o∈d.Holds,o.State=1→o∈c.Holds
theorem d0m.refl (c:Circ):d0m c c:=⟨rfl,fun _ h _=>h⟩
theorem d0m.trans {a b c:Circ} (h:d0m a b) (k:d0m b c):d0m a c:=⟨h.1.trans k.1,fun o ho hs=>k.2 o (h.2 o ho hs) hs⟩
theorem a9j.less {c d:Circ} {x y:Item} (h:a9j c x) (l:d0m d c) (e1:y.ID=x.ID) (e2:y.Record=x.Record):a9j d y:=by
 intro o ho hw;rw[l.1,e2]at hw;rw[e1];exact h o (l.2 o ho (b0p hw).2.1) hw
structure Stp (c d:Circ):Prop where
 pats:d.Patrons=c.Patrons
 cals:d.Cals=c.Cals
 rules:d.Rules=c.Rules
 moves:∃m,d.Moves=c.Moves++m
theorem Stp.refl (c:Circ):Stp c c:=⟨rfl,rfl,rfl,[],by simp⟩
theorem Stp.trans {a b c:Circ} (h:Stp a b) (k:Stp b c):Stp a c:=by
 obtain ⟨m,e⟩:=h.moves;obtain ⟨n,f⟩:=k.moves;exact ⟨k.pats.trans h.pats,k.cals.trans h.cals,k.rules.trans h.rules,m++n,by rw[f,e,ybl]⟩
theorem a1q {c:Circ} {i:Nat} {x:Item} {m:Move} {u:Custody}:Stp c (p8 c i x m u):=⟨rfl,rfl,rfl,[m],rfl⟩
theorem a8k {c:Circ} {l:List Hold}:Stp c (u0 c l):=⟨rfl,rfl,rfl,[],by simp[u0]⟩
theorem d82 {c:Circ} {l:List Loan}:Stp c (j8 c l):=⟨rfl,rfl,rfl,[],by simp[j8]⟩
theorem f1j {c:Circ} {l:List Charge} {n:Int}:Stp c (a4f c l n):=⟨rfl,rfl,rfl,[],by simp[a4f]⟩
def d3x (it:Int) (c:Circ):Prop:=∀y∈c.Items,y.ID≠it→y.Custody.State=3→a9j c y
def d0l (c:Circ):Prop:=∀y∈c.Items,y.Custody.State=3→a9j c y
theorem a8w {c:Circ} (hs:a0c c.Holds=0) {id it st un:Int} {l:List Hold} (h:a2l c.Holds id it st un=(l,0)):d0m (u0 c l) c:=by
 obtain ⟨o,ho,hid,h1,h2,h3,h4,rfl⟩:=a79 (a2d hs) h;refine ⟨rfl,fun z hz e=>?_⟩;rcases (a3g ho).1 hz with ⟨hz,_⟩|rfl
 ·exact hz
 ·have e:st=1:=e;omega
structure AwF (c d:Circ) (i:Nat) (x:Item):Prop where
 items:∃u,d.Items=c.Items.set i (w8 u x)∧(u.State=3→qcu c x=some 0)
 stp:Stp c d
 less:d0m d c
theorem b6q {c d:Circ} {i:Nat} {x:Item} (hs:a0c c.Holds=0) (hx:c.Items[i]?=some x) (r:Aw c d i x):AwF c d i x:=by
 cases r with
 |stay h0 h3 hd=>subst hd;exact ⟨⟨x.Custody,(b8p hx).symm,fun _=>h0⟩,.refl _,.refl _⟩
 |move h0 kind branch hk u ha hlen hd=>subst hd;exact ⟨⟨u,rfl,fun _=>h0⟩,a1q,⟨rfl,fun o ho _=>ho⟩⟩
 |ready o ho hw hp hr=>
  obtain ⟨u,l,un,ha,hlen,hc,rfl⟩:=hr;have hl:=a8w (c:=p8 c i x ⟨c.Today,x.ID,5,x.Custody.Branch,o.Patron⟩ u) hs hc;refine ⟨⟨u,rfl,fun e=>?_⟩,a1q.trans a8k,hl.trans ⟨rfl,fun o ho _=>ho⟩⟩;rw[show u=⟨5,x.Custody.Branch,o.Patron,0⟩ from (c3s ha).res]at e;exact absurd (show (5:Int)=3 from e) (by decide)
 |send o ho hw u l ha hlen hc hd=>
  subst hd;have hl:=a8w (c:=p8 c i x ⟨c.Today,x.ID,6,o.Pickup,o.Patron⟩ u) hs hc;refine ⟨⟨u,rfl,fun e=>?_⟩,a1q.trans a8k,hl.trans ⟨rfl,fun o ho _=>ho⟩⟩;rw[show u=⟨6,x.Custody.Branch,o.Patron,o.Pickup⟩ from (c3s ha).res]at e;exact absurd (show (6:Int)=3 from e) (by decide)
theorem a27 {c:Circ} (h:a1j c=true) {i:Nat} {x:Item} (hx:c.Items[i]?=some x) {u:Custody} {y:Item}:y∈c.Items.set i (w8 u x)↔(y∈c.Items∧y.ID≠x.ID)∨y=w8 u x:=a3f (m:=⟨0,0,0,0,0⟩) h hx
theorem d4t {c d:Circ} {i:Nat} {x:Item} (hi:a1j c=true) (m:MidP c) (hx:c.Items[i]?=some x) (f:AwF c d i x) (h:d3x x.ID c):d0l d:=by
 obtain ⟨u,e,hu⟩:=f.items;intro y hy h3;rw[e,a27 hi hx]at hy;rcases hy with ⟨hy,hne⟩|rfl
 ·exact (h y hy hne h3).less f.less rfl rfl
 ·exact (c93 m (hu h3)).less f.less rfl rfl
theorem ma {c c1 d:Circ} {i:Nat} {x:Item} {kind branch who:Int} (v:Val x.ID c) (m:MidP c) (hx:c.Items[i]?=some x) (hl:b80 c x.ID) (hf:c3l c x.ID)
 (e1:qp c x.ID kind branch who=some (c1,0)) (e2:qcv c1 x.ID=some (d,0)):Val 0 d∧Stp c d∧d0m d c∧(d3x x.ID c→d0l d):=by
 obtain ⟨u,ha,hlen,rfl,m1⟩:=a1r m hx e1;have v1:=v.move hx rfl ha hlen;have hx1:=a4n hx ⟨c.Today,x.ID,kind,branch,who⟩ u;have r:=b6r m1 (x:=w8 u x) hx1 e2;have f:=b6q v1.holds hx1 r;refine ⟨d4u (x:=w8 u x) v1 hx1 hl hf r,a1q.trans f.stp,f.less.trans ⟨rfl,fun o ho _=>ho⟩,fun h=>d4t v1.items m1 hx1 f (fun y hy hne h3=>?_)⟩;rcases (a3f v.items hx).1 hy with ⟨hy,_⟩|rfl
 ·exact h y hy hne h3
 ·exact absurd rfl hne
theorem Val.lfree {c:Circ} (v:Val 0 c) {x:Item} (hx:x∈c.Items) (h:a2h x.Custody=false):b80 c x.ID:=by
 intro n hn e;obtain ⟨y,hy,hi,hw⟩:=v.loanI n hn;have:=u3 v.items hy hx (hi.trans e);subst this;have:=a1p v.items hy;rw[(hw (by omega)).1]at h;cases h
theorem Val.hfree {c:Circ} (v:Val 0 c) {x:Item} (hx:x∈c.Items) (h5:x.Custody.State≠5) (h6:x.Custody.State≠6):c3l c x.ID:=by
 intro o ho hs1 e;obtain ⟨y,hy,hi,-,hw⟩:=v.holdI o ho hs1;have:=u3 v.items hy hx (hi.trans e);subst this;have:=a1p v.items hy;have hw:=hw (by omega);rcases (a6h (a1h v.holds ho)).2.2.2.1 with q|q|q
 ·exact hs1 q
 ·exact h6 (hw.2 q).1
 ·exact h5 (hw.1 q).1
theorem d0l.x {c:Circ} (h:d0l c) (it:Int):d3x it c:=fun y hy _ h3=>h y hy h3
theorem c0x {c v:Circ} (h:MidP c) {record:Int} {i:Nat} {x:Item} (hx:c.Items[i]?=some x):∃w,qcu c x=some w∧
 a3u (record,(i:Int),c,v,())=(bif (x.Record==record&&x.Custody.State==3)&&!(w==0) then (match qcv c x.ID with|some (r5,r6)=>(bif !(r6==0) then some (.inr (.inr (r6,o5,()))) else some (.inl (record,((i+1:Nat):Int),r5,v,())))|none=>none) else some (.inl (record,((i+1:Nat):Int),c,v,()))):=by
 obtain ⟨w,p1,p2,-,-⟩:=b0j h hx;refine ⟨w,p1,?_⟩;have hlt:=(zL hx)
 have:=h.short.items;simp -zeta only[a3u,dlt hlt,yac,d8,hx,p2,a06,g9 (show i<9223372036854775807 by omega)];dsimp only;cases x.Record==record<;>cases x.Custody.State==3<;>cases w==0<;>rfl
theorem e30 {c d:Circ} {i:Nat} {x:Item} (hx:c.Items[i]?=some x) (r:Aw c d i x):∃u,d.Items=c.Items.set i (w8 u x)∧u.Branch=x.Custody.Branch:=by
 cases r with
 |stay h0 h3 hd=>subst hd;exact ⟨x.Custody,(b8p hx).symm,rfl⟩
 |move h0 kind branch hk u ha hlen hd=>
  subst hd;refine ⟨u,rfl,?_⟩;have hu:=(c3s ha).res;rcases hk with rfl|rfl<;>rw[hu]<;>rfl
 |ready o ho hw hp hr=>
  obtain ⟨u,l,un,ha,hlen,hc,rfl⟩:=hr;exact ⟨u,rfl,by rw[(c3s ha).res];rfl⟩
 |send o ho hw u l ha hlen hc hd=>
  subst hd;exact ⟨u,rfl,by rw[(c3s ha).res];rfl⟩
structure LentI (record:Int) (c0 c:Circ) (k:Nat):Prop where
 mid:MidP c
 val:Val 0 c
 stp:Stp c0 c
 less:d0m c c0
 done:∀(j:Nat) (y:Item),j<k→c.Items[j]?=some y→y.Record=record→y.Custody.State=3→a9j c y
 rest:∀y∈c.Items,y.Record≠record→y∈c0.Items
 shelf:∀y∈c.Items,y.Custody.State=3→y∈c0.Items
 kin:∀y∈c.Items,∃x∈c0.Items,x.ID=y.ID∧(y.Custody=x.Custody∨(x.Custody.State=3∧y.Custody.Branch=x.Custody.Branch))
theorem e6h {c d:Circ} {record:Int} (m:MidP c) (v:Val 0 c) (e:qbl c record=some (d,0)):LentI record c d d.Items.length:=by
 unfold qbl at e;cases hw:c4 a3u (record,0,c,o5,()) with
 |none=>rw[show c4 a3u (record,0,c,ZN,())=_ from hw]at e;cases e
 |some r=>
  rw[show c4 a3u (record,0,c,ZN,())=_ from hw]at e;obtain ⟨b,⟨hb1,k,hb2,hk,I⟩,hb⟩:=d3q (fun s:Int×Int×Circ×Circ×Unit=>s.1=record∧∃k:Nat,s.2.1=(k:Int)∧k≤s.2.2.1.Items.length∧LentI record c s.2.2.1 k) (by
   rintro ⟨rr,ii,c1,v1,_⟩ ⟨rr2,ii2,c2,v2,_⟩ ⟨h1,k,h2,hk,I⟩ hs;dsimp only at h1 h2 hk I;subst h1 h2;by_cases hlt:k<c1.Items.length
   ·have hx:c1.Items[k]?=some (c1.Items[k]):=yab hlt;generalize c1.Items[k]=x at hx;obtain ⟨w,p1,hst⟩:=c0x (v:=v1) (record:=rr) I.mid hx;rw[hst]at hs;cases hq:(x.Record==rr&&x.Custody.State==3)&&!(w==0) with
    |false=>
     rw[hq]at hs;cases hs
     refine ⟨rfl,k+1,rfl,(by show k+1≤c1.Items.length;omega),I.mid,I.val,I.stp,I.less,fun j y hj hy hr h3=>?_,I.rest,I.shelf,I.kin⟩;by_cases ejk:j=k
     ·subst ejk;rw[hx]at hy;cases hy
      rw[hr,h3]at hq;have:w=0:=by simpa using hq
      subst this;exact c93 I.mid p1
     ·exact I.done j y (by omega) hy hr h3
    |true=>
     rw[hq]at hs;simp only[yac]at hs;simp only[yad,ybb,yas,yaZ,ne_eq]at hq;cases ha:qcv c1 x.ID with
     |none=>rw[ha]at hs;cases hs
     |some p=>
      obtain ⟨c3,e3⟩:=p;rw[ha]at hs;dsimp only at hs;by_cases he3:e3=0
      ·subst he3;simp only[yai,yam,yaa]at hs;cases hs
       have hm:=yaf hx;have r:=b6r I.mid hx ha;have f:=b6q I.val.holds hx r;have hm3:=((b0w I.mid hx).b ha).1.1;have hwp:a2h x.Custody=false:=by unfold a2h;rw[hq.1.2];rfl
       have v3:=d4u (I.val.weak x.ID) hx (I.val.lfree hm hwp) (I.val.hfree hm (by omega) (by omega)) r;obtain ⟨u,eI,hu⟩:=f.items;have hu3:u.State≠3:=fun e=>by
        have:=hu e;rw[p1]at this;exact hq.2 (ybD this)
       refine ⟨rfl,k+1,rfl,(by show k+1≤c2.Items.length;rw[eI,List.length_set];omega),hm3,v3,I.stp.trans f.stp,f.less.trans I.less,fun j y hj hy hr h3=>?_,fun y hy hr=>?_,fun y hy h3=>?_,fun y hy=>?_⟩
       ·rw[eI]at hy;by_cases ejk:j=k
        ·subst ejk;rw[yby hlt]at hy;cases hy
         exact absurd h3 hu3
        ·rw[List.getElem?_set_ne (fun e=>ejk e.symm)]at hy;exact (I.done j y (by omega) hy hr h3).less f.less rfl rfl
       ·rw[eI,a27 I.val.items hx]at hy;rcases hy with ⟨hy,_⟩|rfl
        ·exact I.rest y hy hr
        ·exact absurd hq.1.1 hr
       ·rw[eI,a27 I.val.items hx]at hy;rcases hy with ⟨hy,_⟩|rfl
        ·exact I.shelf y hy h3
        ·exact absurd h3 hu3
       ·obtain ⟨w,eW,hw⟩:=e30 hx r;rw[eW,a27 I.val.items hx]at hy;rcases hy with ⟨hy,_⟩|rfl
        ·exact I.kin y hy
        ·obtain ⟨z,hz,hzi,hzc⟩:=I.kin x hm;refine ⟨z,hz,hzi,.inr ?_⟩;rcases hzc with e|⟨e1,e2⟩
         ·rw[←e];exact ⟨hq.1.2,hw⟩
         ·exact ⟨e1,hw.trans e2⟩
      ·rw[show (e3==0)=false by simpa using he3]at hs;cases hs
   ·have:k=c1.Items.length:=by omega
    subst this;simp only[a3u,dge,yaa]at hs;cases hs) ⟨rfl,0,rfl,ybt _,m,v,.refl _,.refl _,fun j y hj=>absurd hj (by omega),fun y hy _=>hy,fun y hy _=>hy,fun y hy=>⟨y,hy,rfl,.inl rfl⟩⟩ hw
  obtain ⟨rr,ii,c1,v1,_⟩:=b;dsimp only at hb1 hb2 hk I;subst hb1 hb2;by_cases hlt:k<c1.Items.length
  ·have hx:c1.Items[k]?=some (c1.Items[k]):=yab hlt;generalize c1.Items[k]=x at hx;obtain ⟨w,p1,hst⟩:=c0x (v:=v1) (record:=rr) I.mid hx;rw[hst]at hb;cases hq:(x.Record==rr&&x.Custody.State==3)&&!(w==0) with
   |false=>rw[hq]at hb;cases hb
   |true=>
    rw[hq]at hb;simp only[yac]at hb;cases ha:qcv c1 x.ID with
    |none=>rw[ha]at hb;cases hb
    |some p=>
     obtain ⟨c3,e3⟩:=p;rw[ha]at hb;dsimp only at hb;by_cases he3:e3=0
     ·rw[show (e3==0)=true by simpa using he3]at hb;cases hb
     ·rw[show (e3==0)=false by simpa using he3]at hb;cases hb
      cases e
      exact absurd rfl he3
  ·have:k=c1.Items.length:=by omega
   subst this;simp only[a3u,dge,yaa]at hb;cases hb
   cases e
   exact I
end
section
theorem h4a {X:Type} (key:X→Int) {l:List X} (hs:l.Pairwise (fun a b=>key a<key b)) {i:Nat} {x:X} (hx:l[i]?=some x):l.take i++l.drop (i+1)=l.filter (fun y=>!(key y==key x)):=by
 have hlt:=(yaE.1 hx)
 have e:l=l.take i++x::l.drop (i+1):=by
  rw[←hlt.2,←ybL hlt.1,List.take_append_drop]
 have hs2:=hs;rw[e,List.pairwise_append,List.pairwise_cons]at hs2;obtain ⟨-,⟨h2,-⟩,h3⟩:=hs2;have e1:(l.take i).filter (fun y=>!(key y==key x))=l.take i:=List.filter_eq_self.2 (fun a ha=>by
  have:=h3 a ha x (yaD ..);have:¬key a=key x:=by omega
  simpa using this)
 have e2:(l.drop (i+1)).filter (fun y=>!(key y==key x))=l.drop (i+1):=List.filter_eq_self.2 (fun a ha=>by
  have:=h2 a ha;have:¬key a=key x:=by omega
  simpa using this)
 have e3:l.filter (fun y=>!(key y==key x))=(l.take i++x::l.drop (i+1)).filter (fun y=>!(key y==key x)):=by rw[←e]
 rw[e3,List.filter_append,ybh,e1,e2];simp
theorem e31 {l m:List Loan} {n:Loan} {item:Int} (hs:a2o l=0) (h:a7l l item=(m,n,0)):n∈l∧n.Item=item∧a2o m=0∧∀z,z∈m↔z∈l∧z.Item≠item:=by
 have hp:=b13.1 hs;unfold a7l at h;rcases o8 (fun x:Loan=>x.Item==item) l with ⟨h1,h2⟩|⟨i,x,h1,h2,h3,h4⟩
 ·rw[h2]at h;cases h
 ·rw[h4,h1]at h;simp only[yaK,ya3,and_true]at h;obtain ⟨e,rfl⟩:=h;have hi:x.Item=item:=by simpa using h3
  rw[h4a (fun n:Loan=>n.Item) hp.2.2 h2]at e;have hm:∀z,z∈m↔z∈l∧z.Item≠item:=by
   intro z;rw[←e,yaX,hi];simp
  refine ⟨yaf h2,hi,?_,hm⟩;rw[b13];have:=yaw (fun y:Loan=>!(y.Item==x.Item)) l;rw[←e];exact ⟨by omega,fun z hz=>hp.2.1 z (yaX.1 hz).1,hp.2.2.filter _⟩
theorem b33 {l:List Charge} (h:o1 l=0) (p:Charge→Bool):o1 (l.filter p)=0:=by
 rw[b6y]at h ⊢;have:=yaw p l;exact ⟨by omega,fun x hx=>h.2.1 x (yaX.1 hx).1,h.2.2.filter p⟩
end
end Go.Proofs.YteaknldbhmocpaaGreatDoor
