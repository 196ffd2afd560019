/- InventoryKeeps: a part of the proof of the given statement, which is proved without conditions. -/
import Derived.Test.YteaknldbhmocpaaGreatDoorR5
import Derived.KernelRfl
set_option linter.all false
namespace Go.Proofs.YteaknldbhmocpaaGreatDoor
open Ev
open Go (IntKind)
section
theorem a2z (lo hi n:Int):(!(rng lo hi n))=(decide (n<lo)||decide (hi<n)):=by
 unfold rng;by_cases h1:n<lo
 ·have:¬lo≤n:=by omega
  simp[h1,this]
 ·have:lo≤n:=by omega
  by_cases h2:hi<n
  ·have:¬n≤hi:=by omega
   simp[*]
  ·have:n≤hi:=by omega
   simp[*]
theorem f9j {X:Type} (p:X→Bool) (l:List X):decide (a6w p l<0)=!(l.any p):=by
 unfold a6w
 induction l with
 |nil=>rfl
 |cons y l ih=>
  simp only[yb0,List.any_cons];cases hp:p y with
  |true=>rfl
  |false=>
   simp only[yay,ybf,ybd];rw[←ih];cases l.findIdx? p with
   |none=>rfl
   |some k=>simp only[ybF];rw[decide_eq_decide];omega
theorem c4u {X:Type} (p:X→Bool) (l:List X):decide (0≤a6w p l)=l.any p:=by
 have h:=f9j p l;cases hb:l.any p with
 |true=>rw[hb]at h;simp at h ⊢;omega
 |false=>rw[hb]at h;simp at h ⊢;omega
theorem g1r {γ:Type} {p:γ→Int→Option Bool} {g:γ} (q:Int→Bool) {l:List Int} (hl:l.length<1000000000) (hp:∀x∈l,p g x=some (q x)):qat p l g=some (a6w q l):=by
 have h:=u7 (step:=b54 p) (fun i=>(l,g,(l.length:Int),(i:Int),())) l q (fun i _=>(.inr ((i:Int),()):(Unit)⊕(Int×Unit))) (.inl ()) hl
  (by simp only[b54,dge,yaa])
  (fun i x hx=>by
   have hi:=(zL hx)
   simp only[b54,dlt hi,d8,hx,yac,hp x (yaf hx),f7 (show i<9223372036854775807 by omega)])
 unfold qat;rw[show c9 (b54 p) (l,g,(l.length:Int),0,())=_ from h];have e:=a00 (p:=q) (g:=fun i _=>(.inr ((i:Int),()):(Unit)⊕(Int×Unit))) (d:=.inl ()) (fun r:(Unit)⊕(Int×Unit)=>match r with | .inl (_)=>(-1:Int) | .inr (v,_)=>v) (l:=l) (i:=0);dsimp only at e;rw[←a1x,←e];generalize a2t q (fun i _=>(.inr ((i:Int),()):(Unit)⊕(Int×Unit))) (.inl ()) 0 l=r;rcases r with _|⟨v,_⟩<;>rfl
theorem g1s {γ:Type} {p:γ→Int→Option Bool} {g:γ} (q:Int→Bool) {l:List Int} (hl:l.length<1000000000) (hp:∀x∈l,p g x=some (q x)):qd0 p l g=some (l.any q):=by
 unfold qd0;rw[g1r q hl hp];dsimp only;rw[c4u]
theorem g1q {γ:Type} {p:γ→Rule→Option Bool} {g:γ} (q:Rule→Bool) {l:List Rule} (hl:l.length<1000000000) (hp:∀x∈l,p g x=some (q x)):qar p l g=some (a6w q l):=by
 have h:=u7 (step:=b52 p) (fun i=>(l,g,(l.length:Int),(i:Int),())) l q (fun i _=>(.inr ((i:Int),()):(Unit)⊕(Int×Unit))) (.inl ()) hl
  (by simp only[b52,dge,yaa])
  (fun i x hx=>by
   have hi:=(zL hx)
   simp only[b52,dlt hi,d8,hx,yac,hp x (yaf hx),f7 (show i<9223372036854775807 by omega)])
 unfold qar;rw[show c9 (b52 p) (l,g,(l.length:Int),0,())=_ from h];have e:=a00 (p:=q) (g:=fun i _=>(.inr ((i:Int),()):(Unit)⊕(Int×Unit))) (d:=.inl ()) (fun r:(Unit)⊕(Int×Unit)=>match r with | .inl (_)=>(-1:Int) | .inr (v,_)=>v) (l:=l) (i:=0);dsimp only at e;rw[←a1x,←e];generalize a2t q (fun i _=>(.inr ((i:Int),()):(Unit)⊕(Int×Unit))) (.inl ()) 0 l=r;rcases r with _|⟨v,_⟩<;>rfl
theorem g1u {γ:Type} {p:γ→Rule→Option Bool} {g:γ} (q:Rule→Bool) {l:List Rule} (hl:l.length<1000000000) (hp:∀x∈l,p g x=some (q x)):qdz p l g=some (l.any q):=by
 unfold qdz;rw[g1q q hl hp];dsimp only;rw[c4u]
theorem d9v {γ:Type} {p:γ→Loan→Option Bool} {g:γ} (q:Loan→Bool) {l:List Loan} (hl:l.length<1000000000) (hp:∀x∈l,p g x=some (q x)):qas p l g=some (a6w q l):=by
 have h:=u7 (step:=b53 p) (fun i=>(l,g,(l.length:Int),(i:Int),())) l q (fun i _=>(.inr ((i:Int),()):(Unit)⊕(Int×Unit))) (.inl ()) hl
  (by simp only[b53,dge,yaa])
  (fun i x hx=>by
   have hi:=(zL hx)
   simp only[b53,dlt hi,d8,hx,yac,hp x (yaf hx),f7 (show i<9223372036854775807 by omega)])
 unfold qas;rw[show c9 (b53 p) (l,g,(l.length:Int),0,())=_ from h];have e:=a00 (p:=q) (g:=fun i _=>(.inr ((i:Int),()):(Unit)⊕(Int×Unit))) (d:=.inl ()) (fun r:(Unit)⊕(Int×Unit)=>match r with | .inl (_)=>(-1:Int) | .inr (v,_)=>v) (l:=l) (i:=0);dsimp only at e;rw[←a1x,←e];generalize a2t q (fun i _=>(.inr ((i:Int),()):(Unit)⊕(Int×Unit))) (.inl ()) 0 l=r;rcases r with _|⟨v,_⟩<;>rfl
theorem g90 {γ:Type} {p:γ→Item→Option Bool} {g:γ} (q:Item→Bool) {l:List Item} (hl:l.length<1000000000) (hp:∀x∈l,p g x=some (q x)):qk p l g=some (a6w q l):=by
 have h:=u7 (step:=b3a p) (fun i=>(l,g,(l.length:Int),(i:Int),())) l q (fun i _=>(.inr ((i:Int),()):(Unit)⊕(Int×Unit))) (.inl ()) hl
  (by simp only[b3a,dge,yaa])
  (fun i x hx=>by
   have hi:=(zL hx)
   simp only[b3a,dlt hi,d8,hx,yac,hp x (yaf hx),f7 (show i<9223372036854775807 by omega)])
 unfold qk;rw[show c9 (b3a p) (l,g,(l.length:Int),0,())=_ from h];have e:=a00 (p:=q) (g:=fun i _=>(.inr ((i:Int),()):(Unit)⊕(Int×Unit))) (d:=.inl ()) (fun r:(Unit)⊕(Int×Unit)=>match r with | .inl (_)=>(-1:Int) | .inr (v,_)=>v) (l:=l) (i:=0);dsimp only at e;rw[←a1x,←e];generalize a2t q (fun i _=>(.inr ((i:Int),()):(Unit)⊕(Int×Unit))) (.inl ()) 0 l=r;rcases r with _|⟨v,_⟩<;>rfl
theorem c2e {γ:Type} {p:γ→Hold→Option Bool} {g:γ} (q:Hold→Bool) {l:List Hold} (hl:l.length<1000000000) (hp:∀x∈l,p g x=some (q x)):qc p l g=some (a6w q l):=by
 have h:=u7 (step:=b8i p) (fun i=>(l,g,(l.length:Int),(i:Int),())) l q (fun i _=>(.inr ((i:Int),()):(Unit)⊕(Int×Unit))) (.inl ()) hl
  (by simp only[b8i,dge,yaa])
  (fun i x hx=>by
   have hi:=(zL hx)
   simp only[b8i,dlt hi,d8,hx,yac,hp x (yaf hx),f7 (show i<9223372036854775807 by omega)])
 unfold qc;rw[show c9 (b8i p) (l,g,(l.length:Int),0,())=_ from h];have e:=a00 (p:=q) (g:=fun i _=>(.inr ((i:Int),()):(Unit)⊕(Int×Unit))) (d:=.inl ()) (fun r:(Unit)⊕(Int×Unit)=>match r with | .inl (_)=>(-1:Int) | .inr (v,_)=>v) (l:=l) (i:=0);dsimp only at e;rw[←a1x,←e];generalize a2t q (fun i _=>(.inr ((i:Int),()):(Unit)⊕(Int×Unit))) (.inl ()) 0 l=r;rcases r with _|⟨v,_⟩<;>rfl
theorem g1w {γ:Type} {p:γ→Hold→Option Bool} {g:γ} (q:Hold→Bool) {l:List Hold} (hl:l.length<1000000000) (hp:∀x∈l,p g x=some (q x)):qed p l g=some (l.any q):=by
 unfold qed;rw[c2e q hl hp];dsimp only;rw[c4u]
theorem c9w (n lo hi:Int):qbp n lo hi=some (rng lo hi n):=by
 unfold qbp;simp -zeta only[a0i,o5]
 try rfl
theorem d9z (n lo hi:Int):qbo n lo hi=some (rng lo hi n):=by
 unfold qbo;simp -zeta only[a0i,o5]
 try rfl
theorem g9a (n lo hi:Int):qbl n lo hi=some (rng lo hi n):=by
 unfold qbl;simp -zeta only[a0i,o5]
 try rfl
theorem f25 (n:Int):qdy n=some (rng 1 9999 n):=by
 unfold qdy;simp -zeta only[a0i,o5]
 try rfl
theorem f2z (n:Int):qdw n=some (rng 0 109572 n):=by
 unfold qdw;simp -zeta only[a0i,o5]
 try rfl
theorem g9j (n:Int):qdf n=some (rng 0 109572 n):=by
 unfold qdf;simp -zeta only[a0i,o5]
 try rfl
theorem g9g (n:Int):qd7 n=some (rng 1 9999 n):=by
 unfold qd7;simp -zeta only[a0i,o5]
 try rfl
theorem d93 (n:Int):qcc n=some (rng 0 109572 n):=by
 unfold qcc;simp -zeta only[a0i,o5]
 try rfl
theorem g9m (n:Int):qdt n=some (rng 0 109572 n):=by
 unfold qdt;rw[d9z]
def a3d (x:Charge):Int:=
 bif decide (x.ID<1)||decide (99999<x.ID)||decide (x.Patron<1)||decide (9999<x.Patron)||decide (x.Item<1)||decide (9999<x.Item)||!(rng 0 109572 x.Day) then 2
 else bif decide (x.Kind<1)||decide (3<x.Kind) then 1
 else bif decide (x.Amount<1)||decide (100000000<x.Amount)||decide (x.Paid<0)||decide (x.Amount≤x.Paid) then 2 else 0
theorem f2p (x:Charge):qbr x=some (a3d x):=by
 unfold qbr a3d;simp -zeta only[a0i,o5,g9j,g9g,a2z 1 9999,ybv];dsimp only;simp only[a1z,ybv]
theorem a6e {α β:Type} (a:α) (g:Int→β) (e:Int):(bif !(e==0) then some (.inr (g e)) else some (.inl a):Option (α⊕β))=a7h a g e:=by
 unfold a7h;cases e==0<;>rfl
theorem b1l (l:List Charge) (i:Nat) (x:Charge):a1a l i x=bif p8 l i (fun y=>decide (x.ID≤y.ID)) then 7 else a3d x:=rfl
theorem d2w {l:List Charge} (hl:l.length<1000000000):c9 b2z (l,l,(l.length:Int),0,())=some (if y0 (a1a l) 0 l==0 then .inl () else .inr (y0 (a1a l) 0 l,())):=by
 have h:=a1e (step:=b2z) (fun i=>(l,l,(l.length:Int),(i:Int),())) l (a1a l) (.inl ()) (fun e=>.inr (e,())) hl
  (by simp only[b2z,dge,yaa])
  (fun i x hx=>by
   have hi:=(zL hx)
   have hxm:=yaf hx;rw[b1l,a0l,←a6e _ _ (a3d x)];rcases i with _|j
   ·simp -zeta only[b2z,dlt hi,d8,hx,a0i,o5,b37,yaa,yac,p8,f7 (show 0<9223372036854775807 by omega),f2p]
    try rfl
   ·have hj:l[j]?=some l[j]:=yab (by omega);simp -zeta only[b2z,dlt hi,d8,hx,a0i,o5,e34,a3z (show j<1000000000 by omega),hj,yaa,yac,p8,f7 (show j+1<9223372036854775807 by omega),f2p];rfl)
 exact h
theorem f2j {l:List Charge} (hl:l.length<1000000000):qay l=some (m8 l):=by
 unfold qay m8;rw[d2w hl];generalize y0 (a1a l) 0 l=e;cases decide (128<(l.length:Int)) with
 |true=>rfl
 |false=>
  by_cases h:e=0
  ·subst h;rfl
  ·have h2:(e==0)=false:=by simpa using h
   simp only[h2,yay,ybf,yaa]
theorem d2x {l:List Loan} (hl:l.length<1000000000):c9 b23 (l,l,(l.length:Int),0,())=some (if y0 (a3w l) 0 l==0 then .inl () else .inr (y0 (a3w l) 0 l,())):=by
 have h:=a1e (step:=b23) (fun i=>(l,l,(l.length:Int),(i:Int),())) l (a3w l) (.inl ()) (fun e=>.inr (e,())) hl
  (by simp only[b23,dge,yaa])
  (fun i x hx=>by
   have hi:=(zL hx)
   have hxm:=yaf hx;unfold a3w;simp only[a0l];rcases i with _|j
   ·simp -zeta only[b23,dlt hi,d8,hx,a0i,o5,b37,yaa,yac,p8,f7 (show 0<9223372036854775807 by omega),f25,f2z,a2z,ybv];simp only[ybv]
    try rfl
   ·have hj:l[j]?=some l[j]:=yab (by omega);simp -zeta only[b23,dlt hi,d8,hx,a0i,o5,e34,a3z (show j<1000000000 by omega),hj,yaa,yac,p8,f7 (show j+1<9223372036854775807 by omega),f25,f2z,a2z,ybv];simp only[ybv];rfl)
 exact h
theorem g87 {l:List Loan} (hl:l.length<1000000000):qbb l=some (y8 l):=by
 unfold qbb y8;rw[d2x hl];generalize y0 (a3w l) 0 l=e;cases decide (64<(l.length:Int)) with
 |true=>rfl
 |false=>
  by_cases h:e=0
  ·subst h;rfl
  ·have h2:(e==0)=false:=by simpa using h
   simp only[h2,yay,ybf,yaa]
def a4p (x:Patron):Int:=
 bif decide (x.Kind<1)||decide (9<x.Kind)||decide (x.Branch<1)||decide (4<x.Branch) then 1
 else bif decide (x.Until<0)||decide (109572<x.Until) then 2
 else bif x.Name==[]||!(vld x.Name)||!(cln x.Name==x.Name) then 3
 else bif decide (200<(x.Name.length:Int)) then 4 else 0
theorem g9b {x:Patron} (h:x.Name.length<10000000):qc9 x=some (a4p x):=by
 have hV:qcg x.Name=some (vld x.Name):=by
  have:decide (x.Name.length≤LIM)=true:=by rw[yae];unfold LIM;omega
  unfold qcg;rw[this];rfl
 have hC:vld x.Name=true→qde x.Name=some (cln x.Name):=fun hv=>by
  have:decide (x.Name.length≤LIM)=true:=by rw[yae];unfold LIM;omega
  unfold qde;rw[this,hv];rfl
 unfold qc9 a4p;simp -zeta only[a0i,o5,hV];cases hv:vld x.Name with
 |true=>
  rw[hC hv];simp -zeta only[a0i,o5,yam,Bool.or_false];dsimp only;simp only[a1z]
 |false=>
  simp -zeta only[a0i,o5,yaq,Bool.or_true,Bool.true_or,yac];dsimp only;simp only[a1z,yac]
def c0t (l:List Patron):Nat→Int
 |0=>0
 |j+1=>match l[j]? with|some y=>y.ID|none=>0
theorem b2q (l:List Patron) (i:Nat) (x:Patron):a1b l i x=bif decide (x.ID<1)||decide (9999<x.ID) then 2 else bif p8 l i (fun y=>decide (x.ID≤y.ID)) then 7 else a4p x:=rfl
theorem b4g (l:List Patron) (i:Nat) (x:Patron) (hi:i≤l.length):a1b l i x=bif decide (x.ID<1)||decide (9999<x.ID) then 2 else bif decide (x.ID≤c0t l i) then 7 else a4p x:=by
 rw[b2q];cases hb:(decide (x.ID<1)||decide (9999<x.ID)) with
 |true=>rfl
 |false=>
  rw[yai,yag,yag]at hb;cases i with
  |zero=>
   have:decide (x.ID≤c0t l 0)=false:=by rw[yag];show ¬x.ID≤0;omega
   rw[this];rfl
  |succ j=>
   have hj:l[j]?=some l[j]:=yab (by omega);simp only[p8,c0t,hj]
theorem d2q {l:List Patron} (hl:l.length<1000000000) (hn:∀x∈l,x.Name.length<10000000):c9 b5q (0,l,(l.length:Int),0,())=some (if y0 (a1b l) 0 l==0 then .inl () else .inr (y0 (a1b l) 0 l,())):=by
 have h:=a1e (step:=b5q) (fun i=>(c0t l i,l,(l.length:Int),(i:Int),())) l (a1b l) (.inl ()) (fun e=>.inr (e,())) hl
  (by simp only[b5q,dge,yaa])
  (fun i x hx=>by
   have hi:=(zL hx)
   have hxm:=yaf hx;rw[b4g l i x (by omega),a0l,a0l,←a6e _ _ (a4p x)];simp -zeta only[b5q,dlt hi,d8,hx,a0i,o5,yaa,yac,g9b (hn x hxm),f7 (show i<9223372036854775807 by omega)];simp only[c0t,hx];rfl)
 exact h
theorem g8x {l:List Patron} (hl:l.length<1000000000) (hn:∀x∈l,x.Name.length<10000000):qa9 l=some (a02 l):=by
 unfold qa9 a02;rw[d2q hl hn];generalize y0 (a1b l) 0 l=e;cases decide (32<(l.length:Int)) with
 |true=>rfl
 |false=>
  by_cases h:e=0
  ·subst h;rfl
  ·have h2:(e==0)=false:=by simpa using h
   simp only[h2,yay,ybf,yaa]
theorem h3i (n:Int):(!(rng 0 9999 n))=(!(n==0)&&!(rng 1 9999 n)):=by
 rw[a2z,a2z];by_cases h:n=0
 ·subst h;rfl
 ·have h2:(n==0)=false:=by simpa using h
  rw[h2];have:decide (n<0)=decide (n<1):=by rw[decide_eq_decide];omega
  rw[this];rfl
theorem d1d {α:Type} (a b:Bool) (x y:α):(bif a then x else bif b then x else y)=bif a||b then x else y:=by cases a<;>rfl
theorem f2w (x:Hold):qd9 x=some (m6 x):=by
 unfold qd9 m6;simp -zeta only[a0i,o5,g9m,d9z];dsimp only;simp only[a1z,h3i,a2z 1 99999,a2z 1 4,a2z 0 9,a2z 1 3,d1d,ybv]
theorem a4a (l:List Hold) (i:Nat) (x:Hold):a0u l i x=bif p8 l i (fun y=>decide (x.ID≤y.ID)) then 7 else m6 x:=by
 unfold a0u;congr 1;cases h:m6 x==0 with
 |true=>simp at h;simp[h]
 |false=>simp
theorem e0h {l:List Hold} (hl:l.length<1000000000):c9 c5s (l,l,(l.length:Int),0,())=some (if y0 (a0u l) 0 l==0 then .inl (l,()) else .inr (y0 (a0u l) 0 l,())):=by
 have h:=a1e (step:=c5s) (fun i=>(l,l,(l.length:Int),(i:Int),())) l (a0u l) (.inl (l,())) (fun e=>.inr (e,())) hl
  (by simp only[c5s,dge,yaa])
  (fun i x hx=>by
   have hi:=(zL hx)
   have hxm:=yaf hx;rw[a4a,a0l,←a6e _ _ (m6 x)];rcases i with _|j
   ·simp -zeta only[c5s,dlt hi,d8,hx,a0i,o5,b37,yaa,yac,p8,f7 (show 0<9223372036854775807 by omega),f2w]
    try rfl
   ·have hj:l[j]?=some l[j]:=yab (by omega);simp -zeta only[c5s,dlt hi,d8,hx,a0i,o5,e34,a3z (show j<1000000000 by omega),hj,yaa,yac,p8,f7 (show j+1<9223372036854775807 by omega),f2w];rfl)
 exact h
theorem d96 {γ:Type} {p:γ→Hold→Hold→Option Bool} {g:γ} {q:Hold→Hold→Bool} (hp:∀a b,p g a b=some (q a b)) {l:List Hold} (hl:l.length<1000000000) {i:Nat} {x:Hold} (hx:l[i]?=some x) {v v2:Int} :
 c9 (c2f p) (l,g,(i:Int),v,v2,(i:Int),0,())=some (bif (l.take i).all (fun y=>!(q y x)) then .inl (l,g,v,v2,()) else .inr (true,())):=by
 have hi:=(zL hx)
 have h:=m0 (step:=c2f p) (fun k=>(l,g,(i:Int),v,v2,(i:Int),(k:Int),())) (l.take i) (fun _ y=>!(q y x)) (.inr (true,())) (.inl (l,g,v,v2,())) (by rw[yaW];omega)
  (by rw[yaW,Nat.min_eq_left (by omega)];simp only[c2f,dge,yaa])
  (fun k y hy=>by
   have hk:=(zL hy)
   rw[yaW]at hk;have hy2:l[k]?=some y:=by rw[←hy,ybO (by omega)]
   simp -zeta only[c2f,dlt (show k<i by omega),d8,hx,hy2,hp,yac,f7 (show k<9223372036854775807 by omega)];cases q y x<;>rfl)
 rw[show c9 (c2f p) (l,g,(i:Int),v,v2,(i:Int),0,())=_ from h,o8]
def c3v (q:Hold→Hold→Bool) (l:List Hold):Bool:=a1f (fun i x=>(l.take i).all (fun y=>!(q y x))) 0 l
theorem g9i {γ:Type} {p:γ→Hold→Hold→Option Bool} {g:γ} (q:Hold→Hold→Bool) (hp:∀a b,p g a b=some (q a b)) {l:List Hold} (hl:l.length<1000000000):qd p l g=some (!(c3v q l)):=by
 have h:=m0 (step:=c5l p) (fun i=>(l,g,(l.length:Int),(i:Int),())) l (fun i x=>(l.take i).all (fun y=>!(q y x))) (.inr (true,())) (.inl ()) hl
  (by simp only[c5l,dge,yaa])
  (fun i x hx=>by
   have hi:=(zL hx)
   simp only[c5l,dlt hi,yac,d96 hp hl hx];cases (l.take i).all (fun y=>!(q y x)) with
   |true=>simp only[yac,f7 (show i<9223372036854775807 by omega)]
   |false=>rfl)
 unfold qd;rw[show c9 (c5l p) (l,g,(l.length:Int),0,())=_ from h];unfold c3v;cases a1f (fun i x=>(l.take i).all (fun y=>!(q y x))) 0 l<;>rfl
def b0i (a b:Hold):Bool:=a.Patron==b.Patron&&a.Record==b.Record
def b0h (a b:Hold):Bool:=a.Got==b.Got&&decide (0<a.Got)
theorem d0q {l:List Hold}:a2l l=(c3v b0i l&&c3v b0h l):=by
 unfold a2l c3v;have key:∀(m:List Hold) (i:Nat),a1f (fun i x=>(l.take i).all (fun y=>!(z8 x y))) i m=(a1f (fun i x=>(l.take i).all (fun y=>!(b0i y x))) i m&&a1f (fun i x=>(l.take i).all (fun y=>!(b0h y x))) i m):=by
  intro m
  induction m with
  |nil=>intro i;rfl
  |cons x m ih=>
   intro i;simp only[a1f];rw[ih (i+1)];have e:(l.take i).all (fun y=>!(z8 x y))=((l.take i).all (fun y=>!(b0i y x))&&(l.take i).all (fun y=>!(b0h y x))):=by
    induction l.take i with
    |nil=>rfl
    |cons y t iht=>
     simp only[ybJ];rw[iht];have e2:(!(z8 x y))=(!(b0i y x)&&!(b0h y x)):=by
      unfold z8 b0i b0h;rw[←Bool.not_or];congr 1;have a1:(x.Patron==y.Patron)=(y.Patron==x.Patron):=Bool.beq_comm;have a2:(x.Record==y.Record)=(y.Record==x.Record):=Bool.beq_comm;rw[a1,a2];congr 1;rw[ybG];simp only[yad,yae,ya5];constructor
      ·rintro ⟨h1,h2⟩;exact ⟨h2.symm,by omega⟩
      ·rintro ⟨h1,h2⟩;exact ⟨by omega,h1.symm⟩
     rw[e2];cases b0i y x<;>cases b0h y x<;>cases t.all (fun y=>!(b0i y x))<;>cases t.all (fun y=>!(b0h y x))<;>rfl
   rw[e];cases (l.take i).all (fun y=>!(b0i y x))<;>cases (l.take i).all (fun y=>!(b0h y x))<;>cases a1f (fun i x=>(l.take i).all (fun y=>!(b0i y x))) (i+1) m<;>cases a1f (fun i x=>(l.take i).all (fun y=>!(b0h y x))) (i+1) m<;>rfl
 exact key l 0
theorem h2b {l:List Hold} (hl:l.length<1000000000):qm l=some (w6 l):=by
 have t1:=g9i (p:=fun (g:Unit×Unit) x0 x1=>qcr x0 x1) (g:=((),())) b0i (fun a b=>by unfold qcr b0i;simp -zeta only[o5];rfl) hl;have t2:=g9i (p:=fun (g:Unit×Unit) x0 x1=>qcq x0 x1) (g:=((),())) b0h (fun a b=>by unfold qcq b0h;simp -zeta only[o5];rfl) hl;unfold qm w6;rw[e0h hl];cases decide (64<(l.length:Int)) with
 |true=>rfl
 |false=>
  by_cases h:y0 (a0u l) 0 l=0
  ·simp only[h,yal,yby,yaa,yac,t1,t2,d0q];cases c3v b0i l<;>cases c3v b0h l<;>rfl
  ·have:(y0 (a0u l) 0 l==0)=false:=by simpa using h
   simp only[this,yay,ybf,yaa]
theorem g9f (r:Rule):qd3 r=some (a6q r):=by
 unfold qd3 a6q;simp -zeta only[a0i,o5,g9a];dsimp only;congr 1;generalize rng 0 9 r.Patron=b0;generalize rng 0 9 r.Item=b1;generalize rng 0 4 r.Branch=b2;generalize rng 0 365 r.Days=b3;generalize rng 0 10 r.Renewals=b4;generalize rng 0 99 r.Loans=b5;generalize rng 0 1000 r.Fine=b6;generalize rng 0 30 r.Grace=b7;generalize rng 0 100000000 r.MaxFine=b8;cases b0<;>cases b1<;>cases b2<;>cases b3<;>cases b4<;>cases b5<;>cases b6<;>cases b7<;>cases b8<;>rfl
theorem c3q {X:Type} (q:X→Bool) (l:List X):l.any q=!(l.all (fun y=>!(q y))):=by
 induction l with
 |nil=>rfl
 |cons y l ih=>simp only[List.any_cons,ybJ];rw[ih];cases q y<;>rfl
theorem e0m {l:List Rule} (hl:l.length<1000000000):c9 d28 (l,l,(l.length:Int),0,())=some (if y0 (a3x l) 0 l==0 then .inl () else .inr (y0 (a3x l) 0 l,())):=by
 have h:=a1e (step:=d28) (fun i=>(l,l,(l.length:Int),(i:Int),())) l (a3x l) (.inl ()) (fun e=>.inr (e,())) hl
  (by simp only[d28,dge,yaa])
  (fun i x hx=>by
   have hi:=(zL hx)
   have d1:decide ((0:Int)≤(i:Int))=true:=by rw[yae];omega
   have d2:decide ((i:Int)≤(l.length:Int))=true:=by rw[yae];omega
   have hc:=g1u (p:=fun (g:Unit×Rule×Unit) x0=>qbw x0 g.2.1) (g:=((),(x,()))) (fun y=>a41 y x) (l:=l.take i) (by rw[yaW];omega) (fun y _=>by
    unfold qbw a41;simp -zeta only[o5];rfl)
   unfold a3x;simp only[a0l,d28,dlt hi,d8,hx,yac,g9f,d1,d2,Int.le_refl,decide_true,Bool.and_self,yaI,Int.toNat_zero,List.drop_zero,hc];rw[c3q];cases a6q x with
   |false=>rfl
   |true=>
    simp only[yam,yaa];cases (l.take i).all (fun y=>!(a41 y x)) with
    |true=>simp only[yac,yaa,yam,f7 (show i<9223372036854775807 by omega)];rfl
    |false=>rfl)
 exact h
theorem h2e {l:List Rule} (hl:l.length<1000000000):qs l=some (a2b l):=by
 unfold qs a2b;rw[e0m hl];generalize y0 (a3x l) 0 l=e;cases decide (32<(l.length:Int)) with
 |true=>rfl
 |false=>
  by_cases h:e=0
  ·subst h;rfl
  ·have h2:(e==0)=false:=by simpa using h
   simp only[h2,yay,ybf,yaa]
theorem e0l {c:Calendar} (hl:c.Closed.length<1000000000):c9 c5u (c.Closed,(c.Closed.length:Int),0,c,())=some (bif e36 c.Closed then .inl () else .inr (7,())):=by
 have h:=m0 (step:=c5u) (fun i=>(c.Closed,(c.Closed.length:Int),(i:Int),c,())) c.Closed (fun i x=>!(p8 c.Closed i (fun y=>decide (x≤y)))) (.inr (7,())) (.inl ()) hl
  (by simp only[c5u,dge,yaa])
  (fun i x hx=>by
   have hi:=(zL hx)
   rcases i with _|j
   ·simp -zeta only[c5u,dlt hi,d8,hx,o5,b37,yaa,yac,p8,f7 (show 0<9223372036854775807 by omega)]
    try rfl
   ·have hj:c.Closed[j]?=some c.Closed[j]:=yab (by omega);simp -zeta only[c5u,dlt hi,d8,hx,e34,yac,a3z (show j<1000000000 by omega),hj,p8,f7 (show j+1<9223372036854775807 by omega)];dsimp only;cases decide (x≤c.Closed[j])<;>rfl)
 exact h
theorem g92 {c:Calendar} (hl:c.Closed.length<1000000000):qr c=some (y5 c):=by
 unfold qr y5;simp -zeta only[a0i];dsimp only;rw[e0l hl,g1s (fun x=>decide (x<0)||decide (109572<x)) hl (fun x _=>by
  unfold qb9;rw[d93];dsimp only;rw[a2z]),c3q]
 have e:decide (127≤c.Week)=decide (126<c.Week):=by rw[decide_eq_decide];omega
 rw[e];cases (decide (c.Week<0)||decide (126<c.Week)) with
 |true=>rfl
 |false=>
  cases decide (64<(c.Closed.length:Int)) with
  |true=>rfl
  |false=>
   cases c.Closed.all (fun x=>!(decide (x<0)||decide (109572<x))) with
   |false=>rfl
   |true=>
    simp only[yaa,yac];cases e36 c.Closed<;>rfl
end
section
theorem d9x (n lo hi:Int):qbh n lo hi=some (rng lo hi n):=by
 unfold qbh;simp -zeta only[a0i,o5]
 try rfl
theorem y2 {lo hi n:Int}:rng lo hi n=true↔lo≤n∧n≤hi:=by
 unfold rng;simp only[yad,yae]
theorem b11 {n:Int} (h:rng 1 12 n=true):n=1∨n=2∨n=3∨n=4∨n=5∨n=6∨n=7∨n=8∨n=9∨n=10∨n=11∨n=12:=by
 have:=y2.1 h;omega
theorem a4m {n:Int} (h:rng 1 15 n=true):n=1∨n=2∨n=3∨n=4∨n=5∨n=6∨n=7∨n=8∨n=9∨n=10∨n=11∨n=12∨n=13∨n=14∨n=15:=by
 have:=y2.1 h;omega
theorem g9r {s k:Int} (hs:rng 1 12 s=true) (hk:rng 1 15 k=true):qeg s k=some (a5e s k):=by
 rcases b11 hs with h|h|h|h|h|h|h|h|h|h|h|h<;>subst h<;>
  rcases a4m hk with h|h|h|h|h|h|h|h|h|h|h|h|h|h|h<;>subst h<;>rfl
theorem g9s (c:Custody):qei c=some (a7c c):=by
 unfold qei a7c g1x;simp -zeta only[a0i,o5,a9c,d9x,a2z];dsimp only;cases hb:(decide (c.State<1)||decide (12<c.State)||(decide (c.Branch<1)||decide (4<c.Branch))) with
 |true=>
  have:(decide (c.State<1)||decide (12<c.State)||decide (c.Branch<1)||decide (4<c.Branch))=true:=by rw[←hb,ybv _ _ (decide (4<c.Branch))]
  rw[this];rfl
 |false=>
  have:(decide (c.State<1)||decide (12<c.State)||decide (c.Branch<1)||decide (4<c.Branch))=false:=by rw[←hb,ybv _ _ (decide (4<c.Branch))]
  rw[this];have hr:rng 1 12 c.State=true:=by
   simp only[yai,yag]at hb;rw[y2];omega
  unfold rng;simp only[yaa];generalize decide (0≤c.Who)=a1;generalize decide (c.Who≤9999)=a2;generalize decide (1≤c.Who)=a3;generalize decide (1≤c.To)=a4;generalize decide (c.To≤4)=a5;generalize (c.To==0)=a6;generalize (c.To==c.Branch)=a7;generalize (c.Who==0)=a8;rcases b11 hr with h|h|h|h|h|h|h|h|h|h|h|h<;>rw[h]<;>revert a1 a2 a3 a4 a5 a6 a7 a8<;>decide
theorem f2l (c:Custody) (ok:Bool):qb2 c ok=some (bif ok then (c,0) else (⟨0,0,0,0⟩,1)):=by
 cases ok<;>rfl
theorem g9t (c:Custody) (m:Move):qek c m=some (bif !(m.Branch==c.Branch) then (⟨6,c.Branch,m.Who,m.Branch⟩,0) else (⟨0,0,0,0⟩,1)):=by
 unfold qek;rw[f2l]
theorem f2r (c:Custody) (m:Move):qc8 c m=some (m5 c m):=by
 unfold qc8 m5;simp -zeta only[a0i,o5,a9c,d9x,g9s];dsimp only;have hw:(!(rng 0 109572 m.Day)||!(rng 1 9999 m.Item)||!(rng 1 15 m.Kind)||!(rng 1 4 m.Branch)||!(rng 0 9999 m.Who))=!(a7d m):=by
  unfold a7d rng;simp only[Bool.not_and,ybv]
 rw[show (!(a7c c)||!(rng 0 109572 m.Day)||!(rng 1 9999 m.Item)||!(rng 1 15 m.Kind)||!(rng 1 4 m.Branch)||!(rng 0 9999 m.Who))=(!(a7c c)||!(a7d m)) by rw[←hw];simp only[ybv]];cases hb:(!(a7c c)||!(a7d m)) with
 |true=>rfl
 |false=>
  simp only[yai,yaw]at hb;obtain ⟨h1,h2⟩:=hb;rw[h2,yam]at hw;simp only[yai,yaw]at hw;obtain ⟨⟨⟨⟨w1,w2⟩,w3⟩,w4⟩,w5⟩:=hw;have hs:rng 1 12 c.State=true:=by
   unfold a7c at h1;rw[y2];cases hq:(decide (c.State<1)||decide (12<c.State)||decide (c.Branch<1)||decide (4<c.Branch)) with
   |true=>rw[hq]at h1;cases h1
   |false=>simp only[yai,yag]at hq;omega
  rw[g9r hs w3];simp only[yaa];cases ha:a5e c.State m.Kind with
  |false=>rfl
  |true=>
   simp only[yam,yaa];have h0:=(y2.1 w5).1;unfold b4i w9;simp only[f2l,g9t];generalize (c.State==5)=g5;generalize (m.Who==c.Who)=g7;generalize (m.Branch==c.To)=g6;by_cases hw0:m.Who=0
   ·have e2:decide (1≤m.Who)=false:=by rw[yag];omega
    rw[e2];simp only[hw0];by_cases hb:m.Branch=c.Branch
    ·simp only[hb,yal];rcases a4m w3 with h|h|h|h|h|h|h|h|h|h|h|h|h|h|h<;>
      (simp only[h];cases g5<;>cases g6<;>cases g7<;>rfl)
    ·have e3:(m.Branch==c.Branch)=false:=by simpa using hb
     simp only[e3];rcases a4m w3 with h|h|h|h|h|h|h|h|h|h|h|h|h|h|h<;>
      (simp only[h];cases g5<;>cases g6<;>cases g7<;>rfl)
   ·have e2:decide (1≤m.Who)=true:=by rw[yae];omega
    have e1:(m.Who==0)=false:=by simpa using hw0
    rw[e2];simp only[e1];by_cases hb:m.Branch=c.Branch
    ·simp only[hb,yal];rcases a4m w3 with h|h|h|h|h|h|h|h|h|h|h|h|h|h|h<;>
      (simp only[h];cases g5<;>cases g6<;>cases g7<;>rfl)
    ·have e3:(m.Branch==c.Branch)=false:=by simpa using hb
     simp only[e3];rcases a4m w3 with h|h|h|h|h|h|h|h|h|h|h|h|h|h|h<;>
      (simp only[h];cases g5<;>cases g6<;>cases g7<;>rfl)
end
section
theorem g8w {branch:Int} {l:List Move} {item:Int} (hl:l.length<1000000000):qa8 branch l item=some (y9 branch l item):=by
 unfold qa8 y9;simp -zeta only[d9x,a2z]
 try dsimp only
 have h:=a1u (step:=b5p) (fun i c=>(item,l,(l.length:Int),(i:Int),(⟨0,0,0,0⟩:Custody),c,())) l
  (fun i x c=>bif x.Item==item then (bif (m5 c x).2==0 then .inl (m5 c x).1 else .inr (.inr ((i:Int),(m5 c x).2,(⟨0,0,0,0⟩:Custody),()))) else .inl c)
  (fun c=>.inl (⟨0,0,0,0⟩,c,())) (by show l.length<18446744073709551616;omega) (fun c=>by simp only[b5p,dge,yaa])
  (fun i x c hx=>by
   have hi:=(zL hx)
   simp only[b5p,dlt hi,d8,hx,yac,f2r,f7 (show i<9223372036854775807 by omega)];cases x.Item==item with
   |false=>rfl
   |true=>
    simp only[yam,yaa,yac];obtain ⟨d,e⟩:=m5 c x;cases he:e==0 with
    |true=>rfl
    |false=>rfl) (a8w branch)
 rw[b3k item (fun c=>(.inl (⟨0,0,0,0⟩,c,()):(Custody×Custody×Unit)⊕(Int×Int×Custody×Unit))) (fun p=>.inr (p.1,p.2,(⟨0,0,0,0⟩:Custody),()))]at h;cases (decide (branch<1)||decide (4<branch)) with
 |true=>rfl
 |false=>
  simp only[yaa,qd4];rw[show c9 b5p (item,l,(l.length:Int),0,(⟨0,0,0,0⟩:Custody),(⟨1,branch,0,0⟩:Custody),())=_ from h];cases t6 0 l item (a8w branch) with
  |inl c=>rfl
  |inr p=>rfl
theorem f2k {c:Circ} {item:Int} (hl:c.Items.length<1000000000):qaz c item=some (a6w (fun x=>x.ID==item) c.Items):=by
 unfold qaz;rw[g90 (fun x=>x.ID==item) hl (fun x _=>rfl)]
theorem b22 {c:Circ} {item:Int} (hl:c.Items.length<1000000000):(qaz c item=some (-1)∧c.Items.find? (fun x=>x.ID==item)=none)∨
 ∃(i:Nat) (x:Item),qaz c item=some (i:Int)∧c.Items[i]?=some x∧x.ID=item∧c.Items.find? (fun x=>x.ID==item)=some x:=by
 rw[f2k hl,←e0k hl];exact b0x hl
theorem c9x {c:Circ} {id:Int} (hl:c.Patrons.length<1000000000):qbs id c=some (a3j c.Patrons id).2:=by
 unfold qbs;rw[f2y hl]
theorem g9q {l:List Loan} {item:Int} (hl:l.length<1000000000):qeb l item=some (a4n l item):=by
 unfold qeb qa0 qcm a4n;dsimp only;rw[d9v (p:=fun (g:Unit×Int×Unit) x0=>qbv x0 g.2.1) (g:=((),(item,()))) (fun x=>x.Item==item) hl (fun x _=>rfl)];rcases o6 (fun x:Loan=>x.Item==item) l with ⟨h1,h2⟩|⟨i,x,h1,h2,h3,h4⟩
 ·simp only[h1,h2,a88,yac]
  try rfl
 ·simp only[h1,h4,a39,yaa,d8,h2];have:decide ((0:Int)≤(i:Int))=true:=by rw[yae];omega
  rw[this]
theorem a8v {c:Circ} {item:Int} (hl:c.Holds.length<1000000000):qap c item=some (o3 c item):=by
 unfold qap o3;rw[c2e (p:=fun (g:Unit×Int×Unit) x0=>qby x0 g.2.1) (g:=((),(item,()))) (fun x=>x.Got==item) hl (fun x _=>rfl)];rcases o6 (fun x:Hold=>x.Got==item) c.Holds with ⟨h1,h2⟩|⟨i,x,h1,h2,h3,h4⟩
 ·simp only[h1,h2,a88,yac]
  try rfl
 ·simp only[h1,h4,a39,yaa,d8,h2]
def w7 (x:Item):Bool:=rng 1 9999 x.ID&&rng 1 9999 x.Record&&rng 1 4 x.Branch&&rng 1 9 x.Kind&&rng 0 100000000 x.Price&&decide ((x.Call.length:Int)≤200)&&vld x.Call
theorem f2q (x:Item):qc7 x=some (w7 x):=by
 unfold qc7 w7;simp -zeta only[o5,c9w];dsimp only;cases hb:(rng 1 9999 x.ID&&rng 1 9999 x.Record&&rng 1 4 x.Branch&&rng 1 9 x.Kind&&rng 0 100000000 x.Price&&decide ((x.Call.length:Int)≤200)) with
 |false=>rfl
 |true=>
  simp only[yad,yae]at hb;have:decide (x.Call.length≤LIM)=true:=by rw[yae];unfold LIM;omega
  unfold qcg;rw[this]
  try rfl
theorem e0j {c:Circ} (hl:c.Items.length<1000000000):c9 c5t (c.Items,(c.Items.length:Int),0,c,())=some (bif a1f (fun i x=>!(!(w7 x)||p8 c.Items i (fun y=>decide (x.ID≤y.ID)))) 0 c.Items then .inl (c,()) else .inr (false,())):=by
 have h:=m0 (step:=c5t) (fun i=>(c.Items,(c.Items.length:Int),(i:Int),c,())) c.Items (fun i x=>!(!(w7 x)||p8 c.Items i (fun y=>decide (x.ID≤y.ID)))) (.inr (false,())) (.inl (c,())) hl
  (by simp only[c5t,dge,yaa])
  (fun i x hx=>by
   have hi:=(zL hx)
   rcases i with _|j
   ·simp -zeta only[c5t,dlt hi,d8,hx,a0i,b37,yaa,yac,p8,f2q,f7 (show 0<9223372036854775807 by omega)];dsimp only;cases w7 x<;>rfl
   ·have hj:c.Items[j]?=some c.Items[j]:=yab (by omega);simp -zeta only[c5t,dlt hi,d8,hx,a0i,e34,a3z (show j<1000000000 by omega),hj,yaa,yac,p8,f2q,f7 (show j+1<9223372036854775807 by omega)];dsimp only;cases w7 x<;>cases decide (x.ID≤c.Items[j].ID)<;>rfl)
 exact h
def a0e (c:Circ) (x:Item):Bool:=!(!((y9 x.Branch c.Moves x.ID).2.2==0)||!(s9 (y9 x.Branch c.Moves x.ID).1 x.Custody))
def b8f (c:Circ):Bool:=c.Moves.all (fun m=>(c.Items.find? (fun x=>x.ID==m.Item)).isSome)
def a0g (c:Circ):Bool:=!(decide (64<(c.Items.length:Int))||decide (2000<(c.Moves.length:Int)))&&(a1f (fun i x=>!(!(w7 x)||p8 c.Items i (fun y=>decide (x.ID≤y.ID)))) 0 c.Items&&(b8f c&&c.Items.all (a0e c)))
theorem h2d {c:Circ} (hs:Short c):qp c=some (a0g c):=by
 have h2:=m0 (step:=b6h) (fun i=>(c.Moves,(c.Moves.length:Int),(i:Int),c,())) c.Moves (fun _ m=>(c.Items.find? (fun x=>x.ID==m.Item)).isSome) (.inr (false,())) (.inl (c,())) hs.moves
  (by simp only[b6h,dge,yaa])
  (fun i x hx=>by
   have hi:=(zL hx)
   have:=hs.moves;simp only[b6h,dlt hi,d8,hx,yac,f7 (show i<9223372036854775807 by omega)];rcases b22 (item:=x.Item) hs.items with ⟨h1,h2⟩|⟨k,y,h1,h2,h3,h4⟩
   ·simp only[h1,h2,a88,yac,ybZ,yaa]
   ·simp only[h1,h4,a39,yaa,Option.isSome_some,yac])
 have h3:=m0 (step:=b6i) (fun i=>(c.Items,(c.Items.length:Int),(i:Int),c,())) c.Items (fun _=>a0e c) (.inr (false,())) (.inl ()) hs.items
  (by simp only[b6i,dge,yaa])
  (fun i x hx=>by
   have hi:=(zL hx)
   have:=hs.items;unfold a0e;simp -zeta only[b6i,dlt hi,d8,hx,yac,a0i,g8w hs.moves,f7 (show i<9223372036854775807 by omega)];dsimp only;cases (!((y9 x.Branch c.Moves x.ID).2.2==0)||!(s9 (y9 x.Branch c.Moves x.ID).1 x.Custody))<;>rfl)
 unfold qp a0g b8f;simp -zeta only[a0i];dsimp only;rw[e0j hs.items];cases (decide (64<(c.Items.length:Int))||decide (2000<(c.Moves.length:Int))) with
 |true=>rfl
 |false=>
  cases a1f (fun i x=>!(!(w7 x)||p8 c.Items i (fun y=>decide (x.ID≤y.ID)))) 0 c.Items with
  |false=>rfl
  |true=>
   simp only[yaa,yac];rw[show c9 b6h (c.Moves,(c.Moves.length:Int),0,c,())=_ from h2,o8];cases c.Moves.all (fun m=>(c.Items.find? (fun x=>x.ID==m.Item)).isSome) with
   |false=>rfl
   |true=>
    simp only[yac];rw[show c9 b6i (c.Items,(c.Items.length:Int),0,c,())=_ from h3,o8];cases c.Items.all (a0e c)<;>rfl
theorem e0i {c:Circ} (hs:Short c):c9 c2p (c.Cals,0,c,())=some (bif a2q c then .inl (c,()) else .inr (false,())):=by
 have st:∀(i:Int) (w:Int) (cl:List Int) (hl:cl.length<1000000000),(match qr (⟨w,cl⟩:Calendar) with
  |some r16=>(bif !(r16==0) then some (.inr (.inr (false,()))) else some (.inl (c.Cals,i,c,())):Option (((V4 Calendar)×Int×Circ×Unit)⊕((Circ×Unit)⊕(Bool×Unit))))
  |none=>none)=bif y5 ⟨w,cl⟩==0 then some (.inl (c.Cals,i,c,())) else some (.inr (.inr (false,()))):=fun i w cl hl=>by
  rw[g92 (c:=⟨w,cl⟩) hl];dsimp only;cases y5 ⟨w,cl⟩==0<;>rfl
 have s0:c2p (c.Cals,0,c,())=bif y5 c.Cals.x0==0 then some (.inl (c.Cals,1,c,())) else some (.inr (.inr (false,()))):=st 1 _ _ hs.cal0;have s1:c2p (c.Cals,1,c,())=bif y5 c.Cals.x1==0 then some (.inl (c.Cals,2,c,())) else some (.inr (.inr (false,()))):=st 2 _ _ hs.cal1;have s2:c2p (c.Cals,2,c,())=bif y5 c.Cals.x2==0 then some (.inl (c.Cals,3,c,())) else some (.inr (.inr (false,()))):=st 3 _ _ hs.cal2;have s3:c2p (c.Cals,3,c,())=bif y5 c.Cals.x3==0 then some (.inl (c.Cals,4,c,())) else some (.inr (.inr (false,()))):=st 4 _ _ hs.cal3;have s4:c2p (c.Cals,4,c,())=some (.inr (.inl (c,()))):=rfl;refine o9 5 (by rw[m7];omega) ?_;unfold a2q;simp only[o4,s0,s1,s2,s3,s4];cases y5 c.Cals.x0==0 with
 |false=>rfl
 |true=>
  simp only[yac,o4,s1];cases y5 c.Cals.x1==0 with
  |false=>rfl
  |true=>
   simp only[yac,o4,s2];cases y5 c.Cals.x2==0 with
   |false=>rfl
   |true=>
    simp only[yac,o4,s3];cases y5 c.Cals.x3==0 with
    |false=>rfl
    |true=>simp only[yac,o4,s4];rfl
def c9v (c:Circ):Bool:=!(!(rng 1 100000 c.NextHold)||!(rng 1 100000 c.NextCharge))
def c9g (c:Circ):Bool:=a2v c&&(a2q c&&(c9v c&&(c.Holds.all (fun x=>!(decide (c.NextHold≤x.ID)))&&c.Charges.all (fun x=>!(decide (c.NextCharge≤x.ID))))))
theorem h2c {c:Circ} (hs:Short c):qo c=some (c9g c):=by
 have h1:=m0 (step:=b6f) (fun i=>(c.Holds,(c.Holds.length:Int),(i:Int),c,())) c.Holds (fun _ x=>!(decide (c.NextHold≤x.ID))) (.inr (false,())) (.inl (c,())) hs.holds
  (by simp only[b6f,dge,yaa])
  (fun i x hx=>by
   have hi:=(zL hx)
   have:=hs.holds;simp only[b6f,dlt hi,d8,hx,yac,f7 (show i<9223372036854775807 by omega)];cases decide (c.NextHold≤x.ID)<;>rfl)
 have h2:=m0 (step:=b6g) (fun i=>(c.Charges,(c.Charges.length:Int),(i:Int),c,())) c.Charges (fun _ x=>!(decide (c.NextCharge≤x.ID))) (.inr (false,())) (.inl ()) hs.charges
  (by simp only[b6g,dge,yaa])
  (fun i x hx=>by
   have hi:=(zL hx)
   have:=hs.charges;simp only[b6g,dlt hi,d8,hx,yac,f7 (show i<9223372036854775807 by omega)];cases decide (c.NextCharge≤x.ID)<;>rfl)
 unfold qo c9g a2v c9v;simp -zeta only[a0i,g8x hs.patrons hs.name,g87 hs.loans,h2b hs.holds,f2j hs.charges,h2e hs.rules,c9w];dsimp only;rw[e0i hs];have e:(!(a02 c.Patrons==0)||!(y8 c.Loans==0)||!(w6 c.Holds==0)||!(m8 c.Charges==0)||!(a2b c.Rules==0))=(!(a02 c.Patrons==0)||!(y8 c.Loans==0)||!(w6 c.Holds==0)||!(m8 c.Charges==0)||!(a2b c.Rules==0)):=rfl;generalize (!(a02 c.Patrons==0)||!(y8 c.Loans==0)||!(w6 c.Holds==0)||!(m8 c.Charges==0)||!(a2b c.Rules==0))=b1;cases b1 with
 |true=>rfl
 |false=>
  cases a2q c with
  |false=>rfl
  |true=>
   simp -zeta only[yaa,yac,a0i,c9w]
   try dsimp only
   cases (!(rng 1 100000 c.NextHold)||!(rng 1 100000 c.NextCharge)) with
   |true=>rfl
   |false=>
    simp only[yaa];rw[show c9 b6f (c.Holds,(c.Holds.length:Int),0,c,())=_ from h1,o8];cases c.Holds.all (fun x=>!(decide (c.NextHold≤x.ID))) with
    |false=>rfl
    |true=>
     simp only[yac];rw[show c9 b6g (c.Charges,(c.Charges.length:Int),0,c,())=_ from h2,o8];cases c.Charges.all (fun x=>!(decide (c.NextCharge≤x.ID)))<;>rfl
end
section
def a8f (c:Circ) (item:Int):Bool:=(c.Items.find? (fun x=>x.ID==item)).isSome
def c70 (c:Circ):Bool:=c.Loans.all (fun n=>!(!((a3j c.Patrons n.Patron).2)||!(a8f c n.Item)))&&(c.Holds.all (fun h=>(a3j c.Patrons h.Patron).2)&&c.Charges.all (fun x=>(a3j c.Patrons x.Patron).2))
theorem h16 {c:Circ} (hs:Short c):qe c=some (c70 c):=by
 have h1:=m0 (step:=c5m) (fun i=>(c.Loans,(c.Loans.length:Int),(i:Int),c,())) c.Loans (fun _ n=>!(!((a3j c.Patrons n.Patron).2)||!(a8f c n.Item))) (.inr (false,())) (.inl (c,())) hs.loans
  (by simp only[c5m,dge,yaa])
  (fun i x hx=>by
   have hi:=(zL hx)
   have:=hs.loans;unfold a8f;rcases b22 (item:=x.Item) hs.items with ⟨h1,h2⟩|⟨k,y,h1,h2,h3,h4⟩
   ·simp -zeta only[c5m,dlt hi,d8,hx,yac,c9x hs.patrons,h1,h2,a88,a0i,f7 (show i<9223372036854775807 by omega)];dsimp only;cases (a3j c.Patrons x.Patron).2<;>rfl
   ·simp -zeta only[c5m,dlt hi,d8,hx,yac,c9x hs.patrons,h1,h4,a39,a0i,f7 (show i<9223372036854775807 by omega)];dsimp only;cases (a3j c.Patrons x.Patron).2<;>rfl)
 have h2:=m0 (step:=d2y) (fun i=>(c.Holds,(c.Holds.length:Int),(i:Int),c,())) c.Holds (fun _ h=>(a3j c.Patrons h.Patron).2) (.inr (false,())) (.inl (c,())) hs.holds
  (by simp only[d2y,dge,yaa])
  (fun i x hx=>by
   have hi:=(zL hx)
   have:=hs.holds;simp only[d2y,dlt hi,d8,hx,yac,c9x hs.patrons,f7 (show i<9223372036854775807 by omega)];cases (a3j c.Patrons x.Patron).2<;>rfl)
 have h3:=m0 (step:=b59) (fun i=>(c.Charges,(c.Charges.length:Int),(i:Int),c,())) c.Charges (fun _ h=>(a3j c.Patrons h.Patron).2) (.inr (false,())) (.inl ()) hs.charges
  (by simp only[b59,dge,yaa])
  (fun i x hx=>by
   have hi:=(zL hx)
   have:=hs.charges;simp only[b59,dlt hi,d8,hx,yac,c9x hs.patrons,f7 (show i<9223372036854775807 by omega)];cases (a3j c.Patrons x.Patron).2<;>rfl)
 unfold qe c70;rw[show c9 c5m (c.Loans,(c.Loans.length:Int),0,c,())=_ from h1,o8];cases c.Loans.all (fun n=>!(!((a3j c.Patrons n.Patron).2)||!(a8f c n.Item))) with
 |false=>rfl
 |true=>
  simp only[yac];rw[show c9 d2y (c.Holds,(c.Holds.length:Int),0,c,())=_ from h2,o8];cases c.Holds.all (fun h=>(a3j c.Patrons h.Patron).2) with
  |false=>rfl
  |true=>
   simp only[yac];rw[show c9 b59 (c.Charges,(c.Charges.length:Int),0,c,())=_ from h3,o8];cases c.Charges.all (fun x=>(a3j c.Patrons x.Patron).2)<;>rfl
def a4c (c:Circ) (x:Item):Bool:=!(!((a4n c.Loans x.ID).2==a1j x.Custody)||((a4n c.Loans x.ID).2&&!((a4n c.Loans x.ID).1.Patron==x.Custody.Who)))
theorem g89 {c:Circ} (hs:Short c):qbf c=some (c.Items.all (a4c c)):=by
 have h1:=m0 (step:=b57) (fun i=>(c.Items,(c.Items.length:Int),(i:Int),c,())) c.Items (fun _=>a4c c) (.inr (false,())) (.inl ()) hs.items
  (by simp only[b57,dge,yaa])
  (fun i x hx=>by
   have hi:=(zL hx)
   have:=hs.items;unfold a4c a1j;simp -zeta only[b57,dlt hi,d8,hx,yac,g9q hs.loans,a0i,o5,f7 (show i<9223372036854775807 by omega)];dsimp only;cases (!((a4n c.Loans x.ID).2==(x.Custody.State==4||x.Custody.State==9||x.Custody.State==10))||((a4n c.Loans x.ID).2&&!((a4n c.Loans x.ID).1.Patron==x.Custody.Who)))<;>rfl)
 unfold qbf;rw[show c9 b57 (c.Items,(c.Items.length:Int),0,c,())=_ from h1,o8];cases c.Items.all (a4c c)<;>rfl
def c7x (x:Hold) (y:Item):Bool:=y.Record==x.Record&&(bif x.State==2 then s9 y.Custody ⟨6,y.Custody.Branch,x.Patron,x.Pickup⟩ else s9 y.Custody ⟨5,x.Pickup,x.Patron,0⟩)
def c0m (c:Circ) (x:Hold):Bool:=x.State==1||(match c.Items.find? (fun y=>y.ID==x.Got) with|some y=>c7x x y|none=>false)
theorem h2i {c:Circ} (hs:Short c):qy c=some (c.Holds.all (c0m c)&&c.Items.all (a03 c)):=by
 have h1:=m0 (step:=c5z) (fun i=>(c.Holds,(c.Holds.length:Int),(i:Int),c,())) c.Holds (fun _=>c0m c) (.inr (false,())) (.inl (c,())) hs.holds
  (by simp only[c5z,dge,yaa])
  (fun i x hx=>by
   have hi:=(zL hx)
   have:=hs.holds;unfold c0m c7x;rcases b22 (item:=x.Got) hs.items with ⟨h1,h2⟩|⟨k,y,h1,h2,h3,h4⟩
   ·simp -zeta only[c5z,dlt hi,d8,hx,yac,h1,h2,a88,f7 (show i<9223372036854775807 by omega)];dsimp only;cases x.State==1<;>rfl
   ·simp -zeta only[c5z,dlt hi,d8,hx,yac,h1,h2,h4,a39,yaa,f7 (show i<9223372036854775807 by omega)];dsimp only;generalize s9 y.Custody ⟨6,y.Custody.Branch,x.Patron,x.Pickup⟩=b1;generalize s9 y.Custody ⟨5,x.Pickup,x.Patron,0⟩=b2;cases x.State==1<;>cases x.State==2<;>cases y.Record==x.Record<;>cases b1<;>cases b2<;>rfl)
 have h2:=m0 (step:=b6l) (fun i=>(c.Items,(c.Items.length:Int),(i:Int),c,())) c.Items (fun _=>a03 c) (.inr (false,())) (.inl ()) hs.items
  (by simp only[b6l,dge,yaa])
  (fun i x hx=>by
   have hi:=(zL hx)
   have:=hs.items;unfold a03;simp -zeta only[b6l,dlt hi,d8,hx,yac,a0i,o5,a8v hs.holds,f7 (show i<9223372036854775807 by omega)];dsimp only;cases x.Custody.State==5<;>cases (o3 c x.ID).2<;>cases (o3 c x.ID).1.State==3<;>rfl)
 unfold qy;rw[show c9 c5z (c.Holds,(c.Holds.length:Int),0,c,())=_ from h1,o8];cases c.Holds.all (c0m c) with
 |false=>rfl
 |true=>
  simp only[yac];rw[show c9 b6l (c.Items,(c.Items.length:Int),0,c,())=_ from h2,o8];cases c.Items.all (a03 c)<;>rfl
def c99 (c:Circ):Bool:=rng 0 109572 c.Today&&a0g c&&c9g c&&c70 c&&c.Items.all (a4c c)&&(c.Holds.all (c0m c)&&c.Items.all (a03 c))
theorem g1v {c:Circ} (hs:Short c):qea c=some (c99 c):=by
 unfold qea c99;simp -zeta only[o5,c9w,h2d hs,h2c hs,h16 hs,g89 hs,h2i hs]
 try dsimp only
theorem a19 {X:Type} {key:X→Int} {l:List X} (h:∀i x,l[i]?=some x→p8 l i (fun y=>decide (key x≤key y))=false):∀(j i:Nat) (x y:X),i<j→l[i]?=some x→l[j]?=some y→key x<key y:=by
 intro j
 induction j with
 |zero=>intro i x y hi;omega
 |succ j ih=>
  intro i x y hi hx hy;have hj:=(zL hy)
  have hz:l[j]?=some l[j]:=yab (by omega);have:=h _ _ hy;simp only[p8,hz,yag]at this;by_cases e:i=j
  ·subst e;rw[hz]at hx;cases hx;omega
  ·have:=ih i x l[j] (by omega) hx hz;omega
theorem a2h {X:Type} {key:X→Int} {l:List X} (h:∀i x,l[i]?=some x→p8 l i (fun y=>decide (key x≤key y))=false) {x:X} (hx:x∈l):l.find? (fun y=>key y==key x)=some x:=by
 rcases o6 (fun y=>key y==key x) l with ⟨h1,h2⟩|⟨i,y,h1,h2,h3,h4⟩
 ·rw[ybs]at h2;exact absurd (yal _) (h2 x hx)
 ·rw[h4];obtain ⟨j,hj⟩:=yaF hx;have e:key y=key x:=by simpa using h3
  by_cases hij:i=j
  ·subst hij;rw[h2]at hj;exact hj
  ·rcases Nat.lt_or_gt_of_ne hij with hlt|hlt
   ·have:=a19 h _ _ _ _ hlt h2 hj;omega
   ·have:=a19 h _ _ _ _ hlt hj h2;omega
theorem a8e {X:Type} {f:Nat→X→Int}:∀{l:List X} {k:Nat},y0 f k l=0→∀i x,l[i]?=some x→f (k+i) x=0:=by
 intro l
 induction l with
 |nil=>intro k _ i x hx;simp at hx
 |cons y l ih=>
  intro k h i x hx;unfold y0 at h;by_cases e:f k y=0
  ·rw[e]at h;simp only[yal,yby]at h;cases i with
   |zero=>simp at hx;subst hx;exact e
   |succ i=>have:=ih h i x (by simpa using hx);rwa [show k+(i+1)=k+1+i by omega]
  ·have:(f k y==0)=false:=by simpa using e
   rw[this]at h;exact absurd h e
theorem z7 {b:Bool} {n m:Int} (h:(bif b then n else m)=0) (hn:n≠0):b=false:=by
 cases b with
 |false=>rfl
 |true=>exact absurd h hn
theorem c01 {l:List Loan} (h:y8 l=0):∀i x,l[i]?=some x→p8 l i (fun y=>decide (x.Item≤y.Item))=false:=by
 intro i x hx;unfold y8 at h;have hb:=z7 h (by decide);rw[hb]at h;have:=a8e (k:=0) h i x hx;rw[yaH]at this;unfold a3w at this;exact z7 this (by decide)
theorem a8j {l:List Hold} (h:w6 l=0):y0 (a0u l) 0 l=0:=by
 unfold w6 at h;rw[z7 h (by decide)]at h;simp only[yaa]at h;by_cases e:y0 (a0u l) 0 l=0
 ·exact e
 ·have h2:(y0 (a0u l) 0 l==0)=false:=by simpa using e
  rw[h2]at h;exact h
theorem a2m {l:List Hold} (h:w6 l=0):∀i x,l[i]?=some x→p8 l i (fun y=>decide (x.ID≤y.ID))=false:=by
 intro i x hx;have:=a8e (k:=0) (a8j h) i x hx;rw[yaH,a4a]at this;exact z7 this (by decide)
theorem a01 {l:List Hold} (h:w6 l=0) {x:Hold} (hx:x∈l):m6 x=0:=by
 obtain ⟨i,hi⟩:=yaF hx;have:=a8e (k:=0) (a8j h) i x hi;rw[yaH,a4a]at this;rw[z7 this (by decide)]at this;exact this
theorem b47 {x:Hold} (h:m6 x=0):x.State=1∨x.State=2∨x.State=3:=by
 unfold m6 at h;rw[z7 h (by decide)]at h;simp only[yaa]at h;have:=z7 h (by decide);simp only[yai,yag]at this;omega
def e8r (c:Custody):Prop:=c.State=6∨c.To=0
theorem d0t {c:Custody} {m:Move} (h:((m5 c m).2==0)=true):e8r (m5 c m).1:=by
 unfold m5 at h ⊢;cases e1:(!(a7c c)||!(a7d m)) with
 |true=>rw[e1]at h;cases h
 |false=>
  rw[e1]at h;simp only[yaa]at h ⊢;cases e2:!(a5e c.State m.Kind) with
  |true=>rw[e2]at h;cases h
  |false=>
   rw[e2]at h;simp only[yaa]at h ⊢;cases e3:(m.Kind==3&&c.State==5&&!(m.Who==c.Who)) with
   |true=>rw[e3]at h;cases h
   |false=>
    rw[e3]at h;simp only[yaa]at h ⊢;cases e4:!(b4i c m) with
    |true=>rw[e4]at h;cases h
    |false=>
     simp only[yaa];cases (w9 m.Kind==2) with
     |true=>exact .inr rfl
     |false=>
      simp only[yaa];cases (w9 m.Kind==4||(w9 m.Kind==5||w9 m.Kind==8)) with
      |true=>exact .inr rfl
      |false=>
       simp only[yaa];cases e5:(w9 m.Kind==6) with
       |true=>exact .inl (by simpa using e5)
       |false=>
        simp only[yaa];cases (w9 m.Kind==9||w9 m.Kind==10) with
        |true=>exact .inr rfl
        |false=>exact .inr rfl
theorem c57:∀{l:List Move} {i:Nat} {item:Int} {c d:Custody},e8r c→t6 i l item c=.inl d→e8r d:=by
 intro l
 induction l with
 |nil=>intro i item c d hc h;simp only[t6]at h;cases h;exact hc
 |cons x l ih=>
  intro i item c d hc h;simp only[t6]at h;cases e:x.Item==item with
  |false=>rw[e]at h;exact ih hc h
  |true=>
   rw[e]at h;simp only[yac]at h;cases e2:(m5 c x).2==0 with
   |true=>rw[e2]at h;exact ih (d0t e2) h
   |false=>rw[e2]at h;cases h
theorem a0z {a b:Custody}:s9 a b=true↔a=b:=by
 obtain ⟨a1,a2,a3,a4⟩:=a;obtain ⟨b1,b2,b3,b4⟩:=b;unfold s9;simp[yad]
 try (constructor<;>(intro h;simp_all))
theorem c2r {c:Circ} {x:Item} (h:a0e c x=true):e8r x.Custody:=by
 unfold a0e at h;simp only[yan,yai,yaw]at h;obtain ⟨h1,h2⟩:=h;have e:=a0z.1 h2;rw[←e];unfold y9 at h1 ⊢;cases hb:(decide (x.Branch<1)||decide (4<x.Branch)) with
 |true=>exact .inr rfl
 |false=>
  rw[hb]at h1;simp only[yaa]at h1 ⊢;cases hr:t6 0 c.Moves x.ID (a8w x.Branch) with
  |inl d=>exact c57 (.inr rfl) hr
  |inr p=>exact .inr rfl
end
section
theorem c45 (c:Circ) (i:Nat) (x:Item):a4b c i x=(!(!(w7 x)||p8 c.Items i (fun y=>decide (x.ID≤y.ID)))&&a0e c x):=by
 unfold a4b a0e w7;rw[ybG];simp only[yad,yan,yai,yag,yaw,y2,yae];constructor
 ·rintro ⟨⟨h1,h2⟩,h3⟩;obtain ⟨⟨⟨⟨⟨⟨a1,a2⟩,a3⟩,a4⟩,a5⟩,a6⟩,a7⟩:=h1;obtain ⟨⟨⟨⟨⟨b1,b2⟩,b3⟩,b4⟩,b5⟩,b6⟩:=h2;refine ⟨⟨⟨⟨⟨⟨⟨⟨⟨?_,?_⟩,⟨?_,?_⟩⟩,⟨?_,?_⟩⟩,⟨?_,?_⟩⟩,⟨?_,?_⟩⟩,?_⟩,b6⟩,a3⟩,h3⟩<;>omega
 ·rintro ⟨⟨h1,a3⟩,h3⟩;obtain ⟨⟨⟨⟨⟨⟨⟨a1,a2⟩,⟨a4,a5⟩⟩,⟨a6,a7⟩⟩,⟨a8,a9⟩⟩,⟨b1,b2⟩⟩,b3⟩,b4⟩:=h1;refine ⟨⟨⟨⟨⟨⟨⟨⟨?_,?_⟩,a3⟩,?_⟩,?_⟩,?_⟩,?_⟩,⟨⟨⟨⟨⟨?_,?_⟩,?_⟩,?_⟩,?_⟩,b4⟩⟩,h3⟩<;>omega
theorem a6k (c:Circ):a5j c=a0g c:=by
 have key:a1f (a4b c) 0 c.Items=(a1f (fun i x=>!(!(w7 x)||p8 c.Items i (fun y=>decide (x.ID≤y.ID)))) 0 c.Items&&c.Items.all (a0e c)):=by
  have gen:∀(l:List Item) (k:Nat),a1f (a4b c) k l=(a1f (fun i x=>!(!(w7 x)||p8 c.Items i (fun y=>decide (x.ID≤y.ID)))) k l&&l.all (a0e c)):=by
   intro l
   induction l with
   |nil=>intro k;rfl
   |cons x l ih=>
    intro k;simp only[a1f,ybJ];rw[ih,c45];generalize (!(!(w7 x)||p8 c.Items k (fun y=>decide (x.ID≤y.ID))))=b1;generalize a1f (fun i x=>!(!(w7 x)||p8 c.Items i (fun y=>decide (x.ID≤y.ID)))) (k+1) l=b2;cases b1<;>cases b2<;>cases a0e c x<;>cases l.all (a0e c)<;>rfl
  exact gen _ _
 unfold a5j a0g b8f;rw[key];generalize (!(decide (64<(c.Items.length:Int))||decide (2000<(c.Moves.length:Int))))=b1;generalize a1f (fun i x=>!(!(w7 x)||p8 c.Items i (fun y=>decide (x.ID≤y.ID)))) 0 c.Items=b2;generalize c.Moves.all (fun m=>(c.Items.find? (fun x=>x.ID==m.Item)).isSome)=b3;cases b1<;>cases b2<;>cases b3<;>cases c.Items.all (a0e c)<;>rfl
theorem a1p {c:Circ} (h:a0g c=true):∀i x,c.Items[i]?=some x→p8 c.Items i (fun y=>decide (x.ID≤y.ID))=false:=by
 intro i x hx;unfold a0g at h;simp only[yad]at h;have:=(a5d.1 h.2.1) i x hx;rw[yaH]at this;simp only[yan,yai]at this;exact this.2
theorem a4y {c:Circ} (h:a0g c=true) {x:Item} (hx:x∈c.Items):a0e c x=true:=by
 unfold a0g at h;simp only[yad,yaj]at h;exact h.2.2.2 x hx
theorem b4e {c:Circ} (h:a2v c=true):y8 c.Loans=0∧w6 c.Holds=0:=by
 unfold a2v at h;simp only[yan,yai,yaw,ya5]at h;exact ⟨h.1.1.1.2,h.1.1.2⟩
theorem d1k {l:List Loan} {n:Loan} (h:l.find? (fun y=>y.Item==n.Item)=some n):a4n l n.Item=(n,true):=by
 unfold a4n;rw[h]
theorem c49 {c:Circ} (hi:a0g c=true) (hl:y8 c.Loans=0) (hk:∀n∈c.Loans,(a3j c.Patrons n.Patron).2=true) :
 a1q c=(c.Loans.all (fun n=>a8f c n.Item)&&c.Items.all (a4c c)):=by
 rw[ybG];unfold a1q;simp only[yad,yaj];constructor
 ·rintro ⟨h1,h2⟩;refine ⟨fun n hn=>?_,fun x hx=>?_⟩
  ·have:=h1 n hn;unfold a2w at this;unfold a8f;cases hf:c.Items.find? (fun x=>x.ID==n.Item) with
   |none=>rw[hf]at this;cases this
   |some y=>rfl
  ·have e:=h2 x hx;unfold a4c;rw[e,yam,ybd];cases hf:(a4n c.Loans x.ID).2 with
   |false=>rfl
   |true=>
    unfold a4n at hf ⊢;cases hg:c.Loans.find? (fun n=>n.Item==x.ID) with
    |none=>rw[hg]at hf;cases hf
    |some n=>
     have hm:=yaV hg;have hit:n.Item=x.ID:=by have:=ybp hg;simpa using this
     have:=h1 n hm;unfold a2w at this;have hs:=a2h (key:=fun y:Item=>y.ID) (a1p hi) hx;rw[hit,hs]at this;simp only[yan,yai,yaw,ya5]at this;simp[this.2]
 ·rintro ⟨h1,h2⟩;refine ⟨fun n hn=>?_,fun x hx=>?_⟩
  ·have hf:=h1 n hn;unfold a8f at hf;cases hg:c.Items.find? (fun x=>x.ID==n.Item) with
   |none=>rw[hg]at hf;cases hf
   |some x=>
    have hm:=yaV hg;have hit:x.ID=n.Item:=by have:=ybp hg;simpa using this
    have:=h2 x hm;unfold a4c at this;have hs:=d1k (a2h (key:=fun y:Loan=>y.Item) (c01 hl) hn);rw[hit,hs]at this;simp only[yan,yai,yaQ,yaw,ya5]at this;unfold a2w;rw[hg];show (!(!(a3j c.Patrons n.Patron).2||!(a1j x.Custody)||!(x.Custody.Who==n.Patron)))=true
    have e1:a1j x.Custody=true:=by have:=this.1;simpa using this.symm
    rw[hk n hn,e1,this.2];simp
  ·have:=h2 x hx;unfold a4c at this;simp only[yan,yai,yaw]at this;exact this.1
theorem c41 {c:Circ} (hi:a0g c=true) {h:Hold} (hh:m6 h=0):a2u c h=((a3j c.Patrons h.Patron).2&&!(decide (c.NextHold≤h.ID))&&c0m c h):=by
 unfold a2u c0m;have e:(!(!(a3j c.Patrons h.Patron).2||decide (c.NextHold≤h.ID)))=((a3j c.Patrons h.Patron).2&&!(decide (c.NextHold≤h.ID))):=by cases (a3j c.Patrons h.Patron).2<;>rfl
 rw[e];congr 1;rcases b47 hh with hs|hs|hs
 ·simp[hs]
 ·have e1:(h.State==1)=false:=by rw[hs];rfl
  have e2:(h.State==2)=true:=by rw[hs];rfl
  have e3:(h.State==3)=false:=by rw[hs];rfl
  rw[e1,ybd,ybd];cases hg:c.Items.find? (fun x=>x.ID==h.Got) with
  |none=>rfl
  |some y=>
   unfold c7x;simp only[e2,e3,ya9,yaq,Bool.and_true,yaQ,yb1,yac];congr 1;unfold s9;simp only[yal,yaQ,Bool.and_true];cases y.Custody.State==6<;>cases y.Custody.To==h.Pickup<;>cases y.Custody.Who==h.Patron<;>rfl
 ·have e1:(h.State==1)=false:=by rw[hs];rfl
  have e2:(h.State==2)=false:=by rw[hs];rfl
  have e3:(h.State==3)=true:=by rw[hs];rfl
  rw[e1,ybd,ybd];cases hg:c.Items.find? (fun x=>x.ID==h.Got) with
  |none=>rfl
  |some y=>
   have ha:=c2r (a4y hi (yaV hg));unfold c7x;simp only[e2,e3,ya9,yaq,Bool.and_true,yaQ,yb1,yaa];congr 1;unfold s9;simp only[Bool.and_true];cases h5:y.Custody.State==5 with
   |false=>simp
   |true=>
    have:y.Custody.To=0:=by
     rcases ha with h6|h6
     ·simp at h5;omega
     ·exact h6
    rw[this];cases y.Custody.Branch==h.Pickup<;>cases y.Custody.Who==h.Patron<;>rfl
theorem b6y {X:Type} {p q:X→Bool} {l:List X}:l.all (fun x=>p x&&q x)=(l.all p&&l.all q):=by
 induction l with
 |nil=>rfl
 |cons x l ih=>simp only[ybJ];rw[ih];cases p x<;>cases q x<;>cases l.all p<;>rfl
theorem b05 {X:Type} {p q:X→Bool} {l:List X} (h:∀x∈l,p x=q x):l.all p=l.all q:=by
 induction l with
 |nil=>rfl
 |cons x l ih=>simp only[ybJ];rw[h x (yaE ..),ih (fun y hy=>h y (yaR _ hy))]
theorem e01 (c:Circ):c99 c=a35 c:=by
 unfold c99 a35;rw[a6k];have en:a3l c=(rng 0 109572 c.Today&&c9v c):=by
  unfold a3l c9v;rw[ybG];simp only[yad,yan,yai,yag,yaw,y2];omega
 have ec:c.Charges.all (a0h c)=(c.Charges.all (fun x=>(a3j c.Patrons x.Patron).2)&&c.Charges.all (fun x=>!(decide (c.NextCharge≤x.ID)))):=by
  rw[←b6y];exact b05 (fun x _=>by unfold a0h;rw[Bool.not_or,yb1])
 rw[en,ec];unfold c9g c70;have ek:c.Loans.all (fun n=>!(!((a3j c.Patrons n.Patron).2)||!(a8f c n.Item)))=(c.Loans.all (fun n=>(a3j c.Patrons n.Patron).2)&&c.Loans.all (fun n=>a8f c n.Item)):=by
  rw[←b6y];exact b05 (fun x _=>by rw[Bool.not_or,yb1,yb1])
 rw[ek];cases hi:a0g c with
 |false=>simp
 |true=>
  cases hl:a2v c with
  |false=>simp
  |true=>
   obtain ⟨l1,l2⟩:=b4e hl;have eh:a3s c=((c.Holds.all (fun h=>(a3j c.Patrons h.Patron).2)&&c.Holds.all (fun x=>!(decide (c.NextHold≤x.ID)))&&c.Holds.all (c0m c))&&c.Items.all (a03 c)):=by
    unfold a3s;congr 1;rw[←b6y,←b6y];exact b05 (fun x hx=>c41 hi (a01 l2 hx))
   rw[eh];cases hp:c.Loans.all (fun n=>(a3j c.Patrons n.Patron).2) with
   |true=>
    rw[c49 hi l1 (fun n hn=>by rw[yaj]at hp;exact hp n hn)];simp only[yaQ,Bool.and_true];rw[ybG];simp only[yad];constructor
    ·rintro ⟨⟨⟨⟨a1,a2,a3,a4,a5⟩,a6,a7,a8⟩,a9⟩,b1,b2⟩;exact ⟨⟨a1,a3⟩,a2,⟨a8,a5⟩,⟨a6,a9⟩,⟨⟨a7,a4⟩,b1⟩,b2⟩
    ·rintro ⟨⟨a1,a3⟩,a2,⟨a8,a5⟩,⟨a6,a9⟩,⟨⟨a7,a4⟩,b1⟩,b2⟩;exact ⟨⟨⟨⟨a1,a2,a3,a4,a5⟩,a6,a7,a8⟩,a9⟩,b1,b2⟩
   |false=>
    have:a1q c=false:=by
     cases hg:a1q c with
     |false=>rfl
     |true=>
      exfalso;have:c.Loans.all (fun n=>(a3j c.Patrons n.Patron).2)=true:=by
       rw[yaj];intro n hn;unfold a1q at hg;simp only[yad,yaj]at hg;have:=hg.1 n hn;unfold a2w at this;cases hf:c.Items.find? (fun x=>x.ID==n.Item) with
       |none=>rw[hf]at this;cases this
       |some x=>
        rw[hf]at this;simp only[yan,yai,yaw]at this;exact this.1.1
      rw[this]at hp;cases hp
    rw[this];simp
theorem g9p {c:Circ} (hs:Short c):qea c=some (a35 c):=by
 rw[g1v hs,e01]
end
section
end
section
theorem a4o {n m:Nat} (h:n+m≤1000000100):decide (n+m≤LIM)=true:=by rw[yae];unfold LIM;omega
theorem b0k {X:Type} {s:List X} (h:s.length<1000000000):decide (([]:List X).length+s.length≤LIM)=true:=a4o (by simp;omega)
def o7:Circ:=⟨0,[],[],[],[],[],[],⟨⟨0,[]⟩,⟨0,[]⟩,⟨0,[]⟩,⟨0,[]⟩⟩,[],0,0,false⟩
theorem a3t:Short o7:=by
 constructor<;>first|(show (0:Nat)<_;decide)|(intro x hx;cases hx)
end
section
def h2s (x:Charge):Prop:=0≤x.Paid∧x.Paid<x.Amount∧x.Amount≤100000000
theorem d09 {l:List Charge} (h:m8 l=0):l.length≤128∧∀x∈l,h2s x:=by
 unfold m8 at h;rw[Bool.cond_eq_ite]at h;split at h
 ·omega
 ·rename_i hlen;simp only[yae]at hlen;refine ⟨by omega,fun x hx=>?_⟩;obtain ⟨i,hi⟩:=yaF hx;have:=b40.1 h i x hi;unfold a1a at this;simp only[Bool.cond_eq_ite]at this;split at this
  ·omega
  ·split at this
   ·omega
   ·split at this
    ·omega
    ·split at this
     ·omega
     ·rename_i h4;simp only[ybk,yae,not_or]at h4;unfold h2s;omega
end
section
end
section
def a3g (r:Rule):Int:=(bif !(r.Patron==0) then 4 else 0)+((bif !(r.Item==0) then 2 else 0)+(bif !(r.Branch==0) then 1 else 0))
theorem g9o (r:Rule):qe6 r=some (a3g r):=by
 unfold qe6 a3g;cases r.Patron==0<;>cases r.Item==0<;>cases r.Branch==0<;>rfl
theorem g8t (r:Rule):qa2 r=some (a3g r):=by
 unfold qa2;have st:∀(a b c n:Int),(∀(m:Int),a9y (m,3,0,[a,b,c],())=some (.inl (bif !(a==0) then wr .i64 ((wr .i64 (m*2))+1) else wr .i64 (m*2),3,1,[a,b,c],())))∧
  (∀(m:Int),a9y (m,3,1,[a,b,c],())=some (.inl (bif !(b==0) then wr .i64 ((wr .i64 (m*2))+1) else wr .i64 (m*2),3,2,[a,b,c],())))∧
  (∀(m:Int),a9y (m,3,2,[a,b,c],())=some (.inl (bif !(c==0) then wr .i64 ((wr .i64 (m*2))+1) else wr .i64 (m*2),3,3,[a,b,c],()))):=fun a b c n=>
  ⟨fun m=>by show (bif !(a==0) then _ else _)=_;cases a==0<;>rfl,fun m=>by show (bif !(b==0) then _ else _)=_;cases b==0<;>rfl,fun m=>by show (bif !(c==0) then _ else _)=_;cases c==0<;>rfl⟩
 obtain ⟨s0,s1,s2⟩:=st r.Patron r.Item r.Branch 0;have s3:∀m:Int,a9y (m,3,3,[r.Patron,r.Item,r.Branch],())=some (.inr (m,())):=fun m=>rfl
 have h:c9 a9y (0,(([r.Patron,r.Item,r.Branch]).length:Int),0,[r.Patron,r.Item,r.Branch],())=some (a3g r,()):=by
  refine o9 4 (by rw[m7];omega) ?_;show o4 a9y 4 (0,3,0,[r.Patron,r.Item,r.Branch],())=_
  simp only[o4,s0,s1,s2,s3];unfold a3g;cases r.Patron==0<;>cases r.Item==0<;>cases r.Branch==0<;>rfl
 rw[h]
def b38 (r:Rule) (p i b:Int):Bool:=(r.Patron==0||r.Patron==p)&&(r.Item==0||r.Item==i)&&(r.Branch==0||r.Branch==b)
theorem f3b (r:Rule) (p i b:Int):qft r p i b=some (b38 r p i b):=by
 unfold qft b38;simp -zeta only[a0i,o5]
 try rfl
theorem g9l (a b:Int):qdp a b=some (a==0||a==b):=by
 unfold qdp;cases a==0<;>rfl
theorem f2o (r:Rule) (p i b:Int):qbn r p i b=some (b38 r p i b):=by
 unfold qbn b38;simp -zeta only[g9l,a0i,o5]
 try dsimp only
def wB (l:List Rule) (b:Int):Int:=match n5 l b with|some y=>a3g y|none=>0
def b9h (l:List Rule) (p it br:Int) (i:Nat) (x:Rule) (b:Int):Int:=bif b38 x p it br&&(decide (b<0)||decide (wB l b<a3g x)) then (i:Int) else b
def e4t (l:List Rule) (p it br:Int):Int:=a04 (fun i x b=>.inl (b9h l p it br i x b)) (fun b=>b) 0 l (-1)
def a58 (l:List Rule) (b:Int):Prop:=b<0∨∃k:Nat,b=(k:Int)∧k<l.length
theorem b9i {l:List Rule} {b:Int} (h:a58 l b) (hb:decide (b<0)=false):∃y,n5 l b=some y∧wB l b=a3g y:=by
 rcases h with h|⟨k,rfl,hk⟩
 ·rw[yag]at hb;omega
 ·have:n5 l (k:Int)=some l[k]:=by rw[d8,yab hk]
  exact ⟨_,this,by unfold wB;rw[this]⟩
theorem b1d {l:List Rule} {p it br:Int} {i:Nat} {x:Rule} {b:Int} (h:a58 l b) (hi:i<l.length):a58 l (b9h l p it br i x b):=by
 unfold b9h;cases b38 x p it br&&(decide (b<0)||decide (wB l b<a3g x)) with
 |true=>exact .inr ⟨i,rfl,hi⟩
 |false=>exact h
theorem c27 {X σ β γ:Type} {f:Nat→X→σ→σ} {g:σ→β} (k:β→γ):∀{l:List X} {i:Nat} {s:σ},k (a04 (fun i x s=>.inl (f i x s)) g i l s)=a04 (fun i x s=>.inl (f i x s)) (fun s=>k (g s)) i l s:=by
 intro l
 induction l with
 |nil=>intros;rfl
 |cons x l ih=>intro i s;simp only[a04];exact ih
theorem g86 {l:List Rule} {p it br:Int} (hl:l.length<1000000000):qax l p it br=some (e4t l p it br):=by
 have h:=n9 (step:=b2y) (fun (i:Nat) (b:Int)=>a58 l b) (fun i b=>(l,p,it,br,b,l,(l.length:Int),(i:Int),())) l
  (fun i x b=>.inl (b9h l p it br i x b)) (fun b=>(b,())) (by rw[m7];omega)
  (fun b _=>by simp only[b2y,dge,yaa])
  (fun i x b hx hi=>by
   have hlt:=(zL hx)
   refine ⟨?_,fun s' hs'=>by cases hs';exact b1d hi hlt⟩;unfold b9h;cases hb:decide (b<0) with
   |true=>
    simp only[b2y,dlt hlt,d8,hx,yac,f2o,hb,f7 (show i<9223372036854775807 by omega)];cases b38 x p it br<;>rfl
   |false=>
    obtain ⟨y,h1,h2⟩:=b9i hi hb;simp only[b2y,dlt hlt,d8,hx,yac,yaa,f2o,g8t,h1,h2,hb,f7 (show i<9223372036854775807 by omega)];cases b38 x p it br<;>cases decide (a3g y<a3g x)<;>rfl) (-1) (.inl (by omega))
 unfold qax;rw[show c9 b2y (l,p,it,br,(-1),l,(l.length:Int),0,())=_ from h,←c27 (g:=fun b=>b) (fun b:Int=>(b,()))]
 try rfl
theorem f29 {l:List Rule} {p it br:Int} (hl:l.length<1000000000):qfe l p it br=some (e4t l p it br):=by
 have h:=n9 (step:=b6b) (fun (i:Nat) (b:Int)=>a58 l b) (fun i b=>(l,p,it,br,b,(i:Int),())) l
  (fun i x b=>.inl (b9h l p it br i x b)) (fun b=>(b,())) (by rw[m7];omega)
  (fun b _=>by simp only[b6b,dge,yaa])
  (fun i x b hx hi=>by
   have hlt:=(zL hx)
   refine ⟨?_,fun s' hs'=>by cases hs';exact b1d hi hlt⟩;unfold b9h;cases hb:decide (b<0) with
   |true=>
    simp only[b6b,dlt hlt,d8,hx,yac,f3b,hb,f7 (show i<9223372036854775807 by omega)];cases b38 x p it br<;>rfl
   |false=>
    obtain ⟨y,h1,h2⟩:=b9i hi hb;simp only[b6b,dlt hlt,d8,hx,yac,yaa,f3b,g9o,h1,h2,hb,f7 (show i<9223372036854775807 by omega)];cases b38 x p it br<;>cases decide (a3g y<a3g x)<;>rfl) (-1) (.inl (by omega))
 unfold qfe;rw[show c9 b6b (l,p,it,br,(-1),0,())=_ from h,←c27 (g:=fun b=>b) (fun b:Int=>(b,()))]
 try rfl
theorem g1t {l:List Rule} {p it br:Int} (hl:l.length<1000000000):qda l p it br=qfu l p it br:=by
 unfold qda qfu;rw[g86 hl,f29 hl]
 try rfl
theorem d95 {c:Circ} {p:Int} {x:Item} (hs:Short c):qcw c p x=qfh c p x:=by
 unfold qcw qfh;rw[f2y hs.patrons,b24 hs.patrons];dsimp only;rw[g1t hs.rules]
 try rfl
def f4p (c:Circ) (b:Int):Calendar:=bif b==1 then c.Cals.x0 else bif b==2 then c.Cals.x1 else bif b==3 then c.Cals.x2 else c.Cals.x3
theorem b42 {n:Int} (h:rng 1 4 n=true):n=1∨n=2∨n=3∨n=4:=by
 have:=y2.1 h;omega
theorem e0d {c:Circ} {b:Int} (h:rng 1 4 b=true):qfx c b=some (f4p c b):=by
 rcases b42 h with h|h|h|h<;>subst h<;>rfl
theorem d91 {c:Circ} {b:Int} (h:rng 1 4 b=true):qc0 c b=some (f4p c b):=by
 rcases b42 h with h|h|h|h<;>subst h<;>rfl
end
section
def a0d (week:Int) (i:Nat):Bool:=(wr .i64 (BitVec.ofInt 64 (week.fdiv (2 ^ (min i 64))) &&& BitVec.ofInt 64 1).toNat)==0
theorem f2g (c:Calendar):qah c=some ⟨a0d c.Week 0,a0d c.Week 1,a0d c.Week 2,a0d c.Week 3,a0d c.Week 4,a0d c.Week 5,a0d c.Week 6⟩:=by
 have h:c9 d9u (0,c,(⟨false,false,false,false,false,false,false⟩:V7 Bool),(⟨false,false,false,false,false,false,false⟩:V7 Bool),())=some ((⟨false,false,false,false,false,false,false⟩:V7 Bool),(⟨a0d c.Week 0,a0d c.Week 1,a0d c.Week 2,a0d c.Week 3,a0d c.Week 4,a0d c.Week 5,a0d c.Week 6⟩:V7 Bool),()):=by
  refine o9 8 (by rw[m7];omega) ?_
  try rfl
 unfold qah;rw[h]
def e95:Int→Nat→Int
 |n,0=>n
 |n,k+1=>e95 (wr .i64 (n.tdiv 2)) k
theorem d20 {day n:Int} {c:Calendar}:∀(k:Nat) (i:Nat) (n:Int),i+k<100→o4 c2l (k+1) (day,n,((i+k:Nat):Int),(i:Int),c,())=some (day,e95 n k,c,()):=by
 intro k
 induction k with
 |zero=>
  intro i n hi;have:decide ((i:Int)<((i+0:Nat):Int))=false:=by rw[yag];omega
  simp only[o4,c2l,this,yaa,e95]
 |succ k ih=>
  intro i n hi;have:decide ((i:Int)<((i+(k+1):Nat):Int))=true:=by rw[yae];omega
  rw[o4];simp only[c2l,this,yac,f7 (show i<9223372036854775807 by omega),e95];have:=ih (i+1) (wr .i64 (n.tdiv 2)) (by omega);rw[show i+1+k=i+(k+1) by omega]at this;exact this
theorem d3t:((List.range 127).all fun n=>(List.range 7).all fun w=>a0d (n:Int) w==!((e95 (n:Int) w).tmod 2==1))=true:=kr
theorem e3u {week:Int} {w:Nat} (h1:0≤week) (h2:week≤126) (hw:w<7):a0d week w=!((e95 week w).tmod 2==1):=by
 obtain ⟨n,rfl⟩:∃n:Nat,week=(n:Int):=⟨week.toNat,by omega⟩
 have h:=d3t;rw[yaj]at h;have h3:=h n (ybW.2 (by omega));rw[yaj]at h3;have h4:=h3 w (ybW.2 hw);simpa using h4
def lbS (t:Int) (l:List Int):Nat:=(l.takeWhile (fun x=>decide (x<t))).length
theorem h1u {t:Int} {l:List Int}:lbS t l≤l.length:=by
 unfold lbS;have:=(List.takeWhile_prefix (fun x=>decide (x<t)) (l:=l)).length_le;exact this
theorem c0u {t:Int}:∀{l:List Int} {k:Nat} {x:Int},k<lbS t l→l[k]?=some x→x<t:=by
 intro l
 induction l with
 |nil=>intro k x h;simp[lbS]at h
 |cons y l ih=>
  intro k x h hx;unfold lbS at h ih;rw[List.takeWhile_cons]at h;by_cases hy:y<t
  ·simp only[hy,decide_true,yby,yaD]at h;cases k with
   |zero=>simp at hx;omega
   |succ k=>exact ih (k:=k) (by omega) (by simpa using hx)
  ·simp[hy]at h
theorem g8i {t:Int}:∀{l:List Int} {x:Int},l[lbS t l]?=some x→¬x<t:=by
 intro l
 induction l with
 |nil=>intro x h;simp[lbS]at h
 |cons y l ih=>
  intro x hx;unfold lbS at hx ih;rw[List.takeWhile_cons]at hx;by_cases hy:y<t
  ·simp only[hy,decide_true,yby,yaD,yaN]at hx;exact ih hx
  ·simp[hy]at hx;omega
theorem f19 {t:Int} {l:List Int} (hsort:∀(j i:Nat) (x y:Int),i<j→l[i]?=some x→l[j]?=some y→x<y) {k:Nat} {x:Int} (hx:l[k]?=some x):decide (x<t)=decide (k<lbS t l):=by
 rw[decide_eq_decide];constructor
 ·intro h;by_cases hk:k<lbS t l
  ·exact hk
  ·exfalso;have hlt:lbS t l<l.length:=by have:=(zL hx);omega
   have hz:l[lbS t l]?=some l[lbS t l]:=yab hlt;have:=g8i hz;by_cases e:lbS t l=k
   ·subst e;rw[hz]at hx;cases hx;exact this h
   ·have:=hsort k (lbS t l) _ _ (by omega) hz hx;omega
 ·intro h;exact c0u h hx
theorem g8m {i j:Nat} (h:i+j<2000000000):wr .i64 ((wr .u64 (wr .i64 ((i:Int)+(j:Int)))).fdiv (2 ^ 1))=(((i+j) / 2:Nat):Int):=by
 rw[a1h (n:=(i:Int)+(j:Int)) (by omega) (by omega)];have:wr .u64 ((i:Int)+(j:Int))=(i:Int)+(j:Int):=by
  unfold wr;simp[IntKind.wrap,IntKind.bits,IntKind.signed];omega
 rw[this,Int.fdiv_eq_ediv_of_nonneg _ (by omega)];have e:((i:Int)+(j:Int)) / 2 ^ 1=(((i+j) / 2:Nat):Int):=by omega
 rw[e,a1h (by omega) (by omega)]
theorem g9h (x y:Int):qd8 x y=some (decide (x<y)):=by
 have e:∀z:Int,qd5 z=some false:=fun z=>by unfold qd5;simp
 unfold qd8;rw[e]
 try rfl
theorem d3g {l:List Int} {t:Int} (hl:l.length<1000000000) (hsort:∀(j i:Nat) (x y:Int),i<j→l[i]?=some x→l[j]?=some y→x<y) :
 c9 b50 (l,t,(l.length:Int),0,(l.length:Int),())=some (l,t,(l.length:Int),(lbS t l:Int),()):=by
 refine e3v (step:=b50) (fun a=>∃i j:Nat,a=(l,t,(l.length:Int),(i:Int),(j:Int),())∧i≤lbS t l∧lbS t l≤j∧j≤l.length) (fun a=>(a.2.2.2.2.1-a.2.2.2.1).toNat) (fun _=>(l,t,(l.length:Int),(lbS t l:Int),())) ?_ ⟨0,l.length,rfl,by omega,h1u,by omega⟩ (by rw[m7];show ((l.length:Int)-0).toNat<_;omega);rintro a ⟨i,j,rfl,h1,h2,h3⟩;by_cases hij:i<j
 ·left;have d:decide ((i:Int)<(j:Int))=true:=by rw[yae];omega
  have hm:(i+j) / 2<l.length:=by omega
  have hx:l[(i+j) / 2]?=some l[(i+j) / 2]:=yab hm;have hlb:=f19 (t:=t) hsort hx;simp only[b50,d,yac,g8m (show i+j<2000000000 by omega),d8,hx,g9h,hlb];by_cases hk:(i+j) / 2<lbS t l
  ·rw[show decide ((i+j) / 2<lbS t l)=true by rw[yae];exact hk];simp only[yac,f7 (show (i+j) / 2<9223372036854775807 by omega)];exact ⟨_,rfl,⟨(i+j) / 2+1,j,rfl,by omega,h2,h3⟩,by simp only;omega,trivial⟩
  ·rw[show decide ((i+j) / 2<lbS t l)=false by rw[yag];exact hk];simp only[yaa];exact ⟨_,rfl,⟨i,(i+j) / 2,rfl,h1,by omega,by omega⟩,by simp only;omega,trivial⟩
 ·right;have d:decide ((i:Int)<(j:Int))=false:=by rw[yag];omega
  have hi:i=lbS t l:=by omega
  subst hi;simp only[b50,d,yaa]
theorem e05 {l:List Int} {t:Int} (hl:l.length<1000000000) (hsort:∀(j i:Nat) (x y:Int),i<j→l[i]?=some x→l[j]?=some y→x<y) :
 qan l t=some ((lbS t l:Int),l.any (fun x=>x==t)):=by
 unfold qan;rw[d3g hl hsort];by_cases hk:lbS t l<l.length
 ·have d:decide ((lbS t l:Int)<(l.length:Int))=true:=by rw[yae];omega
  have hx:l[lbS t l]?=some l[lbS t l]:=yab hk;have hn:qdl l[lbS t l]=some false:=by unfold qdl;simp
  simp only[d,yac,d8,hx,hn,yaa];have e:(l[lbS t l]==t)=l.any (fun x=>x==t):=by
   rw[ybG,ybV];constructor
   ·intro h;exact ⟨_,ybx hk,h⟩
   ·rintro ⟨x,hm,he⟩;have he':x=t:=by simpa using he
    obtain ⟨i,hi⟩:=yaF hm;have h1:=f19 (t:=t) hsort hi;have h2:=g8i hx;rw[decide_eq_decide]at h1;by_cases e:i=lbS t l
    ·rw[e,hx]at hi;cases hi;exact he
    ·have:lbS t l<i:=by omega
     have:=hsort _ _ _ _ this hx hi;omega
  rw[←e];cases l[lbS t l]==t<;>rfl
 ·have d:decide ((lbS t l:Int)<(l.length:Int))=false:=by rw[yag];omega
  have e:l.any (fun x=>x==t)=false:=by
   rw[yb6];intro x hm he;have he':x=t:=by simpa using he
   obtain ⟨i,hi⟩:=yaF hm;have:=(zL hi)
   have:=c0u (t:=t) (show i<lbS t l by omega) hi;omega
  simp only[d,yaa,e]
end
section
theorem b19 {l:List Int} (h:e36 l=true):∀(j i:Nat) (x y:Int),i<j→l[i]?=some x→l[j]?=some y→x<y:=by
 have h2:∀i x,l[i]?=some x→p8 l i (fun y=>decide (x≤y))=false:=by
  intro i x hx;have:=(a5d.1 h) i x hx;rw[yaH]at this;simpa using this
 exact a19 (key:=fun x:Int=>x) h2
structure CalOk (c:Calendar):Prop where
 w1:0≤c.Week
 w2:c.Week≤126
 len:c.Closed.length<1000000000
 inc:e36 c.Closed=true
theorem e4w {c:Calendar} (h:(y5 c==0)=true):CalOk c:=by
 have h:y5 c=0:=by simpa using h
 unfold y5 at h;have h1:=z7 h (by decide);rw[h1]at h;simp only[yaa]at h;have h2:=z7 h (by decide);rw[h2]at h;simp only[yaa]at h;simp only[yai,yag]at h1 h2;cases h3:c.Closed.all (fun x=>!(decide (x<0)||decide (109572<x))) with
 |false=>rw[h3]at h;cases h
 |true=>
  rw[h3]at h;cases h4:e36 c.Closed with
  |false=>rw[h4]at h;cases h
  |true=>exact ⟨by omega,by omega,by omega,h4⟩
def a8t (c:Calendar) (d:Int):Bool:=rng 0 109572 d&&(!(c.Closed.any (fun x=>x==d))&&a0d c.Week (d.tmod 7).toNat)
theorem g4l {d:Int} (h:0≤d):0≤d.tmod 7∧d.tmod 7<7:=by
 rw[Int.tmod_eq_emod_of_nonneg h];omega
theorem f2s {c:Calendar} (hc:CalOk c) (d:Int):qcp c d=some (a8t c d):=by
 unfold qcp a8t;rw[d93];dsimp only;cases hr:rng 0 109572 d with
 |false=>rfl
 |true=>
  simp -zeta only[yam,yaa,yaQ];rw[e05 hc.len (b19 hc.inc)];dsimp only;cases c.Closed.any (fun x=>x==d) with
  |true=>rfl
  |false=>
   have hk:qcf d=some (d.tmod 7):=by
    have e:qel d=some (rng 0 109572 d):=by
     unfold qel;simp -zeta only[o5]
     try rfl
    unfold qcf;rw[e,hr]
    try rfl
   simp only[yaq,yac,f2g,hk,yaQ];obtain ⟨h1,h2⟩:=g4l (y2.1 hr).1;generalize d.tmod 7=w at h1 h2;have:w=0∨w=1∨w=2∨w=3∨w=4∨w=5∨w=6:=by omega
   rcases this with h|h|h|h|h|h|h<;>subst h<;>rfl
theorem c5o {c:Calendar} {d:Int} (hl:c.Closed.length<1000000000):c9 a9j (d,0,c,())=some (bif c.Closed.all (fun x=>!(x==d)) then .inl () else .inr (false,())):=by
 have h:=m0 (step:=a9j) (fun i=>(d,(i:Int),c,())) c.Closed (fun _ x=>!(x==d)) (.inr (false,())) (.inl ()) hl
  (by simp only[a9j,dge,yaa])
  (fun i x hx=>by
   have hi:=(zL hx)
   simp only[a9j,dlt hi,d8,hx,yac,f7 (show i<9223372036854775807 by omega)];cases x==d<;>rfl)
 rw[show c9 a9j (d,0,c,())=_ from h,o8]
theorem e0c {c:Calendar} (hc:CalOk c) (d:Int):qfv c d=some (a8t c d):=by
 unfold qfv a8t;simp -zeta only[a0i];dsimp only;rw[←a2z];cases hr:rng 0 109572 d with
 |false=>rfl
 |true=>
  have hk:qe2 d=some (d.tmod 7):=by
   have e:qf0 d=some (rng 0 109572 d):=by
    unfold qf0;simp -zeta only[o5]
    try rfl
   unfold qe2;rw[e,hr]
   try rfl
  simp only[yam,yaa,yaQ,hk];obtain ⟨h1,h2⟩:=g4l (y2.1 hr).1;generalize d.tmod 7=w at h1 h2;obtain ⟨n,rfl⟩:∃n:Nat,w=(n:Int):=⟨w.toNat,by omega⟩
  have hn:n<7:=by omega
  have hw:c9 c2l (d,c.Week,(n:Int),0,c,())=some (d,e95 c.Week n,c,()):=by
   have:=d20 (day:=d) (n:=0) (c:=c) n 0 c.Week (by omega);rw[yaH]at this;exact o9 (n+1) (by rw[m7];omega) this
  simp only[hw,yaI,e3u hc.w1 hc.w2 hn,c5o hc.len];cases (e95 c.Week n).tmod 2==1 with
  |true=>simp
  |false=>
   simp only[yaa,yaq,Bool.and_true,c3q,yb1];cases c.Closed.all (fun x=>!(x==d))<;>rfl
theorem c3k {α β:Type} {s1 s2:α→Option (α⊕β)} (Inv:α→Prop) (h:∀a,Inv a→s1 a=s2 a) (hi:∀a b,Inv a→s1 a=some (.inl b)→Inv b) {a:α} (ha:Inv a):c9 s1 a=c9 s2 a:=by
 have key:∀n a,Inv a→o4 s1 n a=o4 s2 n a:=by
  intro n
  induction n with
  |zero=>intro a _;rfl
  |succ n ih=>
   intro a ha;simp only[o4];rw[←h a ha];cases hs:s1 a with
   |none=>rfl
   |some x=>
    cases x with
    |inl b=>exact ih b (hi a b ha hs)
    |inr b=>rfl
 exact key b8y a ha
theorem d9s {c:Calendar} (hc:CalOk c) (d:Int):qa3 c d=qfw c d:=by
 have h:∀d0:Int,c9 c2c (d0,c,())=c9 c2m (d0,c,()):=fun d0=>by
  refine c3k (fun a=>a.2.1=c) ?_ ?_ rfl
  ·rintro ⟨d,c',_⟩ (rfl:c'=c);simp only[c2c,c2m,f2s hc,e0c hc]
  ·rintro ⟨d,c',_⟩ b (rfl:c'=c) hb;simp only[c2c,f2s hc]at hb;cases hq:decide (d≤109572) with
   |false=>rw[hq]at hb;cases hb
   |true=>
    rw[hq]at hb;simp only[yac]at hb;cases ho:a8t c' d with
    |true=>rw[ho]at hb;cases hb
    |false=>rw[ho]at hb;cases hb;rfl
 unfold qa3 qfw;rw[h]
 try rfl
end
section
theorem d3u {α β:Type} {step:α→Option (α⊕β)} (Inv:α→Prop) (hi:∀a b,Inv a→step a=some (.inl b)→Inv b) {a:α} (ha:Inv a) {r:β} (h:c9 step a=some r):∃b,Inv b∧step b=some (.inr r):=by
 have key:∀n a,Inv a→o4 step n a=some r→∃b,Inv b∧step b=some (.inr r):=by
  intro n
  induction n with
  |zero=>intro a _ h;cases h
  |succ n ih=>
   intro a ha h;simp only[o4]at h;cases hs:step a with
   |none=>rw[hs]at h;cases h
   |some x=>
    rw[hs]at h;cases x with
    |inl b=>exact ih b (hi a b ha hs) h
    |inr b=>cases h;exact ⟨a,ha,hs⟩
 exact key b8y a ha h
end
section
theorem b70 {l:List Loan} {item:Int} (hl:l.length<1000000000):qcm (fun (g:Unit×Int×Unit) x0=>qbv x0 g.2.1) l ((),(item,())) =
 some (match l.find? (fun n=>n.Item==item) with|some x=>(x,a6w (fun n=>n.Item==item) l)|none=>((⟨0,0,0,0,0,false⟩:Loan),-1)):=by
 unfold qcm;rw[d9v (p:=fun (g:Unit×Int×Unit) x0=>qbv x0 g.2.1) (g:=((),(item,()))) (fun x=>x.Item==item) hl (fun x _=>rfl)];rcases o6 (fun x:Loan=>x.Item==item) l with ⟨h1,h2⟩|⟨i,x,h1,h2,h3,h4⟩
 ·simp only[h1,h2,a88,yac]
 ·simp only[h1,h4,a39,yaa,d8,h2]
def j9 (c:Circ) (l:List Loan):Circ:=⟨c.Today,c.Items,c.Patrons,l,c.Holds,c.Charges,c.Rules,c.Cals,c.Moves,c.NextHold,c.NextCharge,c.Local⟩
theorem b7n (c:Circ) (l:List Loan):qdn l 0 ⟨c,0⟩=some ((),⟨j9 c l,0⟩):=rfl
end
section
structure FitP (c:Circ):Prop where
 charges:m8 c.Charges=0
 loans:y8 c.Loans=0
 holds:w6 c.Holds=0
 rules:a2b c.Rules=0
 patrons:a02 c.Patrons=0
 cal0:CalOk c.Cals.x0
 cal1:CalOk c.Cals.x1
 cal2:CalOk c.Cals.x2
 cal3:CalOk c.Cals.x3
 items:a0g c=true
 loanG:∀n∈c.Loans,a2w c n=true
 itemG:∀x∈c.Items,(a4n c.Loans x.ID).2=a1j x.Custody
 holdG:∀h∈c.Holds,a2u c h=true
 readyG:∀x∈c.Items,a03 c x=true
 nums:a3l c=true
theorem h2t {c:Circ} (h:a35 c=true):FitP c:=by
 unfold a35 at h;rw[a6k]at h;simp only[yad]at h;obtain ⟨h1,h2,h3,h4,h5,h6,h7⟩:=h;unfold a2v at h2;simp only[yan,yai,yaw,ya5]at h2;unfold a2q at h3;simp only[yad]at h3;unfold a1q at h6;unfold a3s at h7;simp only[yad,yaj,ya5]at h6 h7;exact ⟨h2.1.2,h2.1.1.1.2,h2.1.1.2,h2.2,h2.1.1.1.1,e4w h3.1,e4w h3.2.1,e4w h3.2.2.1,e4w h3.2.2.2,h5,h6.1,h6.2,h7.1,h7.2,h1⟩
theorem f4q {c:Circ} (h:FitP c) (b:Int):CalOk (f4p c b):=by
 unfold f4p;cases b==1 with
 |true=>exact h.cal0
 |false=>
  cases b==2 with
  |true=>exact h.cal1
  |false=>
   cases b==3 with
   |true=>exact h.cal2
   |false=>exact h.cal3
theorem g10 {c:Circ} (h:FitP c) {r:Rule} (hr:r∈c.Rules):a6q r=true:=by
 have h:=h.rules;unfold a2b at h;rw[z7 h (by decide)]at h;obtain ⟨i,hi⟩:=yaF hr;have:=a8e (k:=0) h i r hi;rw[yaH]at this;unfold a3x at this;have:=z7 this (by decide);simpa using this
def a5o (c:Custody):Prop:=rng 1 4 c.Branch=true
theorem c2x {c:Custody} (h:a7c c=true):a5o c:=by
 unfold a7c at h;unfold a5o;cases hq:(decide (c.State<1)||decide (12<c.State)||decide (c.Branch<1)||decide (4<c.Branch)) with
 |true=>rw[hq]at h;cases h
 |false=>
  simp only[yai,yag]at hq;rw[y2];omega
theorem b8u {m:Move} (h:a7d m=true):rng 1 4 m.Branch=true:=by
 unfold a7d at h;simp only[yad,yae]at h;rw[y2];omega
theorem a73 {c:Custody} {m:Move} (h:((m5 c m).2==0)=true):a5o (m5 c m).1:=by
 unfold m5 at h ⊢;cases e1:(!(a7c c)||!(a7d m)) with
 |true=>rw[e1]at h;cases h
 |false=>
  have e0:=e1;simp only[yai,yaw]at e0;have b1:=c2x e0.1;have b2:=b8u e0.2;rw[e1]at h;simp only[yaa]at h ⊢;cases e2:!(a5e c.State m.Kind) with
  |true=>rw[e2]at h;cases h
  |false=>
   rw[e2]at h;simp only[yaa]at h ⊢;cases e3:(m.Kind==3&&c.State==5&&!(m.Who==c.Who)) with
   |true=>rw[e3]at h;cases h
   |false=>
    rw[e3]at h;simp only[yaa]at h ⊢;cases e4:!(b4i c m) with
    |true=>rw[e4]at h;cases h
    |false=>
     simp only[yaa];cases (w9 m.Kind==2) with
     |true=>exact b2
     |false=>
      simp only[yaa];cases (w9 m.Kind==4||(w9 m.Kind==5||w9 m.Kind==8)) with
      |true=>exact b1
      |false=>
       simp only[yaa];cases e5:(w9 m.Kind==6) with
       |true=>exact b1
       |false=>
        simp only[yaa];cases (w9 m.Kind==9||w9 m.Kind==10) with
        |true=>exact b1
        |false=>exact b1
theorem b4k:∀{l:List Move} {i:Nat} {item:Int} {c d:Custody},a5o c→t6 i l item c=.inl d→a5o d:=by
 intro l
 induction l with
 |nil=>intro i item c d hc h;simp only[t6]at h;cases h;exact hc
 |cons x l ih=>
  intro i item c d hc h;simp only[t6]at h;cases e:x.Item==item with
  |false=>rw[e]at h;exact ih hc h
  |true=>
   rw[e]at h;simp only[yac]at h;cases e2:(m5 c x).2==0 with
   |true=>rw[e2]at h;exact ih (a73 e2) h
   |false=>rw[e2]at h;cases h
theorem b3f {c:Circ} {x:Item} (h:a0e c x=true):a5o x.Custody:=by
 unfold a0e at h;simp only[yan,yai,yaw,ya5]at h;obtain ⟨h1,h2⟩:=h;have e:=a0z.1 h2;rw[←e];unfold y9 at h1 ⊢;cases hb:(decide (x.Branch<1)||decide (4<x.Branch)) with
 |true=>rw[hb]at h1;cases h1
 |false=>
  rw[hb]at h1;simp only[yaa]at h1 ⊢;have hb2:a5o (a8w x.Branch):=by
   simp only[yai,yag]at hb;show rng 1 4 x.Branch=true
   rw[y2];omega
  cases hr:t6 0 c.Moves x.ID (a8w x.Branch) with
  |inl d=>exact b4k hb2 hr
  |inr p=>
   rw[hr]at h1;exfalso;obtain ⟨i,e⟩:=p;simp only at h1;have key:∀(l:List Move) (i:Nat) (c:Custody) (p:Int×Int),t6 i l x.ID c=.inr p→p.2≠0:=by
    intro l
    induction l with
    |nil=>intro i c p h;simp only[t6]at h;cases h
    |cons y l ih=>
     intro i c p h;simp only[t6]at h;cases e:y.Item==x.ID with
     |false=>rw[e]at h;exact ih _ _ _ h
     |true=>
      rw[e]at h;simp only[yac]at h;cases e2:(m5 c y).2==0 with
      |true=>rw[e2]at h;exact ih _ _ _ h
      |false=>rw[e2]at h;cases h;simpa using e2
   exact key _ _ _ _ hr h1
theorem b43 {c:Circ} (h:FitP c) {x:Item} (hx:x∈c.Items):rng 1 4 x.Custody.Branch=true:=b3f (a4y h.items hx)
theorem b5j {c:Circ} (h:FitP c) {n:Loan} (hn:n∈c.Loans):∃x p,c.Items.find? (fun x=>x.ID==n.Item)=some x∧x∈c.Items∧x.ID=n.Item∧a3j c.Patrons n.Patron=(p,true)∧p.ID=n.Patron∧a1j x.Custody=true∧x.Custody.Who=n.Patron:=by
 have hg:=h.loanG n hn;unfold a2w at hg;cases hf:c.Items.find? (fun x=>x.ID==n.Item) with
 |none=>rw[hf]at hg;cases hg
 |some x=>
  rw[hf]at hg;simp only[yan,yai,yaw,ya5]at hg;obtain ⟨⟨g1,g2⟩,g3⟩:=hg;unfold a3j at g1 ⊢;cases hp:c.Patrons.find? (fun p=>p.ID==n.Patron) with
  |none=>rw[hp]at g1;cases g1
  |some p=>exact ⟨x,p,rfl,yaV hf,by have:=ybp hf;simpa using this,rfl,by have:=ybp hp;simpa using this,g2,g3⟩
theorem d42 {l:List Rule} {p it br:Int}:a58 l (e4t l p it br):=by
 have key:∀(m:List Rule) (i:Nat) (b:Int),i+m.length=l.length→a58 l b→a58 l (a04 (σ:=Int) (β:=Int) (fun i x b=>.inl (b9h l p it br i x b)) (fun b=>b) i m b):=by
  intro m
  induction m with
  |nil=>intro i b _ h;exact h
  |cons x m ih=>intro i b hi h;simp only[a04];simp only[yaD]at hi;exact ih _ _ (by omega) (b1d h (by omega))
 exact key l 0 (-1) (by omega) (.inl (by omega))
theorem c6b {c:Circ} (hs:Short c) {p:Int} {x:Item}:∃r b,qfh c p x=some (r,b)∧(b=true→r∈c.Rules):=by
 unfold qfh;rw[b24 hs.patrons];dsimp only;cases (a3j c.Patrons p).2 with
 |false=>exact ⟨_,false,rfl,fun h=>by cases h⟩
 |true=>
  simp only[yam,yaa];unfold qfu;rw[f29 hs.rules];dsimp only;rcases d42 (l:=c.Rules) (p:=(a3j c.Patrons p).1.Kind) (it:=x.Kind) (br:=x.Branch) with h|⟨k,hk,hlt⟩
  ·rw[show decide (e4t c.Rules (a3j c.Patrons p).1.Kind x.Kind x.Branch<0)=true by rw[yae];exact h];exact ⟨_,false,rfl,fun h=>by cases h⟩
  ·rw[hk,show decide ((k:Int)<0)=false by rw[yag];omega];simp only[yaa,d8,yab hlt];exact ⟨_,true,rfl,fun _=>ybx hlt⟩
end
section
theorem a95 {α β:Type} {step:α→Option (α⊕β)} (Inv:α→Prop) (μ:α→Nat) (h:∀a,Inv a→(∃a',step a=some (.inl a')∧Inv a'∧μ a'<μ a)∨∃b,step a=some (.inr b)) {a:α} (ha:Inv a) (hm:μ a<b8y):∃r,c9 step a=some r:=by
 have key:∀n a,Inv a→μ a<n→∃r,o4 step n a=some r:=by
  intro n
  induction n with
  |zero=>intro a _ h;omega
  |succ n ih=>
   intro a hi hn;simp only[o4];rcases h a hi with ⟨a',h1,h2,h3⟩|⟨b,h1⟩
   ·rw[h1];exact ih a' h2 (by omega)
   ·rw[h1];exact ⟨b,rfl⟩
 exact key b8y a ha hm
theorem c15 {c:Calendar} (hc:CalOk c) (d:Int):∃a b,qfw c d=some (a,b):=by
 obtain ⟨r,hr⟩:=a95 (step:=c2m) (fun a=>0≤a.1∧a.2.1=c) (fun a=>(109573-a.1).toNat) (by
  rintro ⟨d,c',_⟩ ⟨h0,(rfl:c'=c)⟩;simp only at h0;simp only[c2m,e0c hc];by_cases hq:d≤109572
  ·rw[show decide (d≤109572)=true by rw[yae];exact hq];simp only[yac];cases a8t c' d with
   |true=>exact .inr ⟨_,rfl⟩
   |false=>
    simp only[yaa];rw[a1h (by omega) (by omega)];exact .inl ⟨_,rfl,⟨by show 0≤d+1;omega,rfl⟩,by show (109573-(d+1)).toNat<(109573-d).toNat;omega⟩
  ·rw[show decide (d≤109572)=false by rw[yag];exact hq];exact .inr ⟨_,rfl⟩) (a:=((if d<0 then 0 else d),c,())) ⟨by show 0≤if d<0 then 0 else d;split<;>omega,rfl⟩ (by rw[m7];show (109573-if d<0 then 0 else d).toNat<_;split<;>omega)
 unfold qfw;rw[hr];rcases r with _|⟨a,b,_⟩
 ·exact ⟨_,_,rfl⟩
 ·exact ⟨_,_,rfl⟩
theorem c7b {α β:Type} {b:Bool} {x y:Option (α×β)} (hx:∃u v,x=some (u,v)) (hy:∃u v,y=some (u,v)):∃u v,(bif b then x else y)=some (u,v):=by
 cases b
 ·exact hy
 ·exact hx
def b8x (a b:Option (Circ×Int×Int)):Prop:=∃c n e,a=some (c,n,e)∧b=some (c,n,e)∧Short c
theorem a5c {e:Int}:b8x (some (o7,0,e)) (some (o7,0,e)):=⟨_,_,_,rfl,rfl,a3t⟩
end
section
def d7g (l:List Hold) (id:Int):Hold×Bool:=match l.find? (fun h=>h.ID==id) with|some h=>(h,true)|none=>(b5k,false)
theorem g9v {l:List Hold} {id:Int} (hl:l.length<1000000000):qeo l id=some (d7g l id):=by
 unfold qeo qbq d7g;rw[c2e (p:=fun (g:Unit×Int×Unit) x0=>qdb x0 g.2.1) (g:=((),(id,()))) (fun x=>x.ID==id) hl (fun x _=>rfl)];rcases o6 (fun x:Hold=>x.ID==id) l with ⟨h1,h2⟩|⟨i,x,h1,h2,h3,h4⟩
 ·simp only[h1,h2]
  try rfl
 ·have d:decide ((0:Int)≤(i:Int))=true:=by rw[yae];omega
  simp only[h1,h4,d,yac,d8,h2]
theorem c92 {l:List Hold} {id:Int} (hl:l.length<1000000000):qfy l id=some (d7g l id):=by
 unfold qfy d7g;have h:=u7 (step:=c2n) (fun i=>(l,id,(i:Int),b5k,())) l (fun x=>x.ID==id) (fun _ x=>(.inr (true,x,()):(Hold×Unit)⊕(Bool×Hold×Unit))) (.inl (b5k,())) hl
  (by simp only[c2n,dge,yaa])
  (fun i x hx=>by
   have hi:=(zL hx)
   simp only[c2n,dlt hi,d8,hx,yac,f7 (show i<9223372036854775807 by omega)])
 rw[show c9 c2n (l,id,0,(⟨0,0,0,0,0,0,0,0,0,0,0⟩:Hold),())=_ from h,a9a];cases l.find? (fun x=>x.ID==id)<;>rfl
theorem c3j {α β γ:Type} {s1:α→Option (α⊕β)} {s2:γ→Option (γ⊕β)} (Inv:α→Prop) (φ:α→γ)
 (h:∀a,Inv a→s2 (φ a)=(match s1 a with|none=>none|some (.inl b)=>some (.inl (φ b))|some (.inr b)=>some (.inr b)))
 (hi:∀a b,Inv a→s1 a=some (.inl b)→Inv b) {a:α} (ha:Inv a):c9 s2 (φ a)=c9 s1 a:=by
 have key:∀n a,Inv a→o4 s2 n (φ a)=o4 s1 n a:=by
  intro n
  induction n with
  |zero=>intro a _;rfl
  |succ n ih=>
   intro a ha;simp only[o4];rw[h a ha];cases hs:s1 a with
   |none=>rfl
   |some x=>
    cases x with
    |inl b=>exact ih b (hi a b ha hs)
    |inr b=>rfl
 exact key b8y a ha
theorem d9w {c:Calendar} (hc:CalOk c) (day n:Int):qaw c day n=qff c day n:=by
 have hw:c9 b6c (n,day,0,c,())=c9 b56 (day,n,0,c,()):=by
  refine c3j (s1:=b56) (s2:=b6c) (fun a=>a.2.2.2.1=c) (fun a=>(a.2.1,a.1,a.2.2.1,a.2.2.2.1,())) ?_ ?_ (a:=(day,n,0,c,())) rfl
  ·rintro ⟨d,n,i,c',_⟩ (rfl:c'=c);simp only[b56,b6c,d9s hc];cases decide (i<n) with
   |false=>rfl
   |true=>
    simp only[yac];cases qfw c' (wr .i64 (d+1)) with
    |none=>rfl
    |some p=>
     obtain ⟨a,b⟩:=p;simp only;cases !(b==0)<;>rfl
  ·rintro ⟨d,n,i,c',_⟩ b (rfl:c'=c) hb;simp only[b56]at hb;cases hq:decide (i<n) with
   |false=>rw[hq]at hb;cases hb
   |true=>
    rw[hq]at hb;simp only[yac]at hb;cases hn:qa3 c' (wr .i64 (d+1)) with
    |none=>rw[hn]at hb;cases hb
    |some p=>
     obtain ⟨a,b2⟩:=p;rw[hn]at hb;simp only at hb;cases he:!(b2==0) with
     |true=>rw[he]at hb;cases hb
     |false=>rw[he]at hb;cases hb;rfl
 unfold qaw qff;simp -zeta only[a0i,d93,d9s hc];dsimp only;rw[hw,←a2z 0 109572]
 try rfl
end
section
theorem f9w {c:Circ} (h:FitP c) {x:Item} (hx:x∈c.Items):1≤x.ID∧x.ID≤9999:=by
 have h:=h.items;unfold a0g at h;simp only[yad]at h;obtain ⟨i,hi⟩:=yaF hx;have:=(a5d.1 h.2.1) i x hi;rw[yaH]at this;simp only[yan,yai,yaw]at this;have h2:=this.1;unfold w7 at h2;simp only[yad,y2]at h2;omega
def g8o:Loan:=⟨0,0,0,0,0,false⟩
theorem a9d {c:Calendar} (hc:CalOk c) (d n:Int):∃a b,qff c d n=some (a,b):=by
 unfold qff;simp -zeta only[a0i];dsimp only;cases hb:(decide (n<0)||decide (1000<n)) with
 |true=>exact ⟨_,_,rfl⟩
 |false=>
  simp only[yai,yag]at hb;simp only[yaa];refine c7b ⟨_,_,rfl⟩ (c7b ?_ ?_)
  ·obtain ⟨a,b,h⟩:=c15 hc d;rw[h];exact ⟨_,_,rfl⟩
  ·obtain ⟨r,hr⟩:=a95 (step:=b6c) (fun a=>a.1=n∧0≤a.2.2.1∧a.2.2.2.1=c) (fun a=>(n-a.2.2.1).toNat) (by
    rintro ⟨n',d,i,c',_⟩ ⟨(rfl:n'=n),h0,(rfl:c'=c)⟩;simp only at h0;simp only[b6c];by_cases hq:i<n'
    ·rw[show decide (i<n')=true by rw[yae];exact hq];obtain ⟨a,b,h⟩:=c15 hc (wr .i64 (d+1));simp only[yac,h];cases !(b==0) with
     |true=>exact .inr ⟨_,rfl⟩
     |false=>
      simp only[yaa];rw[a1h (n:=i+1) (by omega) (by omega)];exact .inl ⟨_,rfl,⟨rfl,by show 0≤i+1;omega,rfl⟩,by show (n'-(i+1)).toNat<(n'-i).toNat;omega⟩
    ·rw[show decide (i<n')=false by rw[yag];exact hq];exact .inr ⟨_,rfl⟩) (a:=(n,d,0,c,())) ⟨rfl,by show (0:Int)≤0;omega,rfl⟩ (by rw[m7];show (n-0).toNat<_;omega)
   rw[hr];rcases r with ⟨a,_⟩|⟨a,b,_⟩
   ·exact ⟨_,_,rfl⟩
   ·exact ⟨_,_,rfl⟩
end
section
def b0c {X:Type} (lt:X→X→Bool) (y:X):List X→List X→List X
 | [],rest=>y::rest
 |z::zs,rest=>bif lt y z then b0c lt y zs (z::rest) else zs.reverse++z::y::rest
theorem d7t {X:Type} {lt:X→X→Bool} {y:X}:∀{r rest more:List X},b0c lt y r (rest++more)=b0c lt y r rest++more:=by
 intro r
 induction r with
 |nil=>intro rest more;rfl
 |cons z zs ih=>
  intro rest more;simp only[b0c];cases lt y z with
  |true=>simp only[yac];rw[←List.cons_append,ih]
  |false=>simp
theorem d1r {X:Type} {lt:X→X→Bool} {y:X}:∀{B A rest:List X},(∀b∈B,lt y b=true)→(∀a∈A,lt y a=false)→b0c lt y (B++A) rest=A.reverse++y::(B.reverse++rest):=by
 intro B
 induction B with
 |nil=>
  intro A rest _ hA;cases A with
  |nil=>rfl
  |cons a A=>simp only[ya7,b0c,hA a (yaE ..),yaa,List.reverse_cons,ybl,List.reverse_nil];rfl
 |cons b B ih=>
  intro A rest hB hA;simp only[List.cons_append,b0c,hB b (yaE ..),yac];rw[ih (fun b hb=>hB b (yaR _ hb)) hA];simp
section
variable {γ:Type} {p:γ→Hold→Hold→Option Int} {g:γ} {lt:Hold→Hold→Bool}
theorem f9u (hp:∀y z,∃n,p g y z=some n∧decide (n<0)=lt y z) {b i:Int}:∀(r:List Hold) (y:Hold) (rest:List Hold),r.length<1000000→
 o4 (d26 p) (r.length+1) (0,b,g,i,(r.length:Int),r.reverse++y::rest,())=some (0,b,g,i,b0c lt y r rest,()):=by
 intro r
 induction r with
 |nil=>
  intro y rest _;simp only[yaU,o4,b0c,d26]
  try rfl
 |cons z zs ih=>
  intro y rest hl;simp only[yaD]at hl;obtain ⟨n,h1,h2⟩:=hp y z;have d:decide ((0:Int)<((zs.length+1:Nat):Int))=true:=by rw[yae];omega
  have w:=a3z (j:=zs.length) (by omega);have e:(z::zs).reverse++y::rest=zs.reverse++z::y::rest:=by simp
  have gy:(zs.reverse++z::y::rest)[zs.length+1]?=some y:=by rw[yaA (by simp)];simp
  have gz:(zs.reverse++z::y::rest)[zs.length]?=some z:=by rw[yaA (by simp)];simp
  have s1:(zs.reverse++z::y::rest).set (zs.length+1) z=zs.reverse++z::z::rest:=by
   rw[List.set_append_right _ _ (by simp)];simp
  have gz2:(zs.reverse++z::z::rest)[zs.length]?=some z:=by rw[yaA (by simp)];simp
  have s2:(zs.reverse++z::z::rest).set zs.length y=zs.reverse++y::z::rest:=by
   rw[List.set_append_right _ _ (by simp)];simp
  rw[o4,e];simp only[yaD,d26,d,yac,w,d8,yaI,gy,gz,h1,h2,s1,gz2,s2,b0c];cases lt y z with
  |true=>simp only[yac];exact ih y (z::rest) (by omega)
  |false=>rfl
def a5m (lt:Hold→Hold→Bool) (l:List Hold):List Hold:=l.foldl (fun pre y=>b0c lt y pre.reverse []) []
theorem a65 {l:List Hold} {y:Hold}:a5m lt (l++[y])=b0c lt y (a5m lt l).reverse []:=by
 unfold a5m;rw[List.foldl_append];rfl
theorem c43 {y:Hold}:∀{r rest:List Hold},(b0c lt y r rest).length=r.length+1+rest.length:=by
 intro r
 induction r with
 |nil=>intro rest;simp[b0c];omega
 |cons z zs ih=>
  intro rest;simp only[b0c];cases lt y z with
  |true=>simp only[yac];rw[ih];simp;omega
  |false=>simp;omega
theorem c3b:∀{l:List Hold},(a5m lt l).length=l.length:=by
 have key:∀(l pre:List Hold),(l.foldl (fun pre y=>b0c lt y pre.reverse []) pre).length=pre.length+l.length:=by
  intro l
  induction l with
  |nil=>intro pre;rfl
  |cons y l ih=>intro pre;rw[ybn,ih,c43];simp;omega
 intro l;unfold a5m;rw[key];simp
theorem e9f (hp:∀y z,∃n,p g y z=some n∧decide (n<0)=lt y z) {l:List Hold} (hl:l.length<1000000):∀(k i:Nat),i+k=l.length→
 o4 (d25 p) (k+1) (0,(l.length:Int),g,(i:Int),a5m lt (l.take i)++l.drop i,())=some (a5m lt l,()):=by
 intro k
 induction k with
 |zero=>
  intro i hi;have:i=l.length:=by omega
  subst this;have d:decide ((l.length:Int)<(l.length:Int))=false:=by rw[yag];omega
  simp only[o4,d25,d,yaa,List.take_length,List.drop_length,List.append_nil]
 |succ k ih=>
  intro i hi;have hlt:i<l.length:=by omega
  have d:decide ((i:Int)<(l.length:Int))=true:=by rw[yae];omega
  have hlen:(a5m lt (l.take i)).length=i:=by rw[c3b,yaW];omega
  have hr:=f9u (p:=p) (g:=g) (lt:=lt) hp (b:=(l.length:Int)) (i:=(i:Int)) (a5m lt (l.take i)).reverse l[i] (l.drop (i+1)) (by rw[List.length_reverse,hlen];omega);rw[List.length_reverse,List.reverse_reverse,hlen,←ybN hlt]at hr;have hw:c9 (d26 p) (0,(l.length:Int),g,(i:Int),(i:Int),a5m lt (l.take i)++l.drop i,())=_:=o9 (i+1) (by rw[m7];omega) hr;rw[o4];simp only[d25,d,yac,hw,f7 (show i<9223372036854775807 by omega)];have e:b0c lt l[i] (a5m lt (l.take i)).reverse (l.drop (i+1))=a5m lt (l.take (i+1))++l.drop (i+1):=by
   have:=d7t (lt:=lt) (y:=l[i]) (r:=(a5m lt (l.take i)).reverse) (rest:=[]) (more:=l.drop (i+1));rw[ya7]at this;rw[this,List.take_succ_eq_append_getElem hlt,a65]
  rw[e];exact ih (i+1) (by omega)
theorem g4i (hp:∀y z,∃n,p g y z=some n∧decide (n<0)=lt y z) {l:List Hold} (hl:l.length<20):qc1 p l g=some (a5m lt l):=by
 have h1:c9 (e8x p) ((l.length:Int),g,20,0,20,l,())=some ((l.length:Int),g,20,0,l,()):=by
  refine o9 1 (by rw[m7];omega) ?_;have d:decide ((20:Int)≤(l.length:Int))=false:=by rw[yag];omega
  simp only[o4,e8x,d,yaa]
 have h2:∀m:List Hold,c9 (e8y p) ((l.length:Int),g,20,m,())=some (m,()):=fun m=>by
  refine o9 1 (by rw[m7];omega) ?_;have d:decide ((20:Int)<(l.length:Int))=false:=by rw[yag];omega
  simp only[o4,e8y,d,yaa]
 have h3:qn p l 0 (l.length:Int) g=some (a5m lt l):=by
  unfold qn;have hw:c9 (d25 p) (0,(l.length:Int),g,wr .i64 (0+1),l,())=some (a5m lt l,()):=by
   cases l with
   |nil=>
    refine o9 1 (by rw[m7];omega) ?_
    try rfl
   |cons y m=>
    have:=e9f (p:=p) (g:=g) (lt:=lt) hp (l:=y::m) (by omega) m.length 1 (by simp only[yaD];omega);exact o9 (m.length+1) (by rw[m7];simp only[yaD]at hl;omega) this
  rw[hw]
 unfold qc1 ql;rw[h1];simp only[h3,h2]
end
end
section
def rk (k:Int) (l:List Hold):List Hold:=l.filter (fun x=>x.Rank==k)
def ltR (y z:Hold):Bool:=decide (z.Rank<y.Rank)
def s7 (l:List Hold):List Hold:=rk 9 l++(rk 8 l++(rk 7 l++(rk 6 l++(rk 5 l++(rk 4 l++(rk 3 l++(rk 2 l++(rk 1 l++rk 0 l))))))))
theorem h0j {k:Int} {l:List Hold} {x:Hold} (h:x∈rk k l):x.Rank=k:=by
 unfold rk at h;rw[yaS]at h;simpa using h.2
theorem a5b (k:Int) (l:List Hold) (y:Hold):rk k (l++[y])=rk k l++(bif y.Rank==k then [y] else []):=by
 unfold rk;rw[List.filter_append,ybh];cases y.Rank==k<;>simp
theorem f9t {A B:List Hold} {y:Hold} (hA:∀a∈A,y.Rank≤a.Rank) (hB:∀b∈B,b.Rank<y.Rank):b0c ltR y (A++B).reverse []=A++y::B:=by
 rw[List.reverse_append,d1r (by intro b hb;rw[List.mem_reverse]at hb;unfold ltR;rw[yae];exact hB b hb) (by intro a ha;rw[List.mem_reverse]at ha;unfold ltR;rw[yag];have:=hA a ha;omega)];simp
theorem c6q:∀(m:List Hold) (l:List Hold),l=m.reverse→(∀x∈l,rng 0 9 x.Rank=true)→a5m ltR l=s7 l:=by
 intro m
 induction m with
 |nil=>intro l h _;subst h;rfl
 |cons y m ih=>
  intro l h hr;rw[List.reverse_cons]at h;subst h;have hy:=y2.1 (hr y (by simp));rw[a65,ih m.reverse rfl (fun x hx=>hr x (by simp at hx ⊢;exact .inl hx))];generalize m.reverse=l;have hc:y.Rank=0∨y.Rank=1∨y.Rank=2∨y.Rank=3∨y.Rank=4∨y.Rank=5∨y.Rank=6∨y.Rank=7∨y.Rank=8∨y.Rank=9:=by omega
  have mid:∀(A B:List Hold),s7 l=A++B→(∀a∈A,y.Rank≤a.Rank)→(∀b∈B,b.Rank<y.Rank)→b0c ltR y (s7 l).reverse []=A++y::B:=fun A B e hA hB=>by rw[e];exact f9t hA hB
  have mm:∀(k:Int) (x:Hold),x∈rk k l→x.Rank=k:=fun k x h=>h0j h
  rcases hc with h|h|h|h|h|h|h|h|h|h
  ·rw[mid (rk 9 l++(rk 8 l++(rk 7 l++(rk 6 l++(rk 5 l++(rk 4 l++(rk 3 l++(rk 2 l++(rk 1 l++rk 0 l))))))))) [] (by simp[s7]) (by intro a ha;simp only[yat]at ha;rcases ha with h|h|h|h|h|h|h|h|h|h<;>(have:=mm _ _ h;omega)) (by intro b hb;cases hb)];simp[s7,a5b,h]
  ·rw[mid (rk 9 l++(rk 8 l++(rk 7 l++(rk 6 l++(rk 5 l++(rk 4 l++(rk 3 l++(rk 2 l++rk 1 l)))))))) (rk 0 l) (by simp[s7]) (by intro a ha;simp only[yat]at ha;rcases ha with h|h|h|h|h|h|h|h|h<;>(have:=mm _ _ h;omega)) (by intro b hb;have:=mm _ _ hb;omega)];simp[s7,a5b,h]
  ·rw[mid (rk 9 l++(rk 8 l++(rk 7 l++(rk 6 l++(rk 5 l++(rk 4 l++(rk 3 l++rk 2 l))))))) (rk 1 l++rk 0 l) (by simp[s7]) (by intro a ha;simp only[yat]at ha;rcases ha with h|h|h|h|h|h|h|h<;>(have:=mm _ _ h;omega)) (by intro b hb;simp only[yat]at hb;rcases hb with h|h<;>(have:=mm _ _ h;omega))];simp[s7,a5b,h]
  ·rw[mid (rk 9 l++(rk 8 l++(rk 7 l++(rk 6 l++(rk 5 l++(rk 4 l++rk 3 l)))))) (rk 2 l++(rk 1 l++rk 0 l)) (by simp[s7]) (by intro a ha;simp only[yat]at ha;rcases ha with h|h|h|h|h|h|h<;>(have:=mm _ _ h;omega)) (by intro b hb;simp only[yat]at hb;rcases hb with h|h|h<;>(have:=mm _ _ h;omega))];simp[s7,a5b,h]
  ·rw[mid (rk 9 l++(rk 8 l++(rk 7 l++(rk 6 l++(rk 5 l++rk 4 l))))) (rk 3 l++(rk 2 l++(rk 1 l++rk 0 l))) (by simp[s7]) (by intro a ha;simp only[yat]at ha;rcases ha with h|h|h|h|h|h<;>(have:=mm _ _ h;omega)) (by intro b hb;simp only[yat]at hb;rcases hb with h|h|h|h<;>(have:=mm _ _ h;omega))];simp[s7,a5b,h]
  ·rw[mid (rk 9 l++(rk 8 l++(rk 7 l++(rk 6 l++rk 5 l)))) (rk 4 l++(rk 3 l++(rk 2 l++(rk 1 l++rk 0 l)))) (by simp[s7]) (by intro a ha;simp only[yat]at ha;rcases ha with h|h|h|h|h<;>(have:=mm _ _ h;omega)) (by intro b hb;simp only[yat]at hb;rcases hb with h|h|h|h|h<;>(have:=mm _ _ h;omega))];simp[s7,a5b,h]
  ·rw[mid (rk 9 l++(rk 8 l++(rk 7 l++rk 6 l))) (rk 5 l++(rk 4 l++(rk 3 l++(rk 2 l++(rk 1 l++rk 0 l))))) (by simp[s7]) (by intro a ha;simp only[yat]at ha;rcases ha with h|h|h|h<;>(have:=mm _ _ h;omega)) (by intro b hb;simp only[yat]at hb;rcases hb with h|h|h|h|h|h<;>(have:=mm _ _ h;omega))];simp[s7,a5b,h]
  ·rw[mid (rk 9 l++(rk 8 l++rk 7 l)) (rk 6 l++(rk 5 l++(rk 4 l++(rk 3 l++(rk 2 l++(rk 1 l++rk 0 l)))))) (by simp[s7]) (by intro a ha;simp only[yat]at ha;rcases ha with h|h|h<;>(have:=mm _ _ h;omega)) (by intro b hb;simp only[yat]at hb;rcases hb with h|h|h|h|h|h|h<;>(have:=mm _ _ h;omega))];simp[s7,a5b,h]
  ·rw[mid (rk 9 l++rk 8 l) (rk 7 l++(rk 6 l++(rk 5 l++(rk 4 l++(rk 3 l++(rk 2 l++(rk 1 l++rk 0 l))))))) (by simp[s7]) (by intro a ha;simp only[yat]at ha;rcases ha with h|h<;>(have:=mm _ _ h;omega)) (by intro b hb;simp only[yat]at hb;rcases hb with h|h|h|h|h|h|h|h<;>(have:=mm _ _ h;omega))];simp[s7,a5b,h]
  ·rw[mid (rk 9 l) (rk 8 l++(rk 7 l++(rk 6 l++(rk 5 l++(rk 4 l++(rk 3 l++(rk 2 l++(rk 1 l++rk 0 l)))))))) (by simp[s7]) (by intro a ha;have:=mm _ _ ha;omega) (by intro b hb;simp only[yat]at hb;rcases hb with h|h|h|h|h|h|h|h|h<;>(have:=mm _ _ h;omega))];simp[s7,a5b,h]
def a0b (record day:Int) (x:Hold):Bool:=x.Record==record&&x.State==1&&decide (x.Asleep≤day)
theorem e3t (record day:Int) (x:Hold):(x.State==1&&x.Record==record&&decide (x.Asleep≤day))=a0b record day x:=by
 unfold a0b;cases x.Record==record<;>cases x.State==1<;>rfl
theorem e0p (y z:Hold) (hy:rng 0 9 y.Rank=true) (hz:rng 0 9 z.Rank=true):decide (wr .i64 (z.Rank-y.Rank)<0)=ltR y z:=by
 have h1:=y2.1 hy;have h2:=y2.1 hz;rw[a1h (by omega) (by omega)];unfold ltR;rw[decide_eq_decide];omega
theorem e6w {lt:Hold→Hold→Bool} {y x:Hold}:∀{r rest:List Hold},x∈b0c lt y r rest→x=y∨x∈r∨x∈rest:=by
 intro r
 induction r with
 |nil=>intro rest h;simp only[b0c,yaL]at h;rcases h with h|h<;>simp[h]
 |cons z zs ih=>
  intro rest h;simp only[b0c]at h;cases hb:lt y z with
  |true=>
   rw[hb]at h;rcases ih h with h|h|h
   ·exact .inl h
   ·exact .inr (.inl (yaR _ h))
   ·rcases yaL.1 h with h|h
    ·subst h;exact .inr (.inl (yaE ..))
    ·exact .inr (.inr h)
  |false=>
   rw[hb]at h;simp only[yaa,yat,List.mem_reverse,yaL]at h;rcases h with h|h|h|h
   ·exact .inr (.inl (yaR _ h))
   ·subst h;exact .inr (.inl (yaE ..))
   ·exact .inl h
   ·exact .inr (.inr h)
theorem d1q {lt lt':Hold→Hold→Bool} {y:Hold}:∀{r rest:List Hold},(∀z∈r,lt y z=lt' y z)→b0c lt y r rest=b0c lt' y r rest:=by
 intro r
 induction r with
 |nil=>intros;rfl
 |cons z zs ih=>
  intro rest h;simp only[b0c];rw[h z (yaE ..),ih (fun z hz=>h z (yaR _ hz))]
theorem e3h {lt lt':Hold→Hold→Bool}:∀(m l:List Hold),l=m.reverse→(∀x∈l,∀y∈l,lt x y=lt' x y)→a5m lt l=a5m lt' l∧∀x∈a5m lt' l,x∈l:=by
 intro m
 induction m with
 |nil=>intro l h _;subst h;exact ⟨rfl,fun x hx=>by cases hx⟩
 |cons y m ih=>
  intro l h hc;rw[List.reverse_cons]at h;subst h;obtain ⟨e1,e2⟩:=ih m.reverse rfl (fun a ha b hb=>hc a (by simp at ha ⊢;exact .inl ha) b (by simp at hb ⊢;exact .inl hb));rw[a65,a65,e1];refine ⟨d1q (fun z hz=>hc y (by simp) z ?_),fun x hx=>?_⟩
  ·rw[List.mem_reverse]at hz;have:=e2 z hz;simp at this ⊢;exact .inl this
  ·rcases e6w hx with h|h|h
   ·subst h;simp
   ·rw[List.mem_reverse]at h;have:=e2 x h;simp at this ⊢;exact .inl this
   ·cases h
theorem d3a {l:List Hold} (hl:l.length<20) (hr:∀x∈l,rng 0 9 x.Rank=true):qc1 (fun (g:Unit×Unit) x0 x1=>qba x0 x1) l ((),())=some (s7 l):=by
 rw[g4i (lt:=fun y z=>decide (wr .i64 (z.Rank-y.Rank)<0)) (fun y z=>⟨_,rfl,rfl⟩) hl];congr 1;rw[(e3h l.reverse l (by simp) (fun x hx y hy=>e0p x y (hr x hx) (hr y hy))).1];exact c6q l.reverse l (by simp) hr
end
section
theorem b15 {X:Type} (p:X→Bool):∀(l o:List X),l.foldl (fun s y=>bif p y then s++[y] else s) o=o++l.filter p:=by
 intro l
 induction l with
 |nil=>intro o;simp
 |cons x l ih=>intro o;rw[ybn,ih,ybh];cases p x<;>simp
theorem b0a {X Y:Type} (p:X→Bool) (f:X→Y):∀(l:List X) (o:List Y),l.foldl (fun s y=>bif p y then s++[f y] else s) o=o++(l.filter p).map f:=by
 intro l
 induction l with
 |nil=>intro o;simp
 |cons x l ih=>intro o;rw[ybn,ih,ybh];cases p x<;>simp
theorem h18 {l:List Hold} {record day:Int} (hl:l.length<1000000) (h20:(l.filter (a0b record day)).length<20) (hr:∀x∈l,rng 0 9 x.Rank=true):qg l record day=some (s7 (l.filter (a0b record day))):=by
 have h:=n9 (step:=d21) (fun (i:Nat) (s:List Hold)=>s.length≤i) (fun i s=>(record,day,l,(l.length:Int),(i:Int),s,())) l
  (fun i y s=>.inl (bif a0b record day y then s++[y] else s)) (fun s=>(s,())) (by rw[m7];omega)
  (fun s _=>by simp only[d21,dge,yaa])
  (fun i y s hx hi=>by
   have hlt:=(zL hx)
   have l1:decide (s.length+([y]:List Hold).length≤LIM)=true:=a4o (by simp;omega);refine ⟨?_,fun s' hs'=>?_⟩
   ·simp -zeta only[d21,dlt hlt,d8,hx,yac,l1,o5,f7 (show i<9223372036854775807 by omega)];unfold a0b;dsimp only;cases (y.Record==record&&y.State==1&&decide (y.Asleep≤day))<;>rfl
   ·cases hs'
    cases a0b record day y<;>simp<;>omega) [] (by simp)
 rw[a1y]at h;unfold qg;rw[show c9 d21 (record,day,l,(l.length:Int),0,[],())=_ from h,b15,ya7];simp only;rw[d3a h20 (fun x hx=>hr x (yaS.1 hx).1)]
theorem d2z {l:List Hold} {record day rank:Int} (hl:l.length<1000000) (s:List Int) (hs:s.length<100000000):c9 b6a (l,record,day,rank,0,s,())=some (l,record,day,rank,s++(rk rank (l.filter (a0b record day))).map (fun x=>x.ID),()):=by
 have h:=n9 (step:=b6a) (fun (i:Nat) (o:List Int)=>o.length≤s.length+i) (fun i o=>(l,record,day,rank,(i:Int),o,())) l
  (fun i y o=>.inl (bif a0b record day y&&y.Rank==rank then o++[y.ID] else o)) (fun o=>(l,record,day,rank,o,())) (by rw[m7];omega)
  (fun o _=>by simp only[b6a,dge,yaa])
  (fun i y o hx hi=>by
   have hlt:=(zL hx)
   have l1:decide (o.length+([y.ID]:List Int).length≤LIM)=true:=a4o (by simp;omega);refine ⟨?_,fun s' hs'=>?_⟩
   ·simp -zeta only[b6a,dlt hlt,d8,hx,yac,l1,o5,f7 (show i<9223372036854775807 by omega)];dsimp only;rw[e3t];cases (a0b record day y&&y.Rank==rank)<;>rfl
   ·cases hs'
    cases (a0b record day y&&y.Rank==rank)<;>simp<;>omega) s (by omega)
 rw[a1y]at h;rw[show c9 b6a (l,record,day,rank,0,s,())=_ from h];have e:(fun (s:List Int) (x:Hold)=>bif a0b record day x&&x.Rank==rank then s++[x.ID] else s)=(fun s x=>bif (fun y=>a0b record day y&&y.Rank==rank) x then s++[(fun z:Hold=>z.ID) x] else s):=rfl;rw[e,b0a];unfold rk;rw[List.filter_filter];have e2:(fun y:Hold=>a0b record day y&&y.Rank==rank)=(fun a=>a.Rank==rank&&a0b record day a):=by funext y;rw[Bool.and_comm]
 rw[e2]
def dn (q:List Hold):Nat→List Hold
 |0=>[]
 |k+1=>rk (k:Int) q++dn q k
theorem d49 (q:List Hold):s7 q=dn q 10:=by
 simp[s7,dn]
theorem c2y {k:Int} {q:List Hold}:(rk k q).length≤q.length:=yax _ _
theorem g1y {l:List Hold} {record day:Int} (hl:l.length<1000000):∀(k:Nat) (s:List Int),k≤10→s.length+k*1000000<100000000→
 o4 c90 (k+1) (l,record,day,(k:Int)-1,s,())=some (s++(dn (l.filter (a0b record day)) k).map (fun x=>x.ID),()):=by
 intro k
 induction k with
 |zero=>
  intro s _ _;simp only[o4,dn,yb2,List.append_nil]
  try rfl
 |succ k ih=>
  intro s hk hs;have e:((k+1:Nat):Int)-1=(k:Int):=by omega
  have hlen:(rk (k:Int) (l.filter (a0b record day))).length≤l.length:=yba c2y (yax _ _);rw[o4];have d2:decide ((0:Int)≤(k:Int))=true:=by rw[yae];omega
  simp only[c90,d2,yac,e,d2z hl s (by omega)];rw[a1h (n:=(k:Int)-1) (by omega) (by omega),ih _ (by omega) (by rw[yaP,ya1];omega)];simp only[dn,List.map_append,ybl]
theorem g9w {l:List Hold} {record day:Int} (hl:l.length<1000000):qfc l record day=some ((s7 (l.filter (a0b record day))).map (fun x=>x.ID)):=by
 have h:=g1y (record:=record) (day:=day) hl 10 [] (by omega) (by simp);unfold qfc;rw[show c9 c90 (l,record,day,9,([]:List Int),())=_ from o9 11 (by rw[m7];omega) h,ya7,d49]
theorem a5f {q:List Hold} {x:Hold} (h:x∈s7 q):x∈q:=by
 have k:∀(k:Int),x∈rk k q→x∈q:=fun k h=>(yaS.1 h).1
 unfold s7 at h;simp only[yat]at h;rcases h with h|h|h|h|h|h|h|h|h|h<;>exact k _ h
def b4h (branch:Int) (vlocal:Bool) (x:Item) (h:Hold) (first:Int):Int⊕Int:=
 bif !(h.Item==0)&&!(h.Item==x.ID) then .inl first
 else bif !vlocal||h.Pickup==branch then .inr h.ID
 else .inl (bif first==0 then h.ID else first)
def c18 (branch:Int) (vlocal:Bool) (x:Item) (h:Hold) (first:Int):Int⊕Int:=
 bif !(h.Item==0)&&!(h.Item==x.ID) then .inl first
 else bif vlocal&&h.Pickup==branch then .inr h.ID
 else .inl (bif first==0 then h.ID else first)
def b2t (branch:Int) (vlocal:Bool) (x:Item):List Hold→Int→Int
 | [],first=>first
 |h::q,first=>match b4h branch vlocal x h first with | .inl f=>b2t branch vlocal x q f | .inr r=>r
def a7u (branch:Int) (vlocal:Bool) (x:Item):List Hold→Int→Int
 | [],first=>first
 |h::q,first=>match c18 branch vlocal x h first with | .inl f=>a7u branch vlocal x q f | .inr r=>r
theorem d2k {branch:Int} {x:Item}:∀{q:List Hold} {f:Int},f≠0→a7u branch false x q f=f:=by
 intro q
 induction q with
 |nil=>intros;rfl
 |cons h q ih=>
  intro f hf;have h0:(f==0)=false:=by simpa using hf
  simp only[a7u,c18,ya9,yaa,h0];cases (!(h.Item==0)&&!(h.Item==x.ID))<;>exact ih hf
theorem d9m {branch:Int} {vlocal:Bool} {x:Item}:∀{q:List Hold} {f:Int},(∀h∈q,h.ID≠0)→(vlocal=false→f=0)→b2t branch vlocal x q f=a7u branch vlocal x q f:=by
 intro q
 induction q with
 |nil=>intros;rfl
 |cons h q ih=>
  intro f hq hf;simp only[b2t,a7u,b4h,c18];cases (!(h.Item==0)&&!(h.Item==x.ID)) with
  |true=>exact ih (fun y hy=>hq y (yaR _ hy)) hf
  |false=>
   cases vlocal with
   |true=>
    cases h.Pickup==branch with
    |true=>rfl
    |false=>exact ih (fun y hy=>hq y (yaR _ hy)) (fun e=>by cases e)
   |false=>
    have:=hf rfl;subst this;exact (d2k (hq h (yaE ..))).symm
end
section
theorem a8h {l:List Hold} (hsort:∀i x,l[i]?=some x→p8 l i (fun y=>decide (x.ID≤y.ID))=false) {h:Hold} (hm:h∈l):d7g l h.ID=(h,true):=by
 unfold d7g;rw[a2h (key:=fun y:Hold=>y.ID) hsort hm]
theorem d2l {β:Type} {branch:Int} {vlocal:Bool} {x:Item} (fin:Int→β) (out:Int→β) (hfo:∀v:Int,True):∀(q:List Hold) (i:Nat) (f:Int),∃r:Int⊕Int,(match r with | .inl v=>v | .inr v=>v)=b2t branch vlocal x q f∧
 a04 (fun (_:Nat) h f=>match b4h branch vlocal x h f with | .inl f=>.inl f | .inr v=>.inr (out v)) fin i q f=(match r with | .inl v=>fin v | .inr v=>out v):=by
 intro q
 induction q with
 |nil=>intro i f;exact ⟨.inl f,rfl,rfl⟩
 |cons h q ih=>
  intro i f;simp only[a04,b2t];cases b4h branch vlocal x h f with
  |inl f'=>exact ih (i+1) f'
  |inr v=>exact ⟨.inr v,rfl,rfl⟩
theorem d2m {β:Type} {branch:Int} {vlocal:Bool} {x:Item} (fin:Int→β) (out:Int→β) (hfo:∀v:Int,True):∀(q:List Hold) (i:Nat) (f:Int),∃r:Int⊕Int,(match r with | .inl v=>v | .inr v=>v)=a7u branch vlocal x q f∧
 a04 (fun (_:Nat) h f=>match c18 branch vlocal x h f with | .inl f=>.inl f | .inr v=>.inr (out v)) fin i q f=(match r with | .inl v=>fin v | .inr v=>out v):=by
 intro q
 induction q with
 |nil=>intro i f;exact ⟨.inl f,rfl,rfl⟩
 |cons h q ih=>
  intro i f;simp only[a04,a7u];cases c18 branch vlocal x h f with
  |inl f'=>exact ih (i+1) f'
  |inr v=>exact ⟨.inr v,rfl,rfl⟩
theorem a78 {q:List Hold}:(s7 q).length≤10*q.length:=by
 have k:∀n:Int,(rk n q).length≤q.length:=fun n=>c2y
 unfold s7;simp only[yaP];have:=k 0;have:=k 1;have:=k 2;have:=k 3;have:=k 4;have:=k 5;have:=k 6;have:=k 7;have:=k 8;have:=k 9;omega
theorem f2d {l:List Hold} {x:Item} {branch day:Int} {vlocal:Bool} (hl:l.length<1000000) (h20:(l.filter (a0b x.Record day)).length<20) (hr:∀x∈l,rng 0 9 x.Rank=true) :
 qa6 l x branch day vlocal=some (b2t branch vlocal x (s7 (l.filter (a0b x.Record day))) 0):=by
 unfold qa6;rw[h18 hl h20 hr];have hq:(s7 (l.filter (a0b x.Record day))).length<1000:=by have:=a78 (q:=l.filter (a0b x.Record day));omega
 generalize s7 (l.filter (a0b x.Record day))=q at hq ⊢;have h:=a1u (step:=b5n) (fun i f=>(branch,vlocal,f,q,(q.length:Int),(i:Int),x,())) q
  (fun _ h f=>match b4h branch vlocal x h f with | .inl f=>.inl f | .inr v=>.inr (.inr (v,()))) (fun f=>.inl (f,())) (by rw[m7];omega)
  (fun f=>by simp only[b5n,dge,yaa])
  (fun i y f hx=>by
   have hlt:=(zL hx)
   simp -zeta only[b5n,dlt hlt,d8,hx,yac,a0i,o5,f7 (show i<9223372036854775807 by omega)];unfold b4h;dsimp only;cases (!(y.Item==0)&&!(y.Item==x.ID)) with
   |true=>rfl
   |false=>
    cases (!vlocal||y.Pickup==branch) with
    |true=>rfl
    |false=>cases f==0<;>rfl) 0
 obtain ⟨r,r1,r2⟩:=d2l (branch:=branch) (vlocal:=vlocal) (x:=x) (fun f=>(.inl (f,()):(Int×Unit)⊕(Int×Unit))) (fun v=>.inr (v,())) (fun _=>trivial) q 0 0;rw[r2]at h;simp only;rw[show c9 b5n (branch,vlocal,0,q,(q.length:Int),0,x,())=_ from h,←r1];cases r<;>rfl
theorem g9y {l:List Hold} {x:Item} {branch day:Int} {vlocal:Bool} (hl:l.length<1000000) (hsort:∀i x,l[i]?=some x→p8 l i (fun y=>decide (x.ID≤y.ID))=false) :
 qfp l x branch day vlocal=some (a7u branch vlocal x (s7 (l.filter (a0b x.Record day))) 0):=by
 unfold qfp;rw[g9w hl];have hq:(s7 (l.filter (a0b x.Record day))).length<100000000:=by
  have:=a78 (q:=l.filter (a0b x.Record day));have:=yax (a0b x.Record day) l;omega
 have hm:∀h∈s7 (l.filter (a0b x.Record day)),h∈l:=fun h hh=>(yaS.1 (a5f hh)).1
 generalize s7 (l.filter (a0b x.Record day))=q at hq hm ⊢;have h:=a1u (step:=c2j) (fun i f=>(l,branch,vlocal,q.map (fun x=>x.ID),f,(i:Int),x,())) q
  (fun _ h f=>match c18 branch vlocal x h f with | .inl f=>.inl f | .inr v=>.inr (.inr (v,()))) (fun f=>.inl (f,())) (by rw[m7];omega)
  (fun f=>by
   have d:decide ((q.length:Int)<((q.map (fun x=>x.ID)).length:Int))=false:=by rw[yag,ya1];omega
   simp only[c2j,d,yaa])
  (fun i y f hx=>by
   have hlt:=(zL hx)
   have d:decide ((i:Int)<((q.map (fun x=>x.ID)).length:Int))=true:=by rw[yae,ya1];omega
   have gx:(q.map (fun x=>x.ID))[i]?=some y.ID:=by rw[yaM,hx];rfl
   simp -zeta only[c2j,d,d8,gx,yac,a0i,o5,c92 (show l.length<1000000000 by omega),a8h hsort (hm y (yaf hx)),f7 (show i<9223372036854775807 by omega)];unfold c18;dsimp only;cases (!(y.Item==0)&&!(y.Item==x.ID)) with
   |true=>rfl
   |false=>
    cases (vlocal&&y.Pickup==branch) with
    |true=>rfl
    |false=>cases f==0<;>rfl) 0
 obtain ⟨r,r1,r2⟩:=d2m (branch:=branch) (vlocal:=vlocal) (x:=x) (fun f=>(.inl (f,()):(Int×Unit)⊕(Int×Unit))) (fun v=>.inr (v,())) (fun _=>trivial) q 0 0;rw[r2]at h;simp only;rw[show c9 c2j (l,branch,vlocal,q.map (fun x=>x.ID),0,0,x,())=_ from h,←r1];cases r<;>rfl
theorem d1n {c:Circ} (h:FitP c) {o:Hold} (ho:o∈c.Holds):rng 0 9 o.Rank=true∧o.ID≠0:=by
 have:=a01 h.holds ho;unfold m6 at this;have:=z7 this (by decide);simp only[yai,yag]at this;obtain ⟨⟨hx,h1⟩,h2⟩:=this;refine ⟨by rw[y2];omega,?_⟩;have:=hx.1.1.1.1.1.1.1.1.1.1;omega
structure MidW (c:Circ):Prop where
 short:Short c
 moves:c.Moves.length≤2000
 holds:c.Holds.length≤64
 loans:c.Loans.length≤64
 few:∀r,(c.Holds.filter (fun o=>o.Record==r)).length<20
theorem SmallP.w {c:Circ} (h:SmallP c):MidW c:=by
 have h1:=h.moves;have h2:=h.holds;have h3:=h.loans;exact ⟨h.short,by omega,by omega,by omega,fun r=>by have:=yax (fun o:Hold=>o.Record==r) c.Holds;omega⟩
end
section
end
section
def u9 (c:Circ) (l:List Hold):Circ:=⟨c.Today,c.Items,c.Patrons,c.Loans,l,c.Charges,c.Rules,c.Cals,c.Moves,c.NextHold,c.NextCharge,c.Local⟩
theorem b7l (c:Circ) (l:List Hold):qb3 l 0 ⟨c,0⟩=some ((),⟨u9 c l,0⟩):=rfl
theorem a48 (c:Circ) (l:List Hold) (e:Int) (he:e≠0):qb3 l e ⟨c,0⟩=some ((),⟨u9 c c.Holds,e⟩):=by
 have h:(e==0)=false:=by simpa using he
 unfold qb3 qu;simp only[h,yaq,yac,yal,yaa]
 try rfl
end
section
def b4o {X:Type} (i:Int) (upd:X→X):Nat→List X→List X
 |_,[]=>[]
 |k,x::l=>(bif (k:Int)==i then upd x else x)::b4o i upd (k+1) l
theorem d3m {X:Type} {i:Nat} {upd:X→X}:∀{l:List X} {k:Nat},i<k→b4o (i:Int) upd k l=l:=by
 intro l
 induction l with
 |nil=>intros;rfl
 |cons x l ih=>
  intro k h;have:((k:Int)==(i:Int))=false:=by
   have hne:¬(k:Int)=(i:Int):=by omega
   simpa using hne
  simp only[b4o,this,yaa];rw[ih (by omega)]
theorem e3j {X:Type} {upd:X→X} {x:X}:∀{l:List X} {k j:Nat},l[j]?=some x→b4o ((k+j:Nat):Int) upd k l=l.set j (upd x):=by
 intro l
 induction l with
 |nil=>intro k j h;simp at h
 |cons y l ih=>
  intro k j h;cases j with
  |zero=>
   simp at h;subst h;have:((k:Int)==((k+0:Nat):Int))=true:=by simp
   simp only[b4o,this,yac,List.set_cons_zero];rw[d3m (by omega)]
  |succ j=>
   have hne:((k:Int)==((k+(j+1):Nat):Int))=false:=by
    have:¬(k:Int)=((k+(j+1):Nat):Int):=by omega
    simpa using this
   simp only[b4o,hne,yaa,List.set_cons_succ];have:=ih (k:=k+1) (j:=j) (by simpa using h);rw[show k+1+j=k+(j+1) by omega]at this;rw[this]
theorem e04 {X β:Type} {i:Int} {upd:X→X} {g:List X→β}:∀{l:List X} {k:Nat} {s:List X},a04 (fun (k:Nat) x (s:List X)=>.inl (s++[bif (k:Int)==i then upd x else x])) g k l s=g (s++b4o i upd k l):=by
 intro l
 induction l with
 |nil=>intro k s;simp[a04,b4o]
 |cons x l ih=>intro k s;simp only[a04,b4o];rw[ih];simp
def t8 (u:Custody) (x:Item):Item:=⟨x.ID,x.Record,x.Branch,x.Kind,x.Price,x.Call,u⟩
def p7 (c:Circ) (i:Nat) (x:Item) (m:Move) (u:Custody):Circ:=⟨c.Today,c.Items.set i (t8 u x),c.Patrons,c.Loans,c.Holds,c.Charges,c.Rules,c.Cals,c.Moves++[m],c.NextHold,c.NextCharge,c.Local⟩
def b0g (c:Circ) (e:Int):Int:=bif e==0&&decide (2000≤(c.Moves.length:Int)) then 13 else e
theorem a9v {c:Circ} {i:Nat} {x:Item} {kind branch who:Int} (hs:Short c) (hm:c.Moves.length<100000000) (hx:c.Items[i]?=some x) :
 qbi (i:Int) kind branch who ⟨c,0⟩=some ((),bif b0g c (m5 x.Custody ⟨c.Today,x.ID,kind,branch,who⟩).2==0 then ⟨p7 c i x ⟨c.Today,x.ID,kind,branch,who⟩ (m5 x.Custody ⟨c.Today,x.ID,kind,branch,who⟩).1,0⟩ else ⟨c,b0g c (m5 x.Custody ⟨c.Today,x.ID,kind,branch,who⟩).2⟩):=by
 have hc1:qc5 c.Items=some c.Items:=by unfold qc5;rw[b0k hs.items];rfl
 have hc2:qdk c.Moves=some c.Moves:=by unfold qdk;rw[b0k hs.moves];rfl
 have l1:decide (c.Moves.length+([(⟨c.Today,x.ID,kind,branch,who⟩:Move)]:List Move).length≤LIM)=true:=a4o (by simp;omega);unfold qbi b0g;simp -zeta only[yal,yam,yaa,d8,hx,f2r,o5];generalize m5 x.Custody ⟨c.Today,x.ID,kind,branch,who⟩=q;obtain ⟨u,e⟩:=q;dsimp only;cases hb:(e==0&&decide (2000≤(c.Moves.length:Int))) with
 |true=>
  simp only[yac,qu,yal]
  try rfl
 |false=>
  simp only[yaa];cases he:e==0 with
  |true=>
   have:e=0:=by simpa using he
   subst this;simp only[yam,yaa,yac,hc1,hc2,d8,hx,yaI,l1]
   try rfl
  |false=>
   simp only[yaq,yac,yaa,qu,yal]
theorem c5n {c:Circ} {i:Nat} {m:Move} {u:Custody} (hs:Short c):c9 a9i ((i:Int),0,c,o7,m,u,[],())=some (c,o7,m,b4o (i:Int) (t8 u) 0 c.Items,()):=by
 have h:=n9 (step:=a9i) (fun (k:Nat) (s:List Item)=>s.length≤k) (fun k s=>((i:Int),(k:Int),c,o7,m,u,s,())) c.Items
  (fun k x s=>.inl (s++[bif (k:Int)==(i:Int) then t8 u x else x])) (fun s=>(c,o7,m,s,())) (by rw[m7];have:=hs.items;omega)
  (fun s _=>by simp only[a9i,dge,yaa])
  (fun k x s hx hi=>by
   have hlt:=(zL hx)
   have:=hs.items;have l1:∀y:Item,decide (s.length+([y]:List Item).length≤LIM)=true:=fun y=>a4o (by simp;omega)
   refine ⟨?_,fun s' hs'=>?_⟩
   ·simp only[a9i,dlt hlt,d8,hx,yac,l1,f7 (show k<9223372036854775807 by omega)];cases (k:Int)==(i:Int)<;>rfl
   ·cases hs'
    simp;omega) [] (by simp)
 rw[e04]at h;exact h
theorem f28 {c:Circ} {item:Int} {i:Nat} {x:Item} {kind branch who:Int} (hs:Short c) (hm:c.Moves.length<100000000) (hat:qq c item=some (i:Int)) (hx:c.Items[i]?=some x) (hid:x.ID=item) :
 qfb c item kind branch who=some (bif b0g c (m5 x.Custody ⟨c.Today,x.ID,kind,branch,who⟩).2==0 then (p7 c i x ⟨c.Today,x.ID,kind,branch,who⟩ (m5 x.Custody ⟨c.Today,x.ID,kind,branch,who⟩).1,0) else (o7,b0g c (m5 x.Custody ⟨c.Today,x.ID,kind,branch,who⟩).2)):=by
 subst hid;unfold qfb b0g;rw[hat];simp only[d8,hx,f2m];generalize m5 x.Custody ⟨c.Today,x.ID,kind,branch,who⟩=q;obtain ⟨u,e⟩:=q;simp only;cases he:e==0 with
 |false=>simp only[yaq,yac,ya9,yaa,he];rfl
 |true=>
  have:e=0:=by simpa using he
  subst this;simp only[yam,yaa,yaQ];cases decide (2000≤(c.Moves.length:Int)) with
  |true=>rfl
  |false=>
   have hw:=c5n (i:=i) (m:=⟨c.Today,x.ID,kind,branch,who⟩) (u:=u) hs;have l1:decide (c.Moves.length≤LIM)=true:=by rw[yae];unfold LIM;omega
   have l2:decide (c.Moves.length+([(⟨c.Today,x.ID,kind,branch,who⟩:Move)]:List Move).length≤LIM)=true:=a4o (by simp;omega);have es:=e3j (upd:=t8 u) (l:=c.Items) (k:=0) (j:=i) hx;rw[yaH]at es;rw[es]at hw;simp only[yaa];rw[show c9 a9i ((i:Int),0,c,ZN,(⟨c.Today,x.ID,kind,branch,who⟩:Move),u,([]:List Item),())=_ from hw];simp only[l1,l2,yac]
   try rfl
end
section
theorem c2a {branch:Int} {vlocal:Bool} {x:Item}:∀{q:List Hold} {f:Int},a7u branch vlocal x q f=f∨∃h∈q,a7u branch vlocal x q f=h.ID:=by
 intro q
 induction q with
 |nil=>intro f;exact .inl rfl
 |cons h q ih=>
  intro f;have lift:∀g:Int,(a7u branch vlocal x q g=g∨∃o∈q,a7u branch vlocal x q g=o.ID)→(g=f∨g=h.ID)→(a7u branch vlocal x q g=f∨∃o∈h::q,a7u branch vlocal x q g=o.ID):=by
   intro g hg hgf;rcases hg with hg|⟨o,ho,hg⟩
   ·rcases hgf with e|e
    ·exact .inl (by rw[hg,e])
    ·exact .inr ⟨h,yaE ..,by rw[hg,e]⟩
   ·exact .inr ⟨o,yaR _ ho,hg⟩
  simp only[a7u,c18];cases (!(h.Item==0)&&!(h.Item==x.ID)) with
  |true=>exact lift f ih (.inl rfl)
  |false=>
   cases (vlocal&&h.Pickup==branch) with
   |true=>exact .inr ⟨h,yaE ..,rfl⟩
   |false=>
    cases f==0 with
    |true=>exact lift h.ID ih (.inr rfl)
    |false=>exact lift f ih (.inl rfl)
end
section
end
section
end
section
theorem b7o (c:Circ) (n e0:Int) (h0:e0≠0):qck n ⟨c,e0⟩=some ((o7,0,e0),⟨c,e0⟩):=by
 have h:(e0==0)=false:=by simpa using h0
 unfold qck;simp only[h,yaq,yac]
 try rfl
theorem d63 (c:Circ) (n:Int):qck n ⟨c,0⟩=some ((c,n,0),⟨c,0⟩):=rfl
end
section
theorem c5e {c:Circ} {i:Nat} {x:Item} {m:Move} {u:Custody} (hs:Short c) (hm:c.Moves.length<100000000) (hx:c.Items[i]?=some x):Short (p7 c i x m u):=by
 obtain ⟨h1,h2,h3,h4,h5,h6,h7,h8,h9,h10,h11,h12,h13⟩:=hs;refine ⟨?_,h2,h3,h4,h5,h6,?_,fun z hz=>?_,h9,h10,h11,h12,h13⟩
 ·show (c.Items.set i _).length<_
  rw[List.length_set];exact h1
 ·show (c.Moves++[m]).length<_
  simp;omega
 ·rcases List.mem_or_eq_of_mem_set hz with h|h
  ·exact h8 z h
  ·rw[h];exact h8 x (yaf hx)
theorem b1w {c:Circ} {l:List Hold} (hs:Short c) (hl:l.length<1000000000):Short (u9 c l):=by
 obtain ⟨h1,h2,h3,h4,h5,h6,h7,h8,h9,h10,h11,h12,h13⟩:=hs;exact ⟨h1,h2,h3,hl,h5,h6,h7,h8,h9,h10,h11,h12,h13⟩
end
section
theorem a4x {c:Circ} {id:Int} (hs:Short c):qco id ⟨c,0⟩=some (a6w (fun x=>x.ID==id) c.Items,⟨c,bif decide (a6w (fun x=>x.ID==id) c.Items<0) then 9 else 0⟩):=by
 unfold qco;simp only[f2k hs.items];cases decide (a6w (fun x:Item=>x.ID==id) c.Items<0)<;>rfl
end
section
structure MidP (c:Circ):Prop where
 short:Short c
 moves:c.Moves.length<10000000
 holdsN:c.Holds.length<1000000
 sorted:∀(i:Nat) (x:Hold),c.Holds[i]?=some x→p8 c.Holds i (fun y=>decide (x.ID≤y.ID))=false
 rank:∀o∈c.Holds,rng 0 9 o.Rank=true∧o.ID≠0
 few:∀r,(c.Holds.filter (fun o=>o.Record==r)).length<20
 cal:∀b,CalOk (f4p c b)
 rules:∀r∈c.Rules,a6q r=true
 branch:∀x∈c.Items,rng 1 4 x.Custody.Branch=true
 ids:∀(i:Nat) (x:Item) (j:Nat) (y:Item),c.Items[i]?=some x→c.Items[j]?=some y→x.ID=y.ID→i=j
 chN:c.Charges.length<1000000
theorem a7i {c:Circ} (h:MidP c) {i:Nat} {x:Item} (hx:c.Items[i]?=some x):qq c x.ID=some (i:Int):=by
 rw[e0k h.short.items];rcases o6 (fun y:Item=>y.ID==x.ID) c.Items with ⟨h1,h2⟩|⟨j,y,h1,h2,h3,h4⟩
 ·have:=ybs.1 h2 x (yaf hx);simp at this
 ·rw[h1,h.ids i x j y hx h2 (by simpa using (by simpa using h3:y.ID=x.ID).symm)]
theorem a1r {X Y:Type} {f:X→Y} {l:List X} {j:Nat} {x y:X} (hx:l[j]?=some x) (hf:f y=f x):(l.set j y).map f=l.map f:=by
 rw[List.map_set,hf];apply List.ext_getElem?;intro k;rw[List.getElem?_set];split
 ·rename_i e;subst e;split
  ·rw[yaM,hx];rfl
  ·rename_i hk;have:=(zL hx)
   exact absurd (by simpa using this) hk
 ·rfl
theorem f9s {l m:List Item} (e:m.map (fun x=>x.ID)=l.map (fun x=>x.ID)) (h:∀(i:Nat) (x:Item) (j:Nat) (y:Item),l[i]?=some x→l[j]?=some y→x.ID=y.ID→i=j) :
 ∀(i:Nat) (x:Item) (j:Nat) (y:Item),m[i]?=some x→m[j]?=some y→x.ID=y.ID→i=j:=by
 have key:∀(i:Nat) (x:Item),m[i]?=some x→∃x',l[i]?=some x'∧x'.ID=x.ID:=by
  intro i x hx;have h1:(m.map (fun x=>x.ID))[i]?=some x.ID:=by rw[yaM,hx];rfl
  rw[e,yaM]at h1;cases hl:l[i]? with
  |none=>rw[hl]at h1;cases h1
  |some x'=>rw[hl]at h1;exact ⟨x',rfl,by simpa using h1⟩
 intro i x j y hx hy hxy;obtain ⟨x',hx',ex⟩:=key i x hx;obtain ⟨y',hy',ey⟩:=key j y hy;exact h i x' j y' hx' hy' (by rw[ex,ey,hxy])
theorem d9f {c:Circ} (h:MidP c) {i:Nat} {x:Item} (hx:c.Items[i]?=some x) {m:Move} {u:Custody} (hu:rng 1 4 u.Branch=true) (hl:c.Moves.length<5000000):MidP (p7 c i x m u):=by
 refine ⟨c5e h.short (by omega) hx,?_,h.holdsN,h.sorted,h.rank,h.few,h.cal,h.rules,fun y hy=>?_,?_,h.chN⟩
 ·show (c.Moves++[m]).length<_
  simp;omega
 ·rcases List.mem_or_eq_of_mem_set hy with hy|hy
  ·exact h.branch y hy
  ·rw[hy];exact hu
 ·exact f9s (a1r hx rfl) h.ids
theorem b31 {c:Custody} {m:Move} {u:Custody} (h:m5 c m=(u,0)):rng 1 4 u.Branch=true:=by
 have:=a73 (c:=c) (m:=m) (by rw[h];rfl);rw[h]at this;exact this
theorem a4z {c:Circ} (h:MidP c) {i:Nat} {x:Item} (hx:c.Items[i]?=some x) (kind branch who:Int) :
 (∃u,m5 x.Custody ⟨c.Today,x.ID,kind,branch,who⟩=(u,0)∧qbi (i:Int) kind branch who ⟨c,0⟩=some ((),⟨p7 c i x ⟨c.Today,x.ID,kind,branch,who⟩ u,0⟩)∧
  qfb c x.ID kind branch who=some (p7 c i x ⟨c.Today,x.ID,kind,branch,who⟩ u,0)∧MidP (p7 c i x ⟨c.Today,x.ID,kind,branch,who⟩ u))∨
 (∃e,e≠0∧qbi (i:Int) kind branch who ⟨c,0⟩=some ((),⟨c,e⟩)∧qfb c x.ID kind branch who=some (o7,e)):=by
 have hmv:=h.moves;have dm:=a9v (kind:=kind) (branch:=branch) (who:=who) h.short (by omega) hx;have rm:=f28 (kind:=kind) (branch:=branch) (who:=who) h.short (by omega) (a7i h hx) hx rfl;rw[dm,rm];cases ha:m5 x.Custody ⟨c.Today,x.ID,kind,branch,who⟩ with
 |mk u e=>
  by_cases hE:b0g c e=0
  ·left;simp only[hE,yal,yac];have he:e=0∧c.Moves.length<2000:=by
    unfold b0g at hE;cases hb:(e==0&&decide (2000≤(c.Moves.length:Int))) with
    |true=>rw[hb]at hE;cases hE
    |false=>
     rw[hb]at hE;simp only[yaa]at hE;subst hE;simp only[yal,yaQ,yag]at hb;exact ⟨rfl,by omega⟩
   obtain ⟨rfl,hlen⟩:=he;exact ⟨u,rfl,rfl,rfl,d9f h hx (b31 ha) (by omega)⟩
  ·right;have hE2:(b0g c e==0)=false:=by simpa using hE
   simp only[hE2,yaa];exact ⟨b0g c e,hE,rfl,rfl⟩
theorem b0v {c:Circ} (h:MidP c) {i:Nat} {x:Item} (hx:c.Items[i]?=some x):∃v,qch c x=some v∧qfi c x.ID=some v∧(d7g c.Holds v).2=!(v==0)∧(v≠0→∃o∈c.Holds,o.ID=v∧d7g c.Holds v=(o,true)∧a0b x.Record c.Today o=true):=by
 have hf:(c.Holds.filter (a0b x.Record c.Today)).length<20:=by
  have e:c.Holds.filter (a0b x.Record c.Today)=(c.Holds.filter (fun o=>o.Record==x.Record)).filter (a0b x.Record c.Today):=by
   rw[List.filter_filter];apply List.filter_congr;intro o _;unfold a0b;cases o.Record==x.Record<;>simp
  rw[e];have:=yax (a0b x.Record c.Today) (c.Holds.filter (fun o=>o.Record==x.Record));have:=h.few x.Record;omega
 have q1:=f2d (l:=c.Holds) (x:=x) (branch:=x.Custody.Branch) (day:=c.Today) (vlocal:=c.Local) h.holdsN hf (fun o ho=>(h.rank o ho).1);have q2:=g9y (l:=c.Holds) (x:=x) (branch:=x.Custody.Branch) (day:=c.Today) (vlocal:=c.Local) h.holdsN h.sorted;rw[d9m (fun o ho=>(h.rank o (yaS.1 (a5f ho)).1).2) (fun _=>rfl)]at q1;refine ⟨_,by unfold qch;rw[q1],by unfold qfi;rw[a7i h hx];simp only[d8,hx,q2],?_,?_⟩
 ·rcases c2a (branch:=x.Custody.Branch) (vlocal:=c.Local) (x:=x) (q:=s7 (c.Holds.filter (a0b x.Record c.Today))) (f:=0) with e|⟨o,ho,e⟩
  ·rw[e];unfold d7g;have:c.Holds.find? (fun h=>h.ID==0)=none:=by
    rw[ybs];intro o ho;have:=(h.rank o ho).2;simpa using this
   rw[this]
   try rfl
  ·rw[e];have hm:=(yaS.1 (a5f ho)).1;rw[a8h h.sorted hm];have:=(h.rank o hm).2;simp[this]
 ·intro hv;rcases c2a (branch:=x.Custody.Branch) (vlocal:=c.Local) (x:=x) (q:=s7 (c.Holds.filter (a0b x.Record c.Today))) (f:=0) with e|⟨o,ho,e⟩
  ·exact absurd e hv
  ·have hm:=yaS.1 (a5f ho);exact ⟨o,hm.1,e.symm,by rw[e];exact a8h h.sorted hm.1,hm.2⟩
end
section
theorem g8a {α:Type} (a b:Bool) (x y:α):(bif a then (bif b then x else y) else y)=bif a&&b then x else y:=by cases a<;>rfl
def okS (state u:Int):Bool:=(state==3&&rng 1 109572 u)||(state==2&&u==0)
def b44 (x:Hold) (item state u:Int):Hold:=⟨x.ID,x.Patron,x.Record,x.Item,x.Pickup,x.Placed,state,item,u,x.Asleep,x.Rank⟩
def a2r (l:List Hold) (id item state u:Int):List Hold×Int:=
 match l.find? (fun h=>h.ID==id) with
 |none=>([],9)
 |some x=>bif !(rng 1 9999 item)||!(okS state u) then ([],1)
  else bif !(x.State==1)&&((!(x.State==2)||!(x.Got==item))||!(state==3)) then ([],12)
  else bif l.any (fun o=>o.Got==item&&!(o.ID==id)) then ([],7)
  else (l.set (a6w (fun h=>h.ID==id) l).toNat (b44 x item state u),0)
theorem d1c {l:List Hold} (hl:l.length<1000000000):qcl l=some l:=by
 unfold qcl;rw[b0k hl];rfl
theorem f2v {l:List Hold} {i:Nat} {x y:Hold} (hl:l.length<1000000000) (hx:l[i]?=some x):qcz l (i:Int) y=some (l.set i y):=by
 unfold qcz;simp only[d1c hl,d8,hx,yaI]
theorem g1h (state u:Int):(!(okS state u))=(!(state==3&&rng 1 109572 u)&&(!(state==2)||!(u==0))):=by
 unfold okS;cases (state==3&&rng 1 109572 u)<;>cases state==2<;>cases u==0<;>rfl
theorem f2c {l:List Hold} {id item state u:Int} (hl:l.length<1000000000):qa5 l id item state u=some (a2r l id item state u):=by
 unfold qa5 qbq a2r;rw[c2e (p:=fun (g:Unit×Int×Unit) x0=>qdb x0 g.2.1) (g:=((),(id,()))) (fun x=>x.ID==id) hl (fun x _=>rfl)];have hc:=g1w (p:=fun (g:Unit×Int×Int×Unit) x0=>qbz x0 g.2.1 g.2.2.1) (g:=((),(item,id,()))) (fun o=>o.Got==item&&!(o.ID==id)) hl (fun o _=>by
  simp -zeta only[qbz,o5];rfl)
 rcases o6 (fun x:Hold=>x.ID==id) l with ⟨h1,h2⟩|⟨i,x,h1,h2,h3,h4⟩
 ·simp only[h1,h2,a88,yac]
 ·simp -zeta only[h1,h4,a39,yaa,d8,h2,d9z,a0i,o5,a9c,yaI];dsimp only;rw[g1h];cases (!(rng 1 9999 item)||(!(state==3&&rng 1 109572 u)&&(!(state==2)||!(u==0)))) with
  |true=>rfl
  |false=>
   simp only[yaa,g8a];cases (!(x.State==1)&&((!(x.State==2)||!(x.Got==item))||!(state==3))) with
   |true=>rfl
   |false=>
    simp only[yaa,hc];cases l.any (fun o=>o.Got==item&&!(o.ID==id)) with
    |true=>rfl
    |false=>simp only[yaa,f2v hl h2];rfl
theorem e0a {l:List Hold} {y:Hold} (hl:l.length<1000000000):qfo l y=some (l.map (fun x=>bif x.ID==y.ID then y else x)):=by
 have h:=n9 (step:=c2i) (fun (i:Nat) (s:List Hold)=>s.length≤i) (fun i s=>(l,(i:Int),y,s,())) l
  (fun i x s=>.inl (s++[bif x.ID==y.ID then y else x])) (fun s=>(s,())) (by rw[m7];omega)
  (fun s _=>by simp only[c2i,dge,yaa])
  (fun i x s hx hi=>by
   have hlt:=(zL hx)
   have l1:∀z:Hold,decide (s.length+([z]:List Hold).length≤LIM)=true:=fun z=>a4o (by simp;omega)
   refine ⟨?_,fun s' hs'=>?_⟩
   ·simp only[c2i,dlt hlt,d8,hx,yac,l1,f7 (show i<9223372036854775807 by omega)];cases x.ID==y.ID<;>rfl
   ·cases hs'
    simp;omega) [] (by simp)
 rw[a1y]at h;unfold qfo;rw[show c9 c2i (l,0,y,([]:List Hold),())=_ from h];simp only;congr 1;have key:∀(l o:List Hold),l.foldl (fun s x=>s++[bif x.ID==y.ID then y else x]) o=o++l.map (fun x=>bif x.ID==y.ID then y else x):=by
  intro l
  induction l with
  |nil=>intro o;simp
  |cons x l ih=>intro o;rw[ybn,ih];simp
 rw[key,ya7]
theorem a62 {l:List Hold} (hsort:∀i x,l[i]?=some x→p8 l i (fun y=>decide (x.ID≤y.ID))=false) {i:Nat} {x y:Hold} (hx:l[i]?=some x) (hy:y.ID=x.ID):l.map (fun z=>bif z.ID==y.ID then y else z)=l.set i y:=by
 apply List.ext_getElem?;intro j;rw[yaM,List.getElem?_set];have hlt:=(zL hx)
 split
 ·rename_i e;subst e;simp only[hx,ybF,hlt,yby,hy,yal,yac]
 ·rename_i e;cases hj:l[j]? with
  |none=>rfl
  |some z=>
   have hne:¬z.ID=y.ID:=by
    rw[hy];rcases Nat.lt_or_gt_of_ne e with h|h
    ·have:=a19 (key:=fun y:Hold=>y.ID) hsort j i x z h hx hj;omega
    ·have:=a19 (key:=fun y:Hold=>y.ID) hsort i j z x h hj hx;omega
   have hb:(z.ID==y.ID)=false:=by simpa using hne
   simp only[ybF,hb,yaa]
theorem g1g (state u:Int):((!(state==2)&&!(state==3))||(state==3&&(decide (u<1)||!(rng 0 109572 u)))||(state==2&&!(u==0)))=!(okS state u):=by
 unfold okS;by_cases h3:state=3
 ·subst h3;unfold rng;by_cases h1:u<1
  ·have:¬1≤u:=by omega
   simp[h1,this]
  ·have a:1≤u:=by omega
   have b:0≤u:=by omega
   simp[h1,a,b]
 ·have e3:(state==3)=false:=by simpa using h3
  rw[e3];cases state==2<;>cases u==0<;>rfl
theorem c91 {l:List Hold} {id item state u:Int} (hl:l.length<1000000000) (hsort:∀i x,l[i]?=some x→p8 l i (fun y=>decide (x.ID≤y.ID))=false):qfd l id item state u=some (a2r l id item state u):=by
 unfold qfd a2r;rw[c92 hl];unfold d7g;rcases o6 (fun x:Hold=>x.ID==id) l with ⟨h1,h2⟩|⟨i,x,h1,h2,h3,h4⟩
 ·rw[h2];rfl
 ·have hxid:x.ID=id:=by simpa using h3
  have hw:=u7 (step:=c2h) (fun i=>(l,id,item,state,u,(i:Int),x,())) l (fun o=>!(o.ID==id)&&o.Got==item) (fun _ _=>(.inr ([],7,()):(List Hold×Int×Int×Int×Hold×Unit)⊕(List Hold×Int×Unit))) (.inl (l,item,state,u,x,())) hl
   (by simp only[c2h,dge,yaa])
   (fun j y hy=>by
    have hlt:=(zL hy)
    simp -zeta only[c2h,dlt hlt,d8,hy,yac,o5,f7 (show j<9223372036854775807 by omega)];rfl)
  rw[a9a]at hw;rw[h4];simp -zeta only[yam,yaa,f2x,f22,a0i,o5,a9c,h1,yaI];dsimp only;rw[←g1g];have eb:∀a b c d:Bool,((a||b||c)||d)=(a||(b||c||d)):=by decide
  cases hq:(!(rng 1 9999 item)||(!(state==2)&&!(state==3)||(state==3&&(decide (u<1)||!(rng 0 109572 u)))||(state==2&&!(u==0)))) with
  |true=>
   rw[←eb]at hq;rw[hq]
   try rfl
  |false=>
   rw[←eb]at hq;rw[hq];simp only[yaa,g8a];cases (!(x.State==1)&&((!(x.State==2)||!(x.Got==item))||!(state==3))) with
   |true=>rfl
   |false=>
    simp only[yaa];rw[show c9 c2h (l,id,item,state,u,0,x,())=_ from hw];have ea:l.any (fun o=>o.Got==item&&!(o.ID==id))=(l.find? (fun o=>!(o.ID==id)&&o.Got==item)).isSome:=by
     rw[ybG,List.find?_isSome,ybV];constructor
     ·rintro ⟨o,ho,hp⟩;exact ⟨o,ho,by rw[Bool.and_comm];exact hp⟩
     ·rintro ⟨o,ho,hp⟩;exact ⟨o,ho,by rw[Bool.and_comm];exact hp⟩
    rw[ea];cases l.find? (fun o=>!(o.ID==id)&&o.Got==item) with
    |some o=>rfl
    |none=>
     simp only[ybZ,yaa];have:=e0a (l:=l) (y:=b44 x item state u) hl;rw[a62 hsort h2 (y:=b44 x item state u) rfl]at this;rw[show qfo l (⟨x.ID,x.Patron,x.Record,x.Item,x.Pickup,x.Placed,state,item,u,x.Asleep,x.Rank⟩:Hold)=_ from this]
def a1n (o:Hold):Int×Int×Int:=(o.ID,o.Rank,o.Record)
theorem a6i {c:Circ} (h:MidP c) {l:List Hold} (e:l.map a1n=c.Holds.map a1n):MidP (u9 c l):=by
 have hlen:l.length=c.Holds.length:=by have:=congrArg List.length e;simpa using this
 have key:∀(i:Nat) (x:Hold),l[i]?=some x→∃x',c.Holds[i]?=some x'∧a1n x'=a1n x:=by
  intro i x hx;have h1:(l.map a1n)[i]?=some (a1n x):=by rw[yaM,hx];rfl
  rw[e,yaM]at h1;cases hl:c.Holds[i]? with
  |none=>rw[hl]at h1;cases h1
  |some x'=>rw[hl]at h1;exact ⟨x',rfl,by simpa using h1⟩
 refine ⟨b1w h.short (by rw[hlen];exact h.short.holds),h.moves,?_,?_,?_,?_,h.cal,h.rules,h.branch,h.ids,h.chN⟩
 ·show l.length<_;rw[hlen];exact h.holdsN
 ·intro i x hx;obtain ⟨x',hx',ek⟩:=key i x hx;have hs:=h.sorted i x' hx';cases i with
  |zero=>rfl
  |succ j=>
   show p8 l (j+1) _=false
   unfold p8 at hs ⊢;simp only at hs ⊢;cases hj:l[j]? with
   |none=>rfl
   |some y=>
    obtain ⟨y',hy',ey⟩:=key j y hj;rw[hy']at hs;unfold a1n at ek ey;simp only[ya4]at ek ey;simp only at hs;rw[ek.1,ey.1]at hs;exact hs
 ·intro o ho;obtain ⟨i,hi⟩:=yaF ho;obtain ⟨x',hx',ek⟩:=key i o hi;have:=h.rank x' (yaf hx');unfold a1n at ek;simp only[ya4]at ek;rw[←ek.1,←ek.2.1];exact this
 ·intro r;have e1:∀m:List Hold,(m.filter (fun o=>o.Record==r)).length=((m.map a1n).filter (fun k=>k.2.2==r)).length:=by
   intro m;rw[List.filter_map,ya1]
   try rfl
  show (l.filter (fun o=>o.Record==r)).length<20
  rw[e1,e,←e1];exact h.few r
theorem b4s {l:List Hold} {id item state u:Int} (h:(a2r l id item state u).2=0):(a2r l id item state u).1.map a1n=l.map a1n:=by
 unfold a2r at h ⊢;rcases o6 (fun x:Hold=>x.ID==id) l with ⟨h1,h2⟩|⟨i,x,h1,h2,h3,h4⟩
 ·rw[h2]at h;cases h
 ·rw[h4]at h ⊢;simp only at h ⊢;cases hq:(!(rng 1 9999 item)||!(okS state u)) with
  |true=>rw[hq]at h;cases h
  |false=>
   rw[hq]at h;simp only[yaa]at h ⊢;cases hq2:(!(x.State==1)&&((!(x.State==2)||!(x.Got==item))||!(state==3))) with
   |true=>rw[hq2]at h;cases h
   |false=>
    rw[hq2]at h;simp only[yaa]at h ⊢;cases hq3:l.any (fun o=>o.Got==item&&!(o.ID==id)) with
    |true=>rw[hq3]at h;cases h
    |false=>
     simp only[yaa,h1,yaI];exact a1r h2 rfl
end
section
structure Frame (c d:Circ):Prop where
 ids:d.Items.map (fun x=>x.ID)=c.Items.map (fun x=>x.ID)
 holds:d.Holds.map a1n=c.Holds.map a1n
 patrons:d.Patrons=c.Patrons
 loans:d.Loans=c.Loans
 charges:d.Charges=c.Charges
 rules:d.Rules=c.Rules
 cals:d.Cals=c.Cals
 today:d.Today=c.Today
 here:d.Local=c.Local
 nh:d.NextHold=c.NextHold
 nc:d.NextCharge=c.NextCharge
 br:d.Items.map (fun x=>x.Custody.Branch)=c.Items.map (fun x=>x.Custody.Branch)
 recs:d.Items.map (fun x=>x.Record)=c.Items.map (fun x=>x.Record)
theorem Frame.refl (c:Circ):Frame c c:=⟨rfl,rfl,rfl,rfl,rfl,rfl,rfl,rfl,rfl,rfl,rfl,rfl,rfl⟩
theorem Frame.trans {a b c:Circ} (h:Frame a b) (k:Frame b c):Frame a c:=
 ⟨k.ids.trans h.ids,k.holds.trans h.holds,k.patrons.trans h.patrons,k.loans.trans h.loans,k.charges.trans h.charges,k.rules.trans h.rules,k.cals.trans h.cals,k.today.trans h.today,k.here.trans h.here,k.nh.trans h.nh,k.nc.trans h.nc,k.br.trans h.br,k.recs.trans h.recs⟩
theorem b2n {c:Circ} {i:Nat} {x:Item} (hx:c.Items[i]?=some x) (m:Move) {u:Custody} (hu:u.Branch=x.Custody.Branch):Frame c (p7 c i x m u):=
 ⟨a1r hx rfl,rfl,rfl,rfl,rfl,rfl,rfl,rfl,rfl,rfl,rfl,a1r hx hu,a1r hx rfl⟩
theorem b09 {c:Custody} {m:Move} {u:Custody} (h:m5 c m=(u,0)) (hk:(w9 m.Kind==2)=false):u.Branch=c.Branch:=by
 unfold m5 at h;cases e1:(!(a7c c)||!(a7d m)) with
 |true=>rw[e1]at h;cases h
 |false=>
  rw[e1]at h;simp only[yaa]at h;cases e2:!(a5e c.State m.Kind) with
  |true=>rw[e2]at h;cases h
  |false=>
   rw[e2]at h;simp only[yaa]at h;cases e3:(m.Kind==3&&c.State==5&&!(m.Who==c.Who)) with
   |true=>rw[e3]at h;cases h
   |false=>
    rw[e3]at h;simp only[yaa]at h;cases e4:!(b4i c m) with
    |true=>rw[e4]at h;cases h
    |false=>
     rw[e4]at h;simp only[yaa,hk]at h;cases e5:(w9 m.Kind==4||(w9 m.Kind==5||w9 m.Kind==8)) with
     |true=>rw[e5]at h;cases h;rfl
     |false=>
      rw[e5]at h;simp only[yaa]at h;cases e6:(w9 m.Kind==6) with
      |true=>rw[e6]at h;cases h;rfl
      |false=>
       rw[e6]at h;simp only[yaa]at h;cases e7:(w9 m.Kind==9||w9 m.Kind==10) with
       |true=>rw[e7]at h;cases h;rfl
       |false=>rw[e7]at h;cases h;rfl
theorem a6c {c:Circ} {l:List Hold} (e:l.map a1n=c.Holds.map a1n):Frame c (u9 c l):=⟨rfl,e,rfl,rfl,rfl,rfl,rfl,rfl,rfl,rfl,rfl,rfl,rfl⟩
def b82 (a:Option (Unit×Circ_desk)) (b:Option (Circ×Int)) (Q:Circ→Prop):Prop:=
 (∃c,a=some ((),⟨c,0⟩)∧b=some (c,0)∧Q c)∨∃c e,e≠0∧a=some ((),⟨c,e⟩)∧b=some (o7,e)∧Short c
def d30 (a b:Option (Circ×Int)):Prop:=∃c e,a=some (c,e)∧b=some (c,e)∧Short c
theorem a1c {e:Int}:d30 (some (o7,e)) (some (o7,e)):=⟨_,_,rfl,rfl,a3t⟩
theorem a0r (c:Circ) (e0:Int) (h0:e0≠0):qab ⟨c,e0⟩=some ((o7,e0),⟨c,e0⟩):=by
 have h:(e0==0)=false:=by simpa using h0
 unfold qab;simp only[h,yaq,yac]
 try rfl
theorem b7m {c:Circ} (h:MidP c) {b n:Int} (hb:rng 1 4 b=true):∃d e,qeh b n ⟨c,0⟩=some (d,⟨c,e⟩)∧qff (f4p c b) c.Today n=some (d,e):=by
 obtain ⟨d,e,hq⟩:=a9d (h.cal b) c.Today n;refine ⟨d,e,?_,hq⟩;unfold qeh;simp only[d91 hb,d9w (h.cal b),hq];by_cases he:e=0
 ·subst he;rfl
 ·have he2:(e==0)=false:=by simpa using he
  simp only[he2,yaq,yac,qu,yal]
theorem b35 {c:Circ} (h:MidP c) {b n e0:Int} (hb:rng 1 4 b=true) (h0:e0≠0):∃d,qeh b n ⟨c,e0⟩=some (d,⟨c,e0⟩):=by
 obtain ⟨d,e,hq⟩:=a9d (h.cal b) c.Today n;have h2:(e0==0)=false:=by simpa using h0
 refine ⟨d,?_⟩;unfold qeh;simp only[d91 hb,d9w (h.cal b),hq];cases e==0<;>simp only[yaq,yam,yac,yaa,qu,h2]
theorem b82.mono {a:Option (Unit×Circ_desk)} {b:Option (Circ×Int)} {Q R:Circ→Prop} (h:b82 a b Q) (hQ:∀d,Q d→R d):b82 a b R:=by
 rcases h with ⟨d,h1,h2,h3⟩|h
 ·exact .inl ⟨d,h1,h2,hQ d h3⟩
 ·exact .inr h
theorem b6o {c:Circ} (h:MidP c) {i:Nat} {x:Item} (hx:c.Items[i]?=some x) (o:Hold):b82 (qcn (i:Int) o ⟨c,0⟩) (qfa c x.ID o) (fun d=>(MidP d∧Frame c d)∧(∃u,d.Items=c.Items.set i (t8 u x))∧∃st u,a2r c.Holds o.ID x.ID st u=(d.Holds,0)):=by
 obtain ⟨r,b,hr,_⟩:=c6b (p:=o.Patron) (x:=x) h.short;have hb:=h.branch x (yaf hx);unfold qcn qfa;simp -zeta only[yal,yam,yaa,a7i h hx,d8,hx,d95 h.short,hr];rcases a4z h hx 5 x.Custody.Branch o.Patron with ⟨u,ha,m1,m2,hm2⟩|⟨e,he,m1,m2⟩
 ·have hf:=b2n hx ⟨c.Today,x.ID,5,x.Custody.Branch,o.Patron⟩ (b09 ha rfl);rw[m1,m2];have hh:(p7 c i x ⟨c.Today,x.ID,5,x.Custody.Branch,o.Patron⟩ u).Holds=c.Holds:=rfl;have hI:(p7 c i x ⟨c.Today,x.ID,5,x.Custody.Branch,o.Patron⟩ u).Items=c.Items.set i (t8 u x):=rfl;generalize p7 c i x ⟨c.Today,x.ID,5,x.Custody.Branch,o.Patron⟩ u=c2 at hm2 hf hh hI;dsimp only;have core:∀days:Int,∃d e,qeh x.Custody.Branch days ⟨c2,0⟩=some (d,⟨c2,e⟩)∧qff (f4p c2 x.Custody.Branch) c2.Today days=some (d,e):=fun days=>b7m hm2 hb
  cases b
  all_goals
   simp only[yac,yaa,yal,yam,e0d hb];obtain ⟨d,e,l1,l2⟩:=core _;rw[l1,l2];by_cases he:e=0
   ·subst he;simp only[yal,yam,yac,yaa,f2c hm2.short.holds,c91 hm2.short.holds hm2.sorted];have ck:=b4s (l:=c2.Holds) (id:=o.ID) (item:=x.ID) (state:=3) (u:=d);generalize hcq:a2r c2.Holds o.ID x.ID 3 d=q at ck;obtain ⟨l,e⟩:=q;by_cases he:e=0
    ·subst he;exact .inl ⟨u9 c2 l,rfl,rfl,⟨a6i hm2 (ck rfl),hf.trans (a6c (ck rfl))⟩,⟨u,hI⟩,3,d,by rw[←hh];exact hcq⟩
    ·have he2:(e==0)=false:=by simpa using he
     simp only[a48 c2 l e he,he2,yaq,yac];exact .inr ⟨_,e,he,rfl,rfl,hm2.short⟩
   ·have he2:(e==0)=false:=by simpa using he
    simp only[he2,yaq,yac,yaa];exact .inr ⟨_,e,he,rfl,rfl,hm2.short⟩
 ·have he2:(e==0)=false:=by simpa using he
  rw[m1,m2];dsimp only;cases b
  all_goals
   simp only[yac,yaa,he2,yaq];obtain ⟨d,l1⟩:=b35 (n:=_) h hb he;rw[l1];simp only[he2,yaa];exact .inr ⟨_,e,he,rfl,rfl,h.short⟩
theorem e0x {c:Circ} (h:MidP c) {i:Nat} {x:Item} (hx:c.Items[i]?=some x) (o:Hold):b82 (qcn (i:Int) o ⟨c,0⟩) (qfa c x.ID o) (fun d=>MidP d∧Frame c d):=(b6o h hx o).mono (fun _ h=>h.1)
theorem a9u {c:Circ} {i:Nat} {x:Item} (hx:c.Items[i]?=some x) (kind:Int):qbx (i:Int) kind ⟨c,0⟩=qbi (i:Int) kind x.Custody.Branch 0 ⟨c,0⟩:=by
 unfold qbx;simp only[yal,yac,d8,hx];cases qbi (i:Int) kind x.Custody.Branch 0 ⟨c,0⟩ with
 |none=>rfl
 |some p=>rfl
theorem a8a (c:Circ) (i e0:Int) (h0:e0≠0):qb8 i ⟨c,e0⟩=some ((),⟨c,e0⟩):=by
 have h:(e0==0)=false:=by simpa using h0
 unfold qb8;simp only[h,yaq,yac]
theorem b36 (c:Circ) (i e0:Int) (o:Hold) (h0:e0≠0):qcn i o ⟨c,e0⟩=some ((),⟨c,e0⟩):=by
 have h:(e0==0)=false:=by simpa using h0
 unfold qcn;simp only[h,yaq,yac]
theorem b8q {X:Type} {l:List X} {i:Nat} {x:X} (h:l[i]?=some x):l.set i x=l:=by
 obtain ⟨h1,h2⟩:=yaG.1 h;rw[←h2,List.set_getElem_self]
theorem b7t {l:List Hold} (hs:∀i x,l[i]?=some x→p8 l i (fun y=>decide (x.ID≤y.ID))=false) {o p:Hold} (ho:o∈l) (hp:p∈l) (e:o.ID=p.ID):o=p:=by
 have h1:=a8h hs ho;have h2:=a8h hs hp;rw[e,h2]at h1;cases h1
 try rfl
def Put (c d:Circ) (i:Nat) (x:Item):Prop:=(∃u,d.Items=c.Items.set i (t8 u x))∧∃v,qch c x=some v∧((v=0∧d.Holds=c.Holds)∨∃st u,a2r c.Holds v x.ID st u=(d.Holds,0)∧(st=3→∀o∈c.Holds,o.ID=v→o.Pickup=x.Custody.Branch))
theorem b1b {c:Circ} (h:MidP c) {i:Nat} {x:Item} (hx:c.Items[i]?=some x):b82 (qb8 (i:Int) ⟨c,0⟩) (qfk c x.ID) (fun d=>(MidP d∧Frame c d)∧Put c d i x):=by
 obtain ⟨v,p1,p2,g1,g2⟩:=b0v h hx;have mv:∀kind branch who:Int,(w9 kind==2)=false→b82 (qbi (i:Int) kind branch who ⟨c,0⟩) (qfb c x.ID kind branch who) (fun d=>(MidP d∧Frame c d)∧d.Holds=c.Holds∧∃u,d.Items=c.Items.set i (t8 u x)):=by
  intro kind branch who hk;rcases a4z h hx kind branch who with ⟨u,ha,m1,m2,hm2⟩|⟨e,he,m1,m2⟩
  ·exact .inl ⟨_,m1,m2,⟨hm2,b2n hx _ (b09 ha hk)⟩,rfl,u,rfl⟩
  ·exact .inr ⟨_,e,he,m1,m2,h.short⟩
 unfold qb8 qfk;simp -zeta only[yal,yam,yaa,a7i h hx,d8,hx,p1,p2,g9v h.short.holds,c92 h.short.holds,a9u hx,o5];by_cases hv:v=0
 ·subst hv;generalize d7g c.Holds 0=q at g1 ⊢;obtain ⟨o,ok⟩:=q;simp only[yal,yam]at g1;subst g1;dsimp only;simp only[yaq,yaQ,yal,yac];cases x.Branch==x.Custody.Branch with
  |false=>
   simp only[yaq,yac];rcases mv 6 x.Branch 0 rfl with ⟨d,m1,m2,hQ,hH,hI⟩|⟨d,e,he,m1,m2,hsd⟩
   ·rw[m1,m2];exact .inl ⟨d,rfl,rfl,hQ,hI,0,p1,.inl ⟨rfl,hH⟩⟩
   ·rw[m1,m2];exact .inr ⟨d,e,he,rfl,rfl,hsd⟩
  |true=>
   simp only[yam,yaa];cases x.Custody.State==3 with
   |true=>exact .inl ⟨c,rfl,rfl,⟨h,Frame.refl c⟩,⟨x.Custody,(b8q hx).symm⟩,0,p1,.inl ⟨rfl,rfl⟩⟩
   |false=>
    simp only[yaq,yac,yaa];rcases mv 2 x.Custody.Branch 0 rfl with ⟨d,m1,m2,hQ,hH,hI⟩|⟨d,e,he,m1,m2,hsd⟩
    ·rw[m1,m2];exact .inl ⟨d,rfl,rfl,hQ,hI,0,p1,.inl ⟨rfl,hH⟩⟩
    ·rw[m1,m2];exact .inr ⟨d,e,he,rfl,rfl,hsd⟩
 ·have hv2:(v==0)=false:=by simpa using hv
  obtain ⟨o,ho,hoi,hg,hw⟩:=g2 hv;rw[hg,hv2];dsimp only;simp only[yam,ya9,yaa];cases hpk:o.Pickup==x.Custody.Branch with
  |true=>
   simp only[yac];rcases b6o h hx o with ⟨d,m1,m2,hQ,hI,st,u,hH⟩|⟨d,e,he,m1,m2,hsd⟩
   ·rw[m1,m2];exact .inl ⟨d,rfl,rfl,hQ,hI,v,p1,.inr ⟨st,u,by rw[←hoi];exact hH,fun _ o2 ho2 hv2=>by rw[b7t h.sorted ho2 ho (hv2.trans hoi.symm)];simpa using hpk⟩⟩
   ·rw[m1,m2];exact .inr ⟨d,e,he,rfl,rfl,hsd⟩
  |false=>
   simp only[yaa];rcases mv 6 o.Pickup o.Patron rfl with ⟨d,m1,m2,⟨hm2,hf⟩,hH,hI⟩|⟨d,e,he,m1,m2,hsd⟩
   ·rw[m1,m2];simp only[yal,yam,yac,yaa,f2c hm2.short.holds,c91 hm2.short.holds hm2.sorted];have ck:=b4s (l:=d.Holds) (id:=v) (item:=x.ID) (state:=2) (u:=0);generalize hcq:a2r d.Holds v x.ID 2 0=q at ck;obtain ⟨l,e⟩:=q;by_cases he:e=0
    ·subst he;exact .inl ⟨u9 d l,rfl,rfl,⟨a6i hm2 (ck rfl),hf.trans (a6c (ck rfl))⟩,hI,v,p1,.inr ⟨2,0,by rw[←hH];exact hcq,fun h=>absurd h (by decide)⟩⟩
    ·have he2:(e==0)=false:=by simpa using he
     simp only[a48 d l e he,he2,yaq,yac];exact .inr ⟨_,e,he,rfl,rfl,hm2.short⟩
   ·have he2:(e==0)=false:=by simpa using he
    rw[m1,m2];simp only[he2,yaa,yaq,yac];exact .inr ⟨d,e,he,rfl,rfl,hsd⟩
theorem c69 {c:Circ} (h:MidP c) {i:Nat} {x:Item} (hx:c.Items[i]?=some x):b82 (qb8 (i:Int) ⟨c,0⟩) (qfk c x.ID) (fun d=>MidP d∧Frame c d):=(b1b h hx).mono (fun _ h=>h.1)
end
section
theorem a3k {c:Circ} {i:Nat} {x:Item} (hx:c.Items[i]?=some x) (m:Move) (u:Custody):(p7 c i x m u).Items[i]?=some (t8 u x):=by
 show (c.Items.set i (t8 u x))[i]?=_
 rw[ybt (zL hx)]
theorem a1d {c:Circ} (h:MidP c) (item:Int):(a6w (fun x=>x.ID==item) c.Items = -1∧qq c item=some (-1)∧c.Items.find? (fun x=>x.ID==item)=none)∨
 ∃(i:Nat) (x:Item),a6w (fun x=>x.ID==item) c.Items=(i:Int)∧qq c item=some (i:Int)∧c.Items[i]?=some x∧x.ID=item∧c.Items.find? (fun x=>x.ID==item)=some x:=by
 rcases o6 (fun x:Item=>x.ID==item) c.Items with ⟨h1,h2⟩|⟨i,x,h1,h2,h3,h4⟩
 ·exact .inl ⟨h1,by rw[e0k h.short.items,h1],h2⟩
 ·exact .inr ⟨i,x,h1,by rw[e0k h.short.items,h1],h2,by simpa using h3,h4⟩
theorem b8j {c:Circ} (h:MidP c) {item branch:Int}:d30 (qcs c item branch) (qe1 c item branch):=by
 unfold qcs qe1;simp -zeta only[qb6,a4x h.short];rcases a1d h item with ⟨h1,h2,-⟩|⟨i,x,h1,h2,hx,hid,-⟩
 ·rw[h1,h2];exact a1c
 ·subst hid;have d0:decide ((0:Int)≤(i:Int))=true:=by rw[yae];omega
  rw[h1,h2];simp only[a39,d0,yac,yaa];rcases a4z h hx 1 branch 0 with ⟨u,ha,m1,m2,hm2⟩|⟨e,he,m1,m2⟩
  ·rw[m1,m2];simp only[yal,yam,yaa];rcases c69 hm2 (a3k hx _ u) with ⟨d,q1,q2,hd,_⟩|⟨d,e,he,q1,q2,hsd⟩
   ·rw[q1,show qfk _ x.ID=_ from q2];exact ⟨d,0,rfl,rfl,hd.short⟩
   ·rw[q1,show qfk _ x.ID=_ from q2];simp only[a0r d e he];exact a1c
  ·have he2:(e==0)=false:=by simpa using he
   rw[m1,m2];simp only[a8a c _ e he,a0r c e he,he2,yaq,yac];exact a1c
end
section
theorem d7f {c d:Circ} (h:Frame c d):d.Items.length=c.Items.length:=by
 have:=congrArg List.length h.ids;simpa using this
theorem a7j (c:Circ) (record e:Int) (n i k:Nat) (he:e≠0) :
 o4 a34 (k+1) (record,(n:Int),(i:Int),⟨c,e⟩,())=some (.inl (⟨c,e⟩,()))∨o4 a34 (k+1) (record,(n:Int),(i:Int),⟨c,e⟩,())=some (.inr (⟨c,e⟩,())):=by
 have h:(e==0)=false:=by simpa using he
 simp only[o4,a34];cases decide ((i:Int)<(n:Int)) with
 |false=>exact .inl rfl
 |true=>
  simp only[yac,h,yaq];refine .inr ?_
  first|rfl|trivial
def e33 (r:Int) (c d:Circ):Prop:=d.Items.map (fun x=>x.Record)=c.Items.map (fun x=>x.Record)∧∀(j:Nat) (y:Item),c.Items[j]?=some y→¬y.Record=r→d.Items[j]?=some y
theorem e33.refl (r:Int) (c:Circ):e33 r c c:=⟨rfl,fun _ _ h _=>h⟩
theorem e33.trans {r:Int} {a b c:Circ} (h:e33 r a b) (k:e33 r b c):e33 r a c:=⟨k.1.trans h.1,fun j y hy hr=>k.2 j y (h.2 j y hy hr) hr⟩
theorem e83 {c d:Circ} {i:Nat} {x:Item} {record w:Int} (hx:c.Items[i]?=some x) (hp:Put c d i x) (hq:((x.Record==record&&x.Custody.State==3)&&!(w==0))=true):e33 record c d:=by
 obtain ⟨⟨u,hI⟩,-⟩:=hp;simp only[yad,ya5]at hq;refine ⟨by rw[hI];exact a1r hx rfl,fun j y hy hr=>?_⟩;rw[hI,List.getElem?_set];split
 ·rename_i e;subst e;rw[hx]at hy;cases hy
  exact absurd hq.1.1 hr
 ·exact hy
theorem d3i {record:Int} {n:Nat} {v:Circ} (hn:n<1000000000):∀(k i:Nat) (c:Circ),i+k=n→MidP c→c.Items.length=n→
 (∃d,o4 a34 (k+2) (record,(n:Int),(i:Int),⟨c,0⟩,())=some (.inl (⟨d,0⟩,()))∧o4 a4q (k+2) (record,(i:Int),c,v,())=some (.inl (d,v,()))∧MidP d∧Frame c d∧e33 record c d)∨
 (∃d e,e≠0∧Short d∧(o4 a34 (k+2) (record,(n:Int),(i:Int),⟨c,0⟩,())=some (.inl (⟨d,e⟩,()))∨o4 a34 (k+2) (record,(n:Int),(i:Int),⟨c,0⟩,())=some (.inr (⟨d,e⟩,())))∧
  o4 a4q (k+2) (record,(i:Int),c,v,())=some (.inr (e,o7,()))):=by
 intro k
 induction k with
 |zero=>
  intro i c hi h hl;have:i=n:=by omega
  subst this;refine .inl ⟨c,?_,?_,h,Frame.refl c,e33.refl _ c⟩
  ·simp only[o4,a34,dge,yaa]
  ·simp only[o4,a4q,hl,dge,yaa]
 |succ k ih=>
  intro i c hi h hl;have hlt:i<n:=by omega
  have hx:c.Items[i]?=some (c.Items[i]'(by omega)):=yab (by omega);generalize c.Items[i]'(by omega)=x at hx;obtain ⟨w,p1,p2,g1,g2⟩:=b0v h hx;have hsu:=f7 (show i<9223372036854775807 by omega);have s1:a34 (record,(n:Int),(i:Int),⟨c,0⟩,())=(bif (x.Record==record&&x.Custody.State==3)&&!(w==0) then (match qb8 (i:Int) ⟨c,0⟩ with|some (_,v6)=>some (.inl (record,(n:Int),((i+1:Nat):Int),v6,()))|none=>none) else some (.inl (record,(n:Int),((i+1:Nat):Int),⟨c,0⟩,()))):=by
   simp -zeta only[a34,dlt hlt,yac,yal,yam,yaa,d8,hx,p1,o5,hsu]
   try rfl
  have s2:a4q (record,(i:Int),c,v,())=(bif (x.Record==record&&x.Custody.State==3)&&!(w==0) then (match qfk c x.ID with|some (r5,r6)=>(bif !(r6==0) then some (.inr (.inr (r6,o7,()))) else some (.inl (record,((i+1:Nat):Int),r5,v,())))|none=>none) else some (.inl (record,((i+1:Nat):Int),c,v,()))):=by
   simp -zeta only[a4q,hl,dlt hlt,yac,d8,hx,p2,a0i,hsu];dsimp only;cases x.Record==record<;>cases x.Custody.State==3<;>cases w==0<;>rfl
  rw[o4,o4,s1,s2];cases hq:(x.Record==record&&x.Custody.State==3)&&!(w==0) with
  |false=>
   simp only[yaa];exact ih (i+1) c (by omega) h hl
  |true=>
   simp only[yac];rcases b1b h hx with ⟨d,q1,q2,⟨hd,hf⟩,hput⟩|⟨d,e,he,q1,q2,hsd⟩
   ·rw[q1,q2];simp only[yal,yam,yaa];rcases ih (i+1) d (by omega) hd (by rw[d7f hf,hl]) with ⟨d2,a1,a2,a3,a4,a5⟩|⟨d2,e,he,hsd,a1,a2⟩
    ·exact .inl ⟨d2,a1,a2,a3,hf.trans a4,(e83 hx hput hq).trans a5⟩
    ·exact .inr ⟨d2,e,he,hsd,a1,a2⟩
   ·have he2:(e==0)=false:=by simpa using he
    rw[q1,q2];simp only[he2,yaq,yac];exact .inr ⟨d,e,he,hsd,a7j d record e n (i+1) (k+1) he,rfl⟩
theorem e3e {c:Circ} (h:MidP c) (record:Int):b82 (qbg record ⟨c,0⟩) (qfj c record) (fun d=>MidP d∧Frame c d∧e33 record c d):=by
 have hi:=h.short.items;unfold qbg qfj;rcases d3i (record:=record) (v:=o7) hi c.Items.length 0 c (by omega) h rfl with ⟨d,a1,a2,a3,a4⟩|⟨d,e,he,hsd,a1,a2⟩
 ·have w1:=o9 _ (by rw[m7];omega) a1;have w2:=o9 _ (by rw[m7];omega) a2;rw[show c9 a34 (record,(c.Items.length:Int),0,⟨c,0⟩,())=_ from w1,show c9 a4q (record,0,c,ZN,())=_ from w2];exact .inl ⟨d,rfl,rfl,a3,a4⟩
 ·have w2:=o9 _ (by rw[m7];omega) a2;rw[show c9 a4q (record,0,c,ZN,())=_ from w2];rcases a1 with a1|a1
  ·have w1:=o9 _ (by rw[m7];omega) a1;rw[show c9 a34 (record,(c.Items.length:Int),0,⟨c,0⟩,())=_ from w1];exact .inr ⟨d,e,he,rfl,rfl,hsd⟩
  ·have w1:=o9 _ (by rw[m7];omega) a1;rw[show c9 a34 (record,(c.Items.length:Int),0,⟨c,0⟩,())=_ from w1];exact .inr ⟨d,e,he,rfl,rfl,hsd⟩
theorem a7g (c:Circ) (record e:Int) (he:e≠0):qbg record ⟨c,e⟩=some ((),⟨c,e⟩):=by
 unfold qbg;rcases a7j c record e c.Items.length 0 0 he with a1|a1
 ·have w1:=o9 _ (by rw[m7];omega) a1;rw[show c9 a34 (record,(c.Items.length:Int),0,⟨c,e⟩,())=_ from w1]
 ·have w1:=o9 _ (by rw[m7];omega) a1;rw[show c9 a34 (record,(c.Items.length:Int),0,⟨c,e⟩,())=_ from w1]
end
section
end
section
theorem c6r {l:List Hold}:(∀i x,l[i]?=some x→p8 l i (fun y=>decide (x.ID≤y.ID))=false)↔l.Pairwise (fun a b=>a.ID<b.ID):=by
 constructor
 ·intro h;rw[ya2];intro i j hi hj hij;exact a19 (key:=fun y:Hold=>y.ID) h j i l[i] l[j] hij (yab hi) (yab hj)
 ·intro h i x hx;cases i with
  |zero=>rfl
  |succ j=>
   unfold p8;simp only;have hi:=(yaG.1 hx)
   have hj:j<l.length:=by have:=hi.1;omega
   rw[yab hj];have:=(ya2.1 h) j (j+1) hj hi.1 (by omega);rw[hi.2]at this;simp only[yag];omega
end
section
def b88 (l:List Charge) (c:Charge):List Charge×Int:=bif !(m8 (l++[c])==0) then ([],m8 (l++[c])) else (l++[c],0)
theorem g9d {l:List Charge} {c:Charge} (hl:l.length<1000000):qcj l c=some (b88 l c):=by
 have l1:decide (l.length+([c]:List Charge).length≤LIM)=true:=a4o (by simp;omega);have l0:decide (l.length≤LIM)=true:=by rw[yae];unfold LIM;omega
 unfold qcj b88;simp only[l0,l1,yac,f2j (show (l++[c]).length<1000000000 by simp;omega)];cases !(m8 (l++[c])==0)<;>rfl
theorem d1l {X:Type}:∀(l o:List X),l.foldl (fun s x=>s++[x]) o=o++l:=by
 intro l
 induction l with
 |nil=>intro o;simp
 |cons x l ih=>intro o;rw[ybn,ih];simp
theorem g9z {l:List Charge} {c:Charge} (hl:l.length<1000000):qfz l c=some (b88 l c):=by
 have hw:=n9 (step:=c2o) (fun (i:Nat) (s:List Charge)=>s.length≤i) (fun i s=>(l,(i:Int),c,s,())) l
  (fun i x s=>.inl (s++[x])) (fun s=>(c,s,())) (by rw[m7];omega)
  (fun s _=>by simp only[c2o,dge,yaa])
  (fun i x s hx hi=>by
   have hlt:=(zL hx)
   have l1:∀z:Charge,decide (s.length+([z]:List Charge).length≤LIM)=true:=fun z=>a4o (by simp;omega)
   refine ⟨?_,fun s' hs'=>?_⟩
   ·simp only[c2o,dlt hlt,d8,hx,yac,l1,f7 (show i<9223372036854775807 by omega)]
   ·cases hs'
    simp;omega) [] (by simp)
 rw[a1y,d1l,ya7]at hw;have l1:decide (l.length+([c]:List Charge).length≤LIM)=true:=a4o (by simp;omega);unfold qfz b88;rw[show c9 c2o (l,0,c,([]:List Charge),())=_ from hw];simp only[l1,yac,f2h (show (l++[c]).length<1000000000 by simp;omega)];cases !(m8 (l++[c])==0)<;>rfl
def a4s (c:Circ) (l:List Charge) (n:Int):Circ:=⟨c.Today,c.Items,c.Patrons,c.Loans,c.Holds,l,c.Rules,c.Cals,c.Moves,c.NextHold,n,c.Local⟩
theorem b9z {c:Circ} (h:MidP c) {l:List Charge} (hl:l.length<1000000) (n:Int):MidP (a4s c l n):=by
 obtain ⟨⟨a1,a2,a3,a4,a5,a6,a7,a8,a9,a10,a11,a12,a13⟩,h2,h3,h4,h5,h6,h7,h8,h9,h10,h11⟩:=h;exact ⟨⟨a1,a2,a3,a4,by show l.length<_;omega,a6,a7,a8,a9,a10,a11,a12,a13⟩,h2,h3,h4,h5,h6,h7,h8,h9,h10,hl⟩
theorem e4f {l:List Charge} {x:Charge} (h:(b88 l x).2=0):(b88 l x).1=l++[x]∧m8 (l++[x])=0:=by
 unfold b88 at h ⊢;by_cases he:m8 (l++[x])=0
 ·simp only[he,yal,yam,yaa,and_self]
 ·have he2:(m8 (l++[x])==0)=false:=by simpa using he
  rw[he2]at h;exact absurd h he
theorem a85 {c:Circ} (h:MidP c) (vid item kind amount:Int):b82 (qdm vid item kind amount ⟨c,0⟩) (qe0 c vid item kind amount)
 (fun d=>d=a4s c (c.Charges++[⟨c.NextCharge,vid,item,c.Today,kind,amount,0⟩]) (wr .i64 (c.NextCharge+1))∧m8 (c.Charges++[⟨c.NextCharge,vid,item,c.Today,kind,amount,0⟩])=0∧c.NextCharge≤99999):=by
 unfold qdm qe0;simp only[yal,yam,yaa,g9d h.chN,g9z h.chN];cases hq:decide (99999<c.NextCharge) with
 |true=>exact .inr ⟨c,13,by decide,rfl,rfl,h.short⟩
 |false=>
  have hq:¬99999<c.NextCharge:=by simpa using hq
  simp only[yaa];have ho:=e4f (l:=c.Charges) (x:=⟨c.NextCharge,vid,item,c.Today,kind,amount,0⟩);generalize b88 c.Charges ⟨c.NextCharge,vid,item,c.Today,kind,amount,0⟩=q at ho ⊢;obtain ⟨l,e⟩:=q;by_cases he:e=0
  ·subst he;have:=ho rfl;exact .inl ⟨a4s c l (wr .i64 (c.NextCharge+1)),rfl,rfl,by rw[←this.1],this.2,by omega⟩
  ·have he2:(e==0)=false:=by simpa using he
   simp only[he2,yaq,yac];exact .inr ⟨c,e,he,by simp only[qu,yal,yac],rfl,h.short⟩
theorem b1x (c:Circ) (vid item kind amount e0:Int) (h0:e0≠0):qdm vid item kind amount ⟨c,e0⟩=some ((),⟨c,e0⟩):=by
 have h:(e0==0)=false:=by simpa using h0
 unfold qdm;simp only[h,yaq,yac]
theorem a7n {l:List Charge} (h:m8 l=0):l.length<1000000:=by have:=(d09 h).1;omega
def a89 (l:List Hold) (item:Int):List Hold×Int:=
 match l.find? (fun h=>h.Got==item) with
 |none=>([],9)
 |some x=>bif item==0 then ([],9) else (l.set (a6w (fun h=>h.Got==item) l).toNat (b44 x 0 1 0),0)
theorem g88 {l:List Hold} {item:Int} (hl:l.length<1000000000):qbc l item=some (a89 l item):=by
 unfold qbc a89;rw[c2e (p:=fun (g:Unit×Int×Unit) x0=>qdc x0 g.2.1) (g:=((),(item,()))) (fun x=>x.Got==item) hl (fun x _=>rfl)];rcases o6 (fun x:Hold=>x.Got==item) l with ⟨h1,h2⟩|⟨i,x,h1,h2,h3,h4⟩
 ·rw[h1,h2];rfl
 ·rw[h1,h4];simp only[a39,yaa,yaI,d8,h2,f2v hl h2];cases item==0<;>rfl
theorem e0b {l:List Hold} {item:Int} (hl:l.length<1000000000) (hsort:∀i x,l[i]?=some x→p8 l i (fun y=>decide (x.ID≤y.ID))=false):qfq l item=some (a89 l item):=by
 unfold qfq a89;have h:=u7 (step:=c2k) (fun i=>(l,item,(i:Int),())) l (fun x=>!(item==0)&&x.Got==item) (fun i x=>(.inr (l.set i (b44 x 0 1 0),0,()):Unit⊕(List Hold×Int×Unit))) (.inl ()) hl
  (by simp only[c2k,dge,yaa])
  (fun i x hx=>by
   have hi:=(zL hx)
   have hw:=e0a (l:=l) (y:=b44 x 0 1 0) hl;rw[a62 hsort hx (y:=b44 x 0 1 0) rfl]at hw;simp -zeta only[c2k,dlt hi,d8,hx,yac,o5,f7 (show i<9223372036854775807 by omega)];rw[show qfo l (⟨x.ID,x.Patron,x.Record,x.Item,x.Pickup,x.Placed,1,0,0,x.Asleep,x.Rank⟩:Hold)=_ from hw])
 rw[show c9 c2k (l,item,0,())=_ from h];have key:∀(p:Hold→Bool) (m:List Hold) (k:Nat),a2t p (fun i x=>(.inr (l.set i (b44 x 0 1 0),0,()):Unit⊕(List Hold×Int×Unit))) (.inl ()) k m =
  (match m.find? p with|some x=>.inr (l.set (k+(a6w p m).toNat) (b44 x 0 1 0),0,())|none=>.inl ()):=by
  intro p m
  induction m with
  |nil=>intro k;rfl
  |cons x m ih=>
   intro k;simp only[a2t,List.find?_cons];cases hp:p x with
   |true=>
    have:a6w p (x::m)=0:=by unfold a6w;simp[yb0,hp]
    simp[this]
   |false=>
    simp only[yaa,ih];rcases o6 p m with ⟨a1,a2⟩|⟨i,y,a1,a2,a3,a4⟩
    ·rw[a2]
    ·have e2:a6w p (x::m)=((i+1:Nat):Int):=by
      unfold a6w at a1 ⊢;simp only[yb0,hp];cases hf:m.findIdx? p with
      |none=>rw[hf]at a1;simp at a1<;>omega
      |some j=>rw[hf]at a1;simp at a1 ⊢;omega
     rw[a4,a1,e2];simp only[yaI];rw[show k+1+i=k+(i+1) by omega]
 rw[key];cases h0:item==0 with
 |true=>
  have e:(fun x:Hold=>!true&&x.Got==item)=fun _=>false:=by funext x;rfl
  rw[e];have:l.find? (fun _:Hold=>false)=none:=by rw[ybs];simp
  rw[this];cases l.find? (fun h=>h.Got==item)<;>rfl
 |false=>
  have e:(fun x:Hold=>!false&&x.Got==item)=fun x=>x.Got==item:=by funext x;rfl
  rw[e,yaH];cases l.find? (fun h=>h.Got==item)<;>rfl
theorem b1y {l:List Hold} {item:Int} (h:(a89 l item).2=0):(a89 l item).1.map a1n=l.map a1n:=by
 unfold a89 at h ⊢;rcases o6 (fun x:Hold=>x.Got==item) l with ⟨h1,h2⟩|⟨i,x,h1,h2,h3,h4⟩
 ·rw[h2]at h;cases h
 ·rw[h4]at h ⊢;simp only at h ⊢;cases hq:item==0 with
  |true=>rw[hq]at h;cases h
  |false=>
   simp only[yaa,h1,yaI];exact a1r h2 rfl
theorem b34 (c:Circ) (l:List Hold) (e e0:Int) (h0:e0≠0):qb3 l e ⟨c,e0⟩=some ((),⟨u9 c c.Holds,e0⟩):=by
 have h:(e0==0)=false:=by simpa using h0
 unfold qb3 qu;simp only[h,yaa];cases !(e==0)<;>simp only[yac,yaa,h]<;>rfl
theorem d2c {c:Circ} (h:MidP c) {item:Int}:d30 (qcx c item) (qfm c item):=by
 unfold qcx qfm;simp -zeta only[qb6,a4x h.short,a0i];rcases a1d h item with ⟨h1,h2,-⟩|⟨i,x,h1,h2,hx,hid,-⟩
 ·rw[h1,h2];exact a1c
 ·subst hid;rw[h1,h2];simp -zeta only[a39,yaa,a9u hx,d8,hx];dsimp only;cases (x.Custody.State==4||x.Custody.State==9) with
  |true=>
   simp only[yac];rcases a4z h hx 12 x.Custody.Branch 0 with ⟨u,ha,m1,m2,hm2⟩|⟨e,he,m1,m2⟩
   ·rw[m1,m2];simp only[yal,yam,yaa];cases x.Price==0 with
    |true=>exact ⟨_,0,rfl,rfl,hm2.short⟩
    |false=>
     simp only[yaq,yac,yaa];rcases a85 hm2 x.Custody.Who x.ID 2 x.Price with ⟨d,q1,q2,hd,hd2,-⟩|⟨d,e,he,q1,q2,hsd⟩
     ·rw[q1,q2];exact ⟨d,0,rfl,rfl,by rw[hd];exact (b9z hm2 (a7n hd2) _).short⟩
     ·rw[q1,q2];simp only[a0r d e he];exact a1c
   ·have he2:(e==0)=false:=by simpa using he
    rw[m1,m2];simp only[b1x _ _ _ _ _ _ he,a0r c e he,he2,yaq,yac];cases !(x.Price==0)<;>exact a1c
  |false=>
   simp only[yaa,a8v h.short.holds,g88 h.short.holds];rcases a4z h hx 13 x.Custody.Branch 0 with ⟨u,ha,m1,m2,hm2⟩|⟨e,he,m1,m2⟩
   ·rw[m1,m2];simp only[yal,yam,yaa,a8u hm2.short.holds];rw[show o3 (p7 c i x ⟨c.Today,x.ID,13,x.Custody.Branch,0⟩ u) x.ID=o3 c x.ID from rfl];have hk:=b1y (l:=c.Holds) (item:=x.ID);have rd:=e0b (item:=x.ID) hm2.short.holds hm2.sorted;generalize hc2:p7 c i x ⟨c.Today,x.ID,13,x.Custody.Branch,0⟩ u=c2 at hm2 rd ⊢;have hH:c2.Holds=c.Holds:=by rw[←hc2];rfl
    rw[hH]at rd;simp only[hH,rd];cases (o3 c x.ID).2 with
    |false=>exact ⟨c2,0,rfl,rfl,hm2.short⟩
    |true=>
     simp only[yac,yam,yaa];generalize a89 c.Holds x.ID=q at hk ⊢;obtain ⟨l,e⟩:=q;by_cases he:e=0
     ·subst he;have hm3:=a6i hm2 (l:=l) (by rw[hH];exact hk rfl);simp only[b7l,yal,yam,yaa];rcases e3e hm3 x.Record with ⟨d,a1,a2,a3,-⟩|⟨d,e,he,a1,a2,hsd⟩
      ·dsimp only[u9]at a1 a2 ⊢;rw[a1,a2];exact ⟨d,0,rfl,rfl,a3.short⟩
      ·dsimp only[u9]at a1 a2 ⊢;rw[a1,a2];simp only[a0r d e he];exact a1c
     ·have he2:(e==0)=false:=by simpa using he
      simp only[a48 c2 l e he,a7g _ _ _ he,a0r _ e he,he2,yaq,yac];exact a1c
   ·have he2:(e==0)=false:=by simpa using he
    rw[m1,m2];simp only[a0r c e he,he2,yaq,yac];cases (o3 c x.ID).2 with
    |true=>
     simp only[yac];generalize a89 c.Holds x.ID=q;obtain ⟨l,e2⟩:=q;simp only[b34 _ _ _ _ he,a7g _ _ _ he,a0r _ e he];exact a1c
    |false=>exact a1c
end
section
def a7l (l:List Loan) (item:Int):List Loan×Loan×Int:=
 match l.find? (fun n=>n.Item==item) with
 |some n=>(l.take (a6w (fun n=>n.Item==item) l).toNat++l.drop ((a6w (fun n=>n.Item==item) l).toNat+1),n,0)
 |none=>([],g8o,9)
theorem g9n {l:List Loan} {item:Int} (hl:l.length<100000000):qdu l item=some (a7l l item):=by
 have hl2:l.length<1000000000:=by omega
 unfold qdu a7l qa0;dsimp only;rw[b70 hl2];rcases o6 (fun x:Loan=>x.Item==item) l with ⟨h1,h2⟩|⟨i,x,h1,h2,h3,h4⟩
 ·rw[h2];rfl
 ·have hlt:=(zL h2)
  have hc:qc4 l=some l:=by unfold qc4;rw[b0k hl2];rfl
  have hd:qc2 l (i:Int) ((i+1:Nat):Int)=some (l.take i++l.drop (i+1)):=by
   show b1v l (i:Int) ((i+1:Nat):Int)=_
   unfold b1v;have d1:decide ((0:Int)≤(i:Int))=true:=by rw[yae];omega
   have d2:decide ((i:Int)≤((i+1:Nat):Int))=true:=by rw[yae];omega
   have d3:decide (((i+1:Nat):Int)≤(l.length:Int))=true:=by rw[yae];omega
   have d4:decide (l.length≤1073741824)=true:=by rw[yae];omega
   simp only[d1,d2,d3,d4,Bool.and_self,yac,yaI]
  rw[h4,h1];unfold qef;simp only[a39,yaa,hc,f7 (show i<9223372036854775807 by omega),hd,yaI]
theorem f3a {l:List Loan} {item:Int} (hl:l.length<100000000):qfr l item=some (a7l l item):=by
 have hl2:l.length<1000000000:=by omega
 unfold qfr a7l;rw[f2f hl2];rcases o6 (fun x:Loan=>x.Item==item) l with ⟨h1,h2⟩|⟨i,x,h1,h2,h3,h4⟩
 ·rw[h1,h2];rfl
 ·have hlt:=(zL h2)
  have d1:decide ((0:Int)≤(i:Int))=true:=by rw[yae];omega
  have d2:decide ((i:Int)≤(l.length:Int))=true:=by rw[yae];omega
  have d3:decide (((i+1:Nat):Int)≤(l.length:Int))=true:=by rw[yae];omega
  have d4:decide ((0:Int)≤((i+1:Nat):Int))=true:=by rw[yae];omega
  have d5:decide ((0:Int)≤0)=true:=rfl;have d6:decide ((l.length:Int)≤(l.length:Int))=true:=by simp
  have t0:((l.take i).drop (0:Int).toNat)=l.take i:=by simp
  have t1:(l.take (l.length:Int).toNat)=l:=by simp
  have l1:decide (([]:List Loan).length+(l.take i).length≤LIM)=true:=a4o (by rw[yaW];simp;omega);have l2:decide (([]++l.take i).length+(l.drop (i+1)).length≤LIM)=true:=a4o (by rw[ya7,yaW,ybc];omega);rw[h1,h4];simp only[a39,yaa,d1,d2,d3,d4,d5,d6,Bool.and_self,yac,f7 (show i<9223372036854775807 by omega),yaI,t0,t1,l1,l2,d8,h2,ya7,List.take_length];have l3:decide ((l.take i).length+(l.drop (i+1)).length≤LIM)=true:=a4o (by rw[yaW,ybc];omega);rw[l3]
  try rfl
theorem e4p {l:List Loan} {item:Int} (hl:l.length<1000000000):(a7l l item).1.length<1000000000:=by
 unfold a7l;cases l.find? (fun n=>n.Item==item) with
 |none=>simp
 |some n=>
  simp only[yaP,yaW,ybc];omega
theorem c00 {c:Circ} (h:MidP c) {l:List Loan} (hl:l.length<1000000000):MidP (j9 c l):=by
 obtain ⟨⟨a1,a2,a3,a4,a5,a6,a7,a8,a9,a10,a11,a12,a13⟩,h2,h3,h4,h5,h6,h7,h8,h9,h10,h11⟩:=h;exact ⟨⟨a1,a2,hl,a4,a5,a6,a7,a8,a9,a10,a11,a12,a13⟩,h2,h3,h4,h5,h6,h7,h8,h9,h10,h11⟩
end
section
def b8w (p:Int→Bool) (f:Int):Nat→Int
 |0=>0
 |k+1=>b8w p f k+(bif p (f+k) then 1 else 0)
theorem c37 {p:Int→Bool} {f:Int}:∀k:Nat,0≤b8w p f k∧b8w p f k≤k:=by
 intro k
 induction k with
 |zero=>exact ⟨by simp[b8w],by simp[b8w]⟩
 |succ k ih=>
  simp only[b8w];cases p (f+k)<;>simp only[yac,yaa]<;>omega
theorem b1n {p:Int→Bool} {f:Int} {k:Nat}:b8w p f (k+1)=b8w p f k+(bif p (f+k) then 1 else 0):=rfl
theorem d5o {p:Int→Bool}:∀(k:Nat) (f:Int),b8w p f (k+1)=(bif p f then 1 else 0)+b8w p (f+1) k:=by
 intro k
 induction k with
 |zero=>intro f;simp[b8w]
 |succ k ih=>
  intro f;rw[b1n,ih f,b1n];rw[show f+((k+1:Nat):Int)=f+1+(k:Int) by omega];omega
theorem g1z {c:Calendar} (hc:CalOk c) {t:Int}:∀(k:Nat) (d n:Int),0≤d→d+k=(if 109572<t then 109572 else t)+1→0≤n→n+k<1000000000→o4 b6d (k+1) (t,n,d,c,())=some (n+b8w (a8t c) d k,()):=by
 intro k
 induction k with
 |zero=>
  intro d n h0 h1 h2 h3;have:decide (d≤(if 109572<t then 109572 else t))=false:=by rw[yag];omega
  simp only[o4,b6d,this,yaa,b8w,Int.add_zero]
 |succ k ih=>
  intro d n h0 h1 h2 h3;have hd:decide (d≤(if 109572<t then 109572 else t))=true:=by rw[yae];omega
  have hb:d<200000:=by split at h1<;>omega
  rw[o4];simp only[b6d,hd,yac,e0c hc];rw[d5o,a1h (n:=d+1) (by omega) (by omega),a1h (n:=n+1) (by omega) (by omega)];cases a8t c d with
  |true=>
   simp only[yac];rw[ih (d+1) (n+1) (by omega) (by omega) (by omega) (by omega)];rw[Int.add_assoc]
  |false=>
   simp only[yaa];rw[ih (d+1) n (by omega) (by omega) (by omega) (by omega),Int.zero_add]
theorem g9x {c:Calendar} (hc:CalOk c) (f t:Int):qfg c f t=some (b8w (a8t c) (if f<0 then 0 else f) ((if 109572<t then 109572 else t)+1-(if f<0 then 0 else f)).toNat):=by
 unfold qfg;generalize hF:(if f<0 then 0 else f)=F;have hF0:0≤F:=by rw[←hF];split<;>omega
 have hT:(if 109572<t then 109572 else t)≤109572:=by split<;>omega
 by_cases hk:F≤(if 109572<t then 109572 else t)+1
 ·have:=g1z hc (t:=t) ((if 109572<t then 109572 else t)+1-F).toNat F 0 hF0 (by omega) (by omega) (by omega);rw[o9 _ (by rw[m7];omega) this,Int.zero_add]
 ·have h0:((if 109572<t then 109572 else t)+1-F).toNat=0:=by omega
  have hd:decide (F≤(if 109572<t then 109572 else t))=false:=by rw[yag];omega
  have:o4 b6d 1 (t,0,F,c,())=some (0,()):=by simp only[o4,b6d,hd,yaa]
  rw[o9 _ (by rw[m7];omega) this,h0]
  try rfl
def upS (d w:Int):Int:=if d<w then 0 else (d-w) / 7+1
theorem b6u {d:Int} (h:rng 0 109572 d=true):qcf d=some (d.tmod 7):=by
 have e:qel d=some (rng 0 109572 d):=by
  unfold qel;simp -zeta only[o5]
  try rfl
 unfold qcf;rw[e,h]
 try rfl
theorem e3o {d w:Int} (h0 : -1≤d) (h1:d≤109572) (h2:0≤w) (h3:w<7):qdq d w=some (upS d w):=by
 unfold qdq upS;rw[b6u rfl];have e0:(0:Int).tmod 7=0:=rfl;simp only[e0];rw[a1h (n:=w-0) (by omega) (by omega),a1h (n:=w-0+7) (by omega) (by omega)];have e1:(w-0+7).tmod 7=w:=by rw[Int.tmod_eq_emod_of_nonneg (by omega)];omega
 rw[e1];by_cases hd:d<w
 ·simp only[hd,decide_true,yac,yby]
 ·simp only[hd,decide_false,yaa,ybf];rw[a1h (n:=d-w) (by omega) (by omega),Int.tdiv_eq_ediv_of_nonneg (by omega),a1h (n:=(d-w) / 7) (by omega) (by omega),a1h (by omega) (by omega)]
theorem e9k {d w:Int} (h0:0≤d) (h2:0≤w) (h3:w<7):upS d w=upS (d-1) w+(if d % 7=w then 1 else 0):=by
 unfold upS;split<;>split<;>split<;>omega
theorem a67 {d w:Int} (h0 : -1≤d) (h1:d≤109572) (h2:0≤w) (h3:w<7):0≤upS d w∧upS d w≤20000:=by
 unfold upS;split<;>omega
def wk (c:Calendar):V7 Bool:=⟨a0d c.Week 0,a0d c.Week 1,a0d c.Week 2,a0d c.Week 3,a0d c.Week 4,a0d c.Week 5,a0d c.Week 6⟩
def w8 (c:Calendar) (f t:Int) (w:Nat):Int:=bif a0d c.Week w then upS t w-upS (f-1) w else 0
theorem e4g {b:Bool} {n a:Int} (hn : -1000000≤n) (hn2:n≤1000000) (ha : -100000≤a) (ha2:a≤100000) {α:Type} (k:Int→α):(bif b then k (wr .i64 (n+wr .i64 a)) else k n)=k (n+(bif b then a else 0)):=by
 cases b with
 |true=>simp only[yac];rw[a1h (n:=a) (by omega) (by omega),a1h (by omega) (by omega)]
 |false=>simp only[yaa,Int.add_zero]
theorem t7 {c:Calendar} {f t:Int} {w:Nat} (hf:0≤f) (hf2:f≤109573) (ht : -1≤t) (ht2:t≤109572) (hw:w<7) : -20000≤w8 c f t w∧w8 c f t w≤20000:=by
 unfold w8;have a:=a67 ht ht2 (show 0≤(w:Int) by omega) (by omega);have b:=a67 (d:=f-1) (by omega) (by omega) (show 0≤(w:Int) by omega) (by omega);cases a0d c.Week w<;>simp only[yac,yaa]<;>omega
theorem b98 {c:Calendar} {f t:Int} (hf:0≤f) (hf2:f≤109573) (ht : -1≤t) (ht2:t≤109572):c9 c50 (f,t,0,wk c,0,c,wk c,()) =
 some (f,t,w8 c f t 0+w8 c f t 1+w8 c f t 2+w8 c f t 3+w8 c f t 4+w8 c f t 5+w8 c f t 6,c,wk c,()):=by
 have st:∀(w:Nat) (n:Int),w<7→-200000≤n→n≤200000→c50 (f,t,n,wk c,(w:Int),c,wk c,())=some (.inl (f,t,n+w8 c f t w,wk c,((w+1:Nat):Int),c,wk c,())):=by
  intro w n hw h1 h2;have u1:=e3o ht ht2 (show 0≤(w:Int) by omega) (by omega);have u2:=e3o (d:=f-1) (by omega) (by omega) (show 0≤(w:Int) by omega) (by omega);have b1:=a67 ht ht2 (show 0≤(w:Int) by omega) (by omega);have b2:=a67 (d:=f-1) (by omega) (by omega) (show 0≤(w:Int) by omega) (by omega);have hd:decide ((w:Int)<7)=true:=by rw[yae];omega
  have hw1:wr .i64 (f-1)=f-1:=a1h (by omega) (by omega);have hw2:=f7 (show w<9223372036854775807 by omega);unfold w8;simp -zeta only[c50,hd,yac,u1,hw1,u2,hw2];dsimp only;have ap:=fun b=>e4g (b:=b) (n:=n) (a:=upS t w-upS (f-1) w) (by omega) (by omega) (by omega) (by omega) (fun n7=>(some (.inl (f,t,n7,wk c,((w+1:Nat):Int),c,wk c,())):Option ((Int×Int×Int×(V7 Bool)×Int×Calendar×(V7 Bool)×Unit)⊕((Int×Int×Int×Calendar×(V7 Bool)×Unit)))))
  have hcs:w=0∨w=1∨w=2∨w=3∨w=4∨w=5∨w=6:=by omega
  rcases hcs with h|h|h|h|h|h|h<;>subst h<;>exact ap _
 have p0:=t7 (c:=c) hf hf2 ht ht2 (show 0<7 by omega);have p1:=t7 (c:=c) hf hf2 ht ht2 (show 1<7 by omega);have p2:=t7 (c:=c) hf hf2 ht ht2 (show 2<7 by omega);have p3:=t7 (c:=c) hf hf2 ht ht2 (show 3<7 by omega);have p4:=t7 (c:=c) hf hf2 ht ht2 (show 4<7 by omega);have p5:=t7 (c:=c) hf hf2 ht ht2 (show 5<7 by omega);have p6:=t7 (c:=c) hf hf2 ht ht2 (show 6<7 by omega);refine o9 8 (by rw[m7];omega) ?_;have s0:=st 0 0 (by omega) (by omega) (by omega);have s1:=st 1 (0+w8 c f t 0) (by omega) (by omega) (by omega);have s2:=st 2 (0+w8 c f t 0+w8 c f t 1) (by omega) (by omega) (by omega);have s3:=st 3 (0+w8 c f t 0+w8 c f t 1+w8 c f t 2) (by omega) (by omega) (by omega);have s4:=st 4 (0+w8 c f t 0+w8 c f t 1+w8 c f t 2+w8 c f t 3) (by omega) (by omega) (by omega);have s5:=st 5 (0+w8 c f t 0+w8 c f t 1+w8 c f t 2+w8 c f t 3+w8 c f t 4) (by omega) (by omega) (by omega);have s6:=st 6 (0+w8 c f t 0+w8 c f t 1+w8 c f t 2+w8 c f t 3+w8 c f t 4+w8 c f t 5) (by omega) (by omega) (by omega);rw[o4,show c50 (f,t,0,wk c,0,c,wk c,())=_ from s0];simp only;rw[o4,s1];simp only;rw[o4,s2];simp only;rw[o4,s3];simp only;rw[o4,s4];simp only;rw[o4,s5];simp only;rw[o4,s6];simp only;rw[o4];rw[Int.zero_add]
 try rfl
def a8y (c:Calendar) (f t:Int) (x:Int):Bool:=decide (f≤x)&&decide (x≤t)&&a0d c.Week (x.tmod 7).toNat
theorem h2r (c:Calendar) {α:Type} (k:Bool→α) (d:α) {r:Int} (h0:0≤r) (h1:r<7):(bif r==0 then k (wk c).x0 else bif r==1 then k (wk c).x1 else bif r==2 then k (wk c).x2 else bif r==3 then k (wk c).x3 else bif r==4 then k (wk c).x4 else bif r==5 then k (wk c).x5 else bif r==6 then k (wk c).x6 else d)=k (a0d c.Week r.toNat):=by
 have hcs:r=0∨r=1∨r=2∨r=3∨r=4∨r=5∨r=6:=by omega
 rcases hcs with h|h|h|h|h|h|h<;>subst h<;>rfl
theorem b7h {c:Calendar} {f t n:Int} {l:List Int} (hl:l.length<1000000000) (hf:0≤f) (ht:t≤109572) (hn : -1000000≤n) (hn2:n≤1000000) :
 c9 b6m (f,t,n,l,(l.length:Int),0,wk c,())=some (n-(l.filter (a8y c f t)).length,()):=by
 have h:=n9 (step:=b6m) (fun (i:Nat) (s:Int)=>-1000000-(i:Int)≤s∧s≤1000000) (fun i s=>(f,t,s,l,(l.length:Int),(i:Int),wk c,())) l
  (fun i x s=>.inl (bif a8y c f t x then s-1 else s)) (fun s=>(s,())) (by rw[m7];omega)
  (fun s _=>by simp only[b6m,dge,yaa])
  (fun i x s hx hi=>by
   have hlt:=(zL hx)
   obtain ⟨b1,b2⟩:=hi;have hw:wr .i64 (s-1)=s-1:=a1h (by omega) (by omega);refine ⟨?_,fun s' hs'=>?_⟩
   ·simp -zeta only[b6m,dlt hlt,d8,hx,yac,o5,f7 (show i<9223372036854775807 by omega),hw];unfold a8y;cases hq:(decide (f≤x)&&decide (x≤t)) with
    |false=>rfl
    |true=>
     simp only[yad,yae]at hq;have hr:rng 0 109572 x=true:=by rw[y2];omega
     have hm:=g4l (d:=x) (by omega);dsimp only;rw[b6u hr];simp only[yac,yaQ];rw[h2r c (fun v17=>(bif v17 then some (.inl (f,t,s-1,l,(l.length:Int),((i+1:Nat):Int),wk c,())) else some (.inl (f,t,s,l,(l.length:Int),((i+1:Nat):Int),wk c,())):Option ((Int×Int×Int×(List Int)×Int×Int×(V7 Bool)×Unit)⊕((Int×Unit))))) none hm.1 hm.2];cases a0d c.Week (x.tmod 7).toNat<;>rfl
   ·cases hs'
    cases a8y c f t x<;>simp only[yac,yaa]<;>omega) n (by omega)
 rw[a1y]at h;have key:∀(m:List Int) (s:Int),m.foldl (fun s x=>bif a8y c f t x then s-1 else s) s=s-(m.filter (a8y c f t)).length:=by
  intro m
  induction m with
  |nil=>intro s;simp
  |cons x m ih=>
   intro s;rw[ybn,ih,ybh];cases a8y c f t x with
   |true=>simp only[yac,yby,yaD];omega
   |false=>simp
 rw[key]at h;exact h
theorem c4n (p r:Int→Bool):∀(l:List Int),(∀x∈l,¬(p x=true∧r x=true))→(l.filter (fun x=>p x||r x)).length=(l.filter p).length+(l.filter r).length:=by
 intro l
 induction l with
 |nil=>intro _;rfl
 |cons x l ih=>
  intro h;have hx:=h x (yaE ..);have:=ih (fun y hy=>h y (yaR _ hy));simp only[ybh];cases hp:p x<;>cases hr:r x<;>simp_all<;>omega
theorem d6z {d:Int} {q:Int→Bool}:∀{l:List Int},(∀(j i:Nat) (x y:Int),i<j→l[i]?=some x→l[j]?=some y→x<y)→(l.filter (fun x=>x==d&&q x)).length=if (l.any (fun x=>x==d)&&q d)=true then 1 else 0:=by
 intro l
 induction l with
 |nil=>intro _;rfl
 |cons x l ih=>
  intro h;have h2:∀(j i:Nat) (x y:Int),i<j→l[i]?=some x→l[j]?=some y→x<y:=fun j i a b hij ha hb=>h (j+1) (i+1) a b (by omega) (by simpa using ha) (by simpa using hb)
  have ih:=ih h2;rw[ybh,List.any_cons];by_cases e:x=d
  ·subst e;have hn:l.any (fun y=>y==x)=false:=by
    rw[yb6];intro y hy he;obtain ⟨j,hj⟩:=yaF hy;have:=h (j+1) 0 x y (by omega) (by simp) (by simpa using hj);have:y=x:=by simpa using he
    omega
   rw[hn]at ih;simp only[yal,yaQ,Bool.true_or,ya9]at ih ⊢;cases q x with
   |true=>simp only[yby,yaD];rw[ih];rfl
   |false=>simp only[yay,ybf];exact ih
  ·have e2:(x==d)=false:=by simpa using e
   simp only[e2,ya9,ybd,yay,ybf];exact ih
theorem e9g (c:Calendar) (f d:Int) (h0:0≤d):w8 c f d 0+w8 c f d 1+w8 c f d 2+w8 c f d 3+w8 c f d 4+w8 c f d 5+w8 c f d 6 =
 (w8 c f (d-1) 0+w8 c f (d-1) 1+w8 c f (d-1) 2+w8 c f (d-1) 3+w8 c f (d-1) 4+w8 c f (d-1) 5+w8 c f (d-1) 6)+(bif a0d c.Week (d.tmod 7).toNat then 1 else 0):=by
 have st:∀w:Nat,w<7→w8 c f d w=w8 c f (d-1) w+(bif a0d c.Week w then (if d % 7=w then 1 else 0) else 0):=by
  intro w hw;unfold w8;have:=e9k (d:=d) (w:=w) h0 (by omega) (by omega);cases a0d c.Week w<;>simp only[yac,yaa]<;>omega
 rw[st 0 (by omega),st 1 (by omega),st 2 (by omega),st 3 (by omega),st 4 (by omega),st 5 (by omega),st 6 (by omega)];have e:(d.tmod 7).toNat=(d % 7).toNat:=by rw[Int.tmod_eq_emod_of_nonneg h0]
 rw[e];have hcs:d % 7=0∨d % 7=1∨d % 7=2∨d % 7=3∨d % 7=4∨d % 7=5∨d % 7=6:=by omega
 have z:∀b:Bool,(bif b then (0:Int) else 0)=0:=by intro b;cases b<;>rfl
 rcases hcs with h|h|h|h|h|h|h<;>rw[h]<;>simp[z]<;>omega
theorem d6y {c:Calendar} (hc:CalOk c) {f:Int} (hf:0≤f):∀k:Nat,f+k≤109573→
 w8 c f (f+k-1) 0+w8 c f (f+k-1) 1+w8 c f (f+k-1) 2+w8 c f (f+k-1) 3+w8 c f (f+k-1) 4+w8 c f (f+k-1) 5+w8 c f (f+k-1) 6-(c.Closed.filter (a8y c f (f+k-1))).length=b8w (a8t c) f k:=by
 intro k
 induction k with
 |zero=>
  intro _;have z:∀w:Nat,w8 c f (f+((0:Nat):Int)-1) w=0:=by
   intro w;unfold w8;rw[show f+((0:Nat):Int)-1=f-1 by omega];cases a0d c.Week w<;>simp
  have e:c.Closed.filter (a8y c f (f+((0:Nat):Int)-1))=[]:=by
   rw[List.filter_eq_nil_iff];intro x _;unfold a8y;simp only[yad,yae];omega
  rw[z,z,z,z,z,z,z,e]
  try rfl
 |succ k ih=>
  intro hk;have ih:=ih (by omega);rw[b1n,←ih];have ed:f+((k+1:Nat):Int)-1=f+(k:Int):=by omega
  rw[ed];rw[e9g c f (f+k) (by omega)];have e1:(c.Closed.filter (a8y c f (f+k))).length=(c.Closed.filter (a8y c f (f+k-1))).length+(c.Closed.filter (fun x=>x==f+k&&a0d c.Week (x.tmod 7).toNat)).length:=by
   rw[←c4n]
   ·congr 1;apply List.filter_congr;intro x _;unfold a8y;by_cases h1:f≤x
    ·by_cases h2:x=f+k
     ·subst h2;have a:decide (f≤f+(k:Int))=true:=by rw[yae];omega
      have b:decide (f+(k:Int)≤f+(k:Int))=true:=by rw[yae];omega
      simp only[a,b,yal,yaQ];cases decide (f+(k:Int)≤f+(k:Int)-1)<;>simp
     ·have a:(x==f+(k:Int))=false:=by simpa using h2
      have b:decide (x≤f+(k:Int))=decide (x≤f+(k:Int)-1):=by rw[decide_eq_decide];omega
      rw[a,b];simp
    ·have a:decide (f≤x)=false:=by rw[yag];exact h1
     have b:(x==f+(k:Int))=false:=by
      have:¬x=f+(k:Int):=by omega
      simpa using this
     rw[a,b]
     try rfl
   ·intro x _;unfold a8y;simp only[yad,yae,ya5];omega
  rw[e1,d6z (b19 hc.inc)];have hr:rng 0 109572 (f+(k:Int))=true:=by rw[y2];omega
  unfold a8t;rw[hr];cases c.Closed.any (fun x=>x==f+(k:Int))<;>cases a0d c.Week ((f+(k:Int)).tmod 7).toNat<;>simp<;>omega
theorem h2j {c:Calendar} (hc:CalOk c) (f t:Int):qz c f t=some (b8w (a8t c) (if f<0 then 0 else f) ((if 109572<t then 109572 else t)+1-(if f<0 then 0 else f)).toNat):=by
 unfold qz;generalize hF:(if f<0 then 0 else f)=F;generalize hT:(if 109572<t then 109572 else t)=T;have hF0:0≤F:=by rw[←hF];split<;>omega
 have hT0:T≤109572:=by rw[←hT];split<;>omega
 by_cases hk:T<F
 ·have h0:(T+1-F).toNat=0:=by omega
  simp only[hk,decide_true,yac,h0,b8w]
 ·simp only[hk,decide_false,yaa,f2g];rw[show c9 c50 (F,T,0,(⟨a0d c.Week 0,a0d c.Week 1,a0d c.Week 2,a0d c.Week 3,a0d c.Week 4,a0d c.Week 5,a0d c.Week 6⟩:V7 Bool),0,c,(⟨a0d c.Week 0,a0d c.Week 1,a0d c.Week 2,a0d c.Week 3,a0d c.Week 4,a0d c.Week 5,a0d c.Week 6⟩:V7 Bool),())=_ from b98 (c:=c) hF0 (by omega) (by omega) hT0];simp only;have p0:=t7 (c:=c) (f:=F) (t:=T) hF0 (by omega) (by omega) hT0 (show 0<7 by omega);have p1:=t7 (c:=c) (f:=F) (t:=T) hF0 (by omega) (by omega) hT0 (show 1<7 by omega);have p2:=t7 (c:=c) (f:=F) (t:=T) hF0 (by omega) (by omega) hT0 (show 2<7 by omega);have p3:=t7 (c:=c) (f:=F) (t:=T) hF0 (by omega) (by omega) hT0 (show 3<7 by omega);have p4:=t7 (c:=c) (f:=F) (t:=T) hF0 (by omega) (by omega) hT0 (show 4<7 by omega);have p5:=t7 (c:=c) (f:=F) (t:=T) hF0 (by omega) (by omega) hT0 (show 5<7 by omega);have p6:=t7 (c:=c) (f:=F) (t:=T) hF0 (by omega) (by omega) hT0 (show 6<7 by omega);rw[b7h hc.len hF0 hT0 (by omega) (by omega)];simp only;have:=d6y hc hF0 (T+1-F).toNat (by omega);rw[show F+((T+1-F).toNat:Int)-1=T by omega]at this;rw[this]
end
section
theorem f94 {c:Calendar} (hc:CalOk c) {r:Rule} (hr:a6q r=true) (due back:Int):∃v,qdv r c due back=some v∧qfs r c due back=some v∧0≤v:=by
 have ec:∀n:Int,qdf n=some (rng 0 109572 n):=fun n=>by
  unfold qdf;simp -zeta only[o5]
  try rfl
 unfold qdv qfs;simp -zeta only[g92 hc.len,e0o hc.len,h2j hc,g9x hc,ec,d98,a0i];dsimp only;cases (!(y5 c==0)||!(rng 0 109572 due))||!(rng 0 109572 back) with
 |true=>exact ⟨0,rfl,rfl,by omega⟩
 |false=>
  simp only[yaa];have hb:=c37 (p:=a8t c) (f:=if wr .i64 (due+1)<0 then 0 else wr .i64 (due+1)) ((if 109572<back then 109572 else back)+1-(if wr .i64 (due+1)<0 then 0 else wr .i64 (due+1))).toNat;have hk:((if 109572<back then 109572 else back)+1-(if wr .i64 (due+1)<0 then 0 else wr .i64 (due+1))).toNat≤109573:=by
   have h1:(if 109572<back then 109572 else back)≤109572:=by split<;>omega
   have h2:0≤(if wr .i64 (due+1)<0 then 0 else wr .i64 (due+1)):=by split<;>omega
   omega
  generalize b8w (a8t c) _ _=n at hb ⊢;generalize ((if 109572<back then 109572 else back)+1-(if wr .i64 (due+1)<0 then 0 else wr .i64 (due+1))).toNat=k at hb hk;cases decide (n≤r.Grace) with
  |true=>exact ⟨0,rfl,rfl,by omega⟩
  |false=>
   simp only[yaa];refine ⟨_,rfl,rfl,?_⟩;unfold a6q at hr;simp only[yad,y2]at hr;obtain ⟨⟨⟨⟨⟨_,⟨hf,_⟩,hm⟩,_⟩,_⟩,_⟩,_⟩:=hr;have hp:0≤n*r.Fine:=Int.mul_nonneg hb.1 hf.1;have hq:n*r.Fine≤109573*1000:=Int.mul_le_mul (by omega) hf.2 hf.1 (by omega);rw[a1h (by omega) (by omega)];split<;>omega
def b3e (p item kind:Int) (x:Charge):Bool:=(x.Patron==p&&x.Item==item)&&(kind==0||x.Kind==kind)
theorem f2n {l:List Charge} {p item kind:Int} (hl:l.length<1000000000):∃v,qbj l p item kind=some (l.filter (fun x=>!(b3e p item kind x)),v):=by
 have hq:∀x:Charge,qce x p item kind=some (b3e p item kind x):=fun x=>by
  unfold qce b3e;simp -zeta only[o5,a0i]
  try rfl
 have h:=n9 (step:=b51 (fun (g:Unit×Int×Int×Int×Unit) x0=>qce x0 g.2.1 g.2.2.1 g.2.2.2.1)) (fun (i:Nat) (s:Int×Int×List Charge)=>s.2.2.length≤i)
  (fun i s=>(((),(p,item,kind,())),s.1,s.2.1,l,(l.length:Int),(i:Int),s.2.2,())) l
  (fun i x s=>.inl (bif b3e p item kind x then (wr .i64 (s.1+x.Paid),wr .i64 (s.2.1+1),s.2.2) else (s.1,s.2.1,s.2.2++[x]))) (fun s=>(s.1,s.2.1,s.2.2,())) (by rw[m7];omega)
  (fun s _=>by simp only[b51,dge,yaa])
  (fun i x s hx hi=>by
   have hlt:=(zL hx)
   have l1:∀z:Charge,decide (s.2.2.length+([z]:List Charge).length≤LIM)=true:=fun z=>a4o (by simp;omega)
   refine ⟨?_,fun s' hs'=>?_⟩
   ·simp only[b51,dlt hlt,d8,hx,yac,hq,l1,f7 (show i<9223372036854775807 by omega)];cases b3e p item kind x<;>rfl
   ·cases hs'
    cases b3e p item kind x<;>simp<;>omega) (0,0,[]) (by simp)
 rw[a1y]at h;have key:∀(m:List Charge) (s:Int×Int×List Charge),∃a b,m.foldl (fun s x=>bif b3e p item kind x then (wr .i64 (s.1+x.Paid),wr .i64 (s.2.1+1),s.2.2) else (s.1,s.2.1,s.2.2++[x])) s=(a,b,s.2.2++m.filter (fun x=>!(b3e p item kind x))):=by
  intro m
  induction m with
  |nil=>intro s;exact ⟨s.1,s.2.1,by simp⟩
  |cons x m ih=>
   intro s;rw[ybn,ybh];cases b3e p item kind x with
   |true=>
    obtain ⟨a,b,e⟩:=ih (wr .i64 (s.1+x.Paid),wr .i64 (s.2.1+1),s.2.2);exact ⟨a,b,by simp only[yac];rw[e];simp⟩
   |false=>
    obtain ⟨a,b,e⟩:=ih (s.1,s.2.1,s.2.2++[x]);exact ⟨a,b,by simp only[yaa];rw[e];simp⟩
 obtain ⟨a,b,e⟩:=key l (0,0,[]);rw[e]at h;refine ⟨a,?_⟩;unfold qbj qao;rw[show c9 (b51 (fun (g:Unit×Int×Int×Int×Unit) x0=>qce x0 g.2.1 g.2.2.1 g.2.2.2.1)) (((),(p,item,kind,())),0,0,l,(l.length:Int),0,([]:List Charge),())=_ from h]
 try rfl
theorem f27 {l:List Charge} {p item kind:Int} (hl:l.length<1000000):∃v,qe5 l p item kind=some (l.filter (fun x=>!(b3e p item kind x)),v):=by
 have h:=n9 (step:=c2g) (fun (i:Nat) (s:Int×List Charge)=>s.2.length≤i)
  (fun i s=>(l,p,item,kind,s.1,(i:Int),s.2,())) l
  (fun i x s=>.inl (bif b3e p item kind x then (wr .i64 (s.1+x.Paid),s.2) else (s.1,s.2++[x]))) (fun s=>(s.1,s.2,())) (by rw[m7];omega)
  (fun s _=>by simp only[c2g,dge,yaa])
  (fun i x s hx hi=>by
   have hlt:=(zL hx)
   have l1:∀z:Charge,decide (s.2.length+([z]:List Charge).length≤LIM)=true:=fun z=>a4o (by simp;omega)
   refine ⟨?_,fun s' hs'=>?_⟩
   ·simp -zeta only[c2g,dlt hlt,d8,hx,yac,o5,a0i,l1,f7 (show i<9223372036854775807 by omega)];dsimp only;unfold b3e;cases ((x.Patron==p&&x.Item==item)&&(kind==0||x.Kind==kind))<;>rfl
   ·cases hs'
    cases b3e p item kind x<;>simp<;>omega) (0,[]) (by simp)
 rw[a1y]at h;have key:∀(m:List Charge) (s:Int×List Charge),∃a,m.foldl (fun s x=>bif b3e p item kind x then (wr .i64 (s.1+x.Paid),s.2) else (s.1,s.2++[x])) s=(a,s.2++m.filter (fun x=>!(b3e p item kind x))):=by
  intro m
  induction m with
  |nil=>intro s;exact ⟨s.1,by simp⟩
  |cons x m ih=>
   intro s;rw[ybn,ybh];cases b3e p item kind x with
   |true=>
    obtain ⟨a,e⟩:=ih (wr .i64 (s.1+x.Paid),s.2);exact ⟨a,by simp only[yac];rw[e];simp⟩
   |false=>
    obtain ⟨a,e⟩:=ih (s.1,s.2++[x]);exact ⟨a,by simp only[yaa];rw[e];simp⟩
 obtain ⟨a,e⟩:=key l (0,[]);rw[e]at h;refine ⟨a,?_⟩;unfold qe5;rw[show c9 c2g (l,p,item,kind,0,0,([]:List Charge),())=_ from h]
 try rfl
theorem e52 {c:Circ} (h:Short c) {l:List Charge} (hl:l.length<1000000000) (n:Int):Short (a4s c l n):=by
 obtain ⟨a1,a2,a3,a4,a5,a6,a7,a8,a9,a10,a11,a12,a13⟩:=h;exact ⟨a1,a2,a3,a4,hl,a6,a7,a8,a9,a10,a11,a12,a13⟩
def a8b (c:Circ) (i:Nat) (x:Item) (branch:Int) (u:Custody) (l:List Loan):Circ:=j9 (p7 c i x ⟨c.Today,x.ID,4,branch,0⟩ u) l
theorem c3d {c:Circ} (h:MidP c) (hln:c.Loans.length<100000000) {i:Nat} {x:Item} (hx:c.Items[i]?=some x) {n:Loan} (hn:c.Loans.find? (fun n=>n.Item==x.ID)=some n) {branch:Int} (hb:rng 1 4 branch=true) :
 b82 (qee (i:Int) branch ⟨c,0⟩) (qex c x.ID branch) (fun d=>MidP d∧∃u ch nc,m5 x.Custody ⟨c.Today,x.ID,4,branch,0⟩=(u,0)∧d=a4s (a8b c i x branch u (a7l c.Loans x.ID).1) ch nc):=by
 unfold qee qex;simp only[d8,hx];rcases a4z h hx 4 branch 0 with ⟨u,ha,m1,m2,hm2⟩|⟨e,he,m1,m2⟩
 ·rw[m1,m2];have hat:=a7i hm2 (a3k hx ⟨c.Today,x.ID,4,branch,0⟩ u);have hx2:=a3k hx ⟨c.Today,x.ID,4,branch,0⟩ u;have hbk:a7l c.Loans x.ID=((a7l c.Loans x.ID).1,n,0):=by unfold a7l;rw[hn]
  have bl:=e4p (item:=x.ID) h.short.loans;have hL:(p7 c i x ⟨c.Today,x.ID,4,branch,0⟩ u).Loans=c.Loans:=rfl;simp only[yal,yam,yaa,hL,g9n hln,f3a hln];rw[hbk];simp only[yal,yam,yaa,b7n];have hm3:=c00 hm2 bl;show b82 _ _ (fun d=>MidP d∧∃u ch nc,m5 x.Custody ⟨c.Today,x.ID,4,branch,0⟩=(u,0)∧d=a4s (a8b c i x branch u (a7l c.Loans x.ID).1) ch nc)
  generalize hl:(a7l c.Loans x.ID).1=l at hm3 bl;have hat3:qq (j9 (p7 c i x ⟨c.Today,x.ID,4,branch,0⟩ u) l) x.ID=some (i:Int):=a7i (x:=t8 u x) hm3 hx2;have hc3:a8b c i x branch u l=j9 (p7 c i x ⟨c.Today,x.ID,4,branch,0⟩ u) l:=rfl;rw[show (⟨(p7 c i x ⟨c.Today,x.ID,4,branch,0⟩ u).Today,(p7 c i x ⟨c.Today,x.ID,4,branch,0⟩ u).Items,(p7 c i x ⟨c.Today,x.ID,4,branch,0⟩ u).Patrons,l,(p7 c i x ⟨c.Today,x.ID,4,branch,0⟩ u).Holds,(p7 c i x ⟨c.Today,x.ID,4,branch,0⟩ u).Charges,(p7 c i x ⟨c.Today,x.ID,4,branch,0⟩ u).Rules,(p7 c i x ⟨c.Today,x.ID,4,branch,0⟩ u).Cals,(p7 c i x ⟨c.Today,x.ID,4,branch,0⟩ u).Moves,(p7 c i x ⟨c.Today,x.ID,4,branch,0⟩ u).NextHold,(p7 c i x ⟨c.Today,x.ID,4,branch,0⟩ u).NextCharge,(p7 c i x ⟨c.Today,x.ID,4,branch,0⟩ u).Local⟩:Circ)=j9 (p7 c i x ⟨c.Today,x.ID,4,branch,0⟩ u) l from rfl];rw[hat3];simp only[d8,hx2];have hru:qfh (j9 (p7 c i x ⟨c.Today,x.ID,4,branch,0⟩ u) l) n.Patron (t8 u x)=qfh (j9 (p7 c i x ⟨c.Today,x.ID,4,branch,0⟩ u) l) n.Patron x:=rfl;rw[hru,d95 hm3.short];obtain ⟨r,b,hr,hrm⟩:=c6b (c:=j9 (p7 c i x ⟨c.Today,x.ID,4,branch,0⟩ u) l) (p:=n.Patron) (x:=x) hm3.short;have hT:(p7 c i x ⟨c.Today,x.ID,4,branch,0⟩ u).Today=(j9 (p7 c i x ⟨c.Today,x.ID,4,branch,0⟩ u) l).Today:=rfl;rw[hr,hT];rw[←hc3]at hm3 hrm ⊢;have fin:∀d:Circ,MidP d→(∃ch nc,d=a4s (a8b c i x branch u l) ch nc)→b82 (match qbj d.Charges n.Patron x.ID 2 with
   |some (r19,r20)=>some ((),(⟨⟨d.Today,d.Items,d.Patrons,d.Loans,d.Holds,r19,d.Rules,d.Cals,d.Moves,d.NextHold,d.NextCharge,d.Local⟩,0⟩:Circ_desk))
   |none=>none) (match qe5 d.Charges n.Patron x.ID 2 with
   |some (r21,r22)=>some ({d with Charges:=r21},0)
   |none=>none) (fun d=>MidP d∧∃u ch nc,m5 x.Custody ⟨c.Today,x.ID,4,branch,0⟩=(u,0)∧d=a4s (a8b c i x branch u l) ch nc):=by
   intro d hd hw;obtain ⟨v1,f1⟩:=f2n (p:=n.Patron) (item:=x.ID) (kind:=2) hd.short.charges;obtain ⟨v2,f2⟩:=f27 (p:=n.Patron) (item:=x.ID) (kind:=2) hd.chN;have hfl:=yax (fun y=>!(b3e n.Patron x.ID 2 y)) d.Charges;have:=hd.chN;rw[f1,f2];obtain ⟨ch,nc,rfl⟩:=hw;exact .inl ⟨_,rfl,rfl,b9z hd (by omega) nc,u,_,nc,ha,rfl⟩
  have f0:=fin (a8b c i x branch u l) hm3 ⟨(a8b c i x branch u l).Charges,(a8b c i x branch u l).NextCharge,rfl⟩;cases b with
  |false=>exact f0
  |true=>
   obtain ⟨v,lv1,lv2,lv0⟩:=f94 (hm3.cal branch) (hm3.rules r (hrm rfl)) n.Due (a8b c i x branch u l).Today;simp only[yac,d91 hb,e0d hb,lv1,lv2];by_cases hv:v=0
   ·subst hv;exact f0
   ·have hv2:(v==0)=false:=by simpa using hv
    have hv3:decide (0<v)=true:=by rw[yae];omega
    simp only[hv2,hv3,yaq,yac];rcases a85 hm3 n.Patron x.ID 1 v with ⟨d,q1,q2,hd,hd2,-⟩|⟨d,e,he,q1,q2,hsd⟩
    ·rw[q1,q2];have hmd:MidP d:=by rw[hd];exact b9z hm3 (a7n hd2) _
     exact fin d hmd ⟨_,_,hd⟩
    ·obtain ⟨v1,f1⟩:=f2n (p:=n.Patron) (item:=x.ID) (kind:=2) hsd.charges;have hfl:=yax (fun y=>!(b3e n.Patron x.ID 2 y)) d.Charges;have:=hsd.charges;have he2:(e==0)=false:=by simpa using he
     rw[q1,q2];simp only[he2,yaq,yac,f1];exact .inr ⟨a4s d (d.Charges.filter (fun y=>!(b3e n.Patron x.ID 2 y))) d.NextCharge,e,he,rfl,rfl,e52 hsd (by omega) _⟩
 ·have he2:(e==0)=false:=by simpa using he
  rw[m1,m2];simp only[he2,yaq,yac];exact .inr ⟨c,e,he,rfl,rfl,h.short⟩
end
section
def b7c (i item:Int) (d:Circ_desk):Option (Circ×Int×Int):=
 match qap d.c item with
 |some (o,ok)=>
  match (bif ok&&o.State==2 then qcn i o d else qb8 i d) with
  |some (_,v)=>(match qap v.c item with
   |some (r,_)=>(match qck r.ID v with
    |some ((a,b,e),_)=>some (a,b,e)
    |none=>none)
   |none=>none)
  |none=>none
 |none=>none
def c55 (item e:Int) (c:Circ):Option (Circ×Int×Int):=
 bif !(e==0) then some (o7,0,e)
 else match qai c item with
  |some (o,ok)=>(match (bif ok then qfa c item o else qfk c item) with
   |some (d,f)=>(bif !(f==0) then some (o7,0,f) else match qai d item with
    |some (r,_)=>some (d,r.ID,0)
    |none=>none)
   |none=>none)
  |none=>none
def d3x (i item:Int) (a:Option (Unit×Circ_desk)):Option (Circ×Int×Int):=match a with|some (_,v)=>b7c i item v|none=>none
def c3m (item:Int) (a:Option (Circ×Int)):Option (Circ×Int×Int):=match a with|some (c,e)=>c55 item e c|none=>none
theorem b1m {c:Circ} (hs:Short c) (i item e:Int) (he:e≠0):b7c i item ⟨c,e⟩=some (o7,0,e):=by
 unfold b7c;simp only[a8v hs.holds,b36 c i e _ he,a8a c i e he];cases ((o3 c item).2&&(o3 c item).1.State==2)<;>
  simp only[yac,yaa,a8v hs.holds,b7o c _ e he]
theorem a06 (u:Custody):a1j u=(u.State==4||u.State==9||u.State==10):=by
 unfold a1j;cases u.State==4<;>cases u.State==9<;>rfl
theorem g9u {c:Circ} (hs:Short c) {i:Nat} {x:Item} (hf:a6w (fun y=>y.ID==x.ID) c.Items=(i:Int)) (hx:c.Items[i]?=some x) (branch:Int) :
 qen c x.ID branch=(bif a1j x.Custody then d3x i x.ID (qee i branch ⟨c,0⟩) else bif x.Custody.State==8 then d3x i x.ID (qbi i 4 branch 0 ⟨c,0⟩)
  else bif x.Custody.State==11 then d3x i x.ID (qbi i 14 branch 0 ⟨c,0⟩) else bif x.Custody.State==6 then d3x i x.ID (qbi i 7 branch 0 ⟨c,0⟩) else b7c i x.ID ⟨c,12⟩):=by
 have leaf:∀v23:Circ_desk,(match qap v23.c x.ID with
  |some (r25,r26)=>
   let k41:Bool→Option (Circ×Int×Int):=fun v27=>
    let k:Circ_desk→Option (Circ×Int×Int):=fun v32=>
     match qap v32.c x.ID with
     |some (r34,r35)=>(match qck r34.ID v32 with
      |some ((r37,r38,r39),v40)=>some (r37,r38,r39)
      |none=>none)
     |none=>none
    bif v27 then (match qcn (i:Int) r25 v23 with|some (_,v29)=>k v29|none=>none)
    else (match qb8 (i:Int) v23 with|some (_,v31)=>k v31|none=>none)
   bif r26 then k41 (r25.State==2) else k41 false
  |none=>none)=b7c i x.ID v23:=by
  intro v;unfold b7c;cases qap v.c x.ID with
  |none=>rfl
  |some q=>
   obtain ⟨o,ok⟩:=q;dsimp only;cases ok with
   |false=>rfl
   |true=>cases o.State==2<;>rfl
 have leaf2:∀a:Option (Unit×Circ_desk),d3x i x.ID a=d3x i x.ID a:=fun _=>rfl
 unfold qen;simp -zeta only[qb6,a4x hs,hf,a39,yaa,d8,hx];rw[a06];have tb:∀(a:Option (Unit×Circ_desk)) (K:Circ_desk→Option (Circ×Int×Int)),(∀v,K v=b7c i x.ID v)→(match a with|some (_,v)=>K v|none=>none)=d3x i x.ID a:=by
  intro a K hK;unfold d3x;cases a with
  |none=>rfl
  |some p=>exact hK _
 cases x.Custody.State==4 with
 |true=>exact tb _ _ leaf
 |false=>
  cases x.Custody.State==9 with
  |true=>exact tb _ _ leaf
  |false=>
   cases x.Custody.State==10 with
   |true=>exact tb _ _ leaf
   |false=>
    cases x.Custody.State==8 with
    |true=>exact tb _ _ leaf
    |false=>
     cases x.Custody.State==11 with
     |true=>exact tb _ _ leaf
     |false=>
      cases x.Custody.State==6 with
      |true=>exact tb _ _ leaf
      |false=>exact leaf _
theorem d99 {c:Circ} (hs:Short c) {i:Nat} {x:Item} (hf:qq c x.ID=some (i:Int)) (hx:c.Items[i]?=some x) (branch:Int) :
 qfn c x.ID branch=(bif a1j x.Custody then (bif decide (branch<1)||decide (4<branch) then some (o7,0,1) else c3m x.ID (qex c x.ID branch)) else bif x.Custody.State==8 then c3m x.ID (qfb c x.ID 4 branch 0)
  else bif x.Custody.State==11 then c3m x.ID (qfb c x.ID 14 branch 0) else bif x.Custody.State==6 then c3m x.ID (qfb c x.ID 7 branch 0) else c55 x.ID 12 c):=by
 have leaf:∀(e21:Int) (c22:Circ),(bif !(e21==0) then (some (o7,0,e21):Option (Circ×Int×Int))
  else match qai c22 x.ID with
   |some (r24,r25)=>
    let k37:Int→Circ→Option (Circ×Int×Int):=fun e32 c33=>
     bif !(e32==0) then some (o7,0,e32)
     else match qai c33 x.ID with
      |some (r35,r36)=>some (c33,r35.ID,0)
      |none=>none
    bif r25 then (match qfa c22 x.ID r24 with|some (r27,r28)=>k37 r28 r27|none=>none)
    else (match qfk c22 x.ID with|some (r30,r31)=>k37 r31 r30|none=>none)
   |none=>none)=c55 x.ID e21 c22:=by
  intro e d;unfold c55;cases !(e==0) with
  |true=>rfl
  |false=>
   simp only[yaa];cases qai d x.ID with
   |none=>rfl
   |some q=>
    obtain ⟨o,ok⟩:=q;cases ok<;>rfl
 have tb:∀(a:Option (Circ×Int)) (K:Int→Circ→Option (Circ×Int×Int)),(∀e v,K e v=c55 x.ID e v)→(match a with|some (v,e)=>K e v|none=>none)=c3m x.ID a:=by
  intro a K hK;unfold c3m;cases a with
  |none=>rfl
  |some p=>exact hK _ _
 unfold qfn;simp -zeta only[hf,a39,yaa,d8,hx,d97];cases a1j x.Custody with
 |true=>
  cases decide (branch<1) with
  |true=>rfl
  |false=>
   cases decide (4<branch) with
   |true=>rfl
   |false=>exact tb _ _ leaf
 |false=>
  cases x.Custody.State==8 with
  |true=>exact tb _ _ leaf
  |false=>
   cases x.Custody.State==11 with
   |true=>exact tb _ _ leaf
   |false=>
    cases x.Custody.State==6 with
    |true=>exact tb _ _ leaf
    |false=>exact leaf 12 c
theorem d44 {i:Nat} {item:Int} {a:Option (Unit×Circ_desk)} {b:Option (Circ×Int)} {Q:Circ→Prop} (hs:b82 a b Q)
 (hQ:∀d,Q d→MidP d∧∃y,d.Items[i]?=some y∧y.ID=item∧((o3 d item).2=true→(o3 d item).1.State=2)):b8x (d3x i item a) (c3m item b):=by
 rcases hs with ⟨d,rfl,rfl,hq⟩|⟨d,e,he,rfl,rfl,hsd⟩
 ·obtain ⟨hd,y,hy,rfl,hC⟩:=hQ d hq;unfold d3x c3m b7c c55;simp only[yal,yam,yaa,a8v hd.short.holds,a8u hd.short.holds];have fin:∀(a:Option (Unit×Circ_desk)) (b:Option (Circ×Int)),b82 a b (fun d=>MidP d∧Frame d d)→True:=fun _ _ _=>trivial
  cases hok:(o3 d y.ID).2 with
  |true=>
   have h2:((o3 d y.ID).1.State==2)=true:=by simpa using hC hok
   simp only[h2,Bool.and_self,yac];rcases e0x hd hy (o3 d y.ID).1 with ⟨d2,a1,a2,hd2,-⟩|⟨d2,e,he,a1,a2,hsd⟩
   ·rw[a1,a2];simp only[a8v hd2.short.holds,a8u hd2.short.holds,yal,yam,yaa,d63];exact ⟨_,_,_,rfl,rfl,hd2.short⟩
   ·have he2:(e==0)=false:=by simpa using he
    rw[a1,a2];simp only[a8v hsd.holds,b7o d2 _ e he,he2,yaq,yac];exact a5c
  |false=>
   simp only[ya9,yaa];rcases c69 hd hy with ⟨d2,a1,a2,hd2,-⟩|⟨d2,e,he,a1,a2,hsd⟩
   ·rw[a1,a2];simp only[a8v hd2.short.holds,a8u hd2.short.holds,yal,yam,yaa,d63];exact ⟨_,_,_,rfl,rfl,hd2.short⟩
   ·have he2:(e==0)=false:=by simpa using he
    rw[a1,a2];simp only[a8v hsd.holds,b7o d2 _ e he,he2,yaq,yac];exact a5c
 ·have he2:(e==0)=false:=by simpa using he
  unfold d3x c3m;simp only[b1m hsd _ _ e he];unfold c55;simp only[he2,yaq,yac];exact a5c
theorem d0u {u:Custody} {day item kind branch who:Int} (h:(decide (branch<1)||decide (4<branch))=true):m5 u ⟨day,item,kind,branch,who⟩=(⟨0,0,0,0⟩,1):=by
 have hw:a7d ⟨day,item,kind,branch,who⟩=false:=by
  unfold a7d;simp only[ybk,yae]at h;rcases h with h|h
  ·have:decide (1≤branch)=false:=by rw[yag];omega
   simp[this]
  ·have:decide (branch≤4)=false:=by rw[yag];omega
   simp[this]
 unfold m5;rw[hw];simp
theorem d08 {c:Circ} (h:FitP c) {x:Item} (hx:x∈c.Items) (hs:¬x.Custody.State=5) {o:Hold} (ho:o∈c.Holds) (hg:o.Got=x.ID):o.State=2∧x.Custody.State=6:=by
 have hsh:=a01 h.holds ho;have hid:=f9w h hx;have h1:¬o.State=1:=by
  intro e;unfold m6 at hsh;have h2:=z7 hsh (by decide);rw[h2]at hsh;simp only[yaa]at hsh;have h3:=z7 hsh (by decide);rw[h3]at hsh;simp only[yaa]at hsh;have h4:=z7 hsh (by decide);simp only[yai]at h4;have e1:(o.State==1)=true:=by simpa using e
  have e2:decide (0<o.Got)=true:=by rw[yae,hg];omega
  rw[e1,e2]at h4;exact absurd h4.1 (by decide)
 have hG:=h.holdG o ho;unfold a2u at hG;have hfind:c.Items.find? (fun y=>y.ID==o.Got)=some x:=by
  rw[hg];exact a2h (key:=fun y:Item=>y.ID) (a1p h.items) hx
 rw[hfind]at hG;have e1:(o.State==1)=false:=by simpa using h1
 rw[e1]at hG;simp only[yad,ybd,yan,ybj,yai,yaw,ya5,yaX,ne_eq]at hG;obtain ⟨_,⟨_,q3⟩,q2⟩:=hG;rcases b47 hsh with e|e|e
 ·exact absurd e h1
 ·refine ⟨e,?_⟩;rcases q2 with q2|q2
  ·exact absurd e q2
  ·exact q2.1.1
 ·rcases q3 with q3|q3
  ·exact absurd e q3
  ·exact absurd q3.1.1 hs
theorem a59 {c:Circ} {item:Int} (h:(o3 c item).2=true):(o3 c item).1∈c.Holds∧(o3 c item).1.Got=item:=by
 unfold o3 at h ⊢;cases hq:c.Holds.find? (fun h=>h.Got==item) with
 |none=>rw[hq]at h;cases h
 |some o=>exact ⟨yaV hq,by have:=ybp hq;simpa using this⟩
theorem b67 {c d:Circ} {item:Int} (h:d.Holds=c.Holds):o3 d item=o3 c item:=by unfold o3;rw[h]
theorem d0v {c:Circ} (m:MidP c) (h:FitP c) (hln:c.Loans.length<100000000) {item branch:Int}:b8x (qen c item branch) (qfn c item branch):=by
 rcases a1d m item with ⟨h1,h2,-⟩|⟨i,x,h1,h2,hx,hid,-⟩
 ·unfold qen qfn;simp -zeta only[qb6,a4x m.short];rw[h1,h2];exact a5c
 ·subst hid;rw[g9u m.short h1 hx,d99 m.short h2 hx];have hmem:=yaf hx;have hC:∀d:Circ,d.Holds=c.Holds→¬x.Custody.State=5→((o3 d x.ID).2=true→(o3 d x.ID).1.State=2):=by
   intro d hd h5 hk;rw[b67 hd]at hk ⊢;have:=a59 hk;exact (d08 h hmem h5 this.1 this.2).1
  have mv:∀kind:Int,¬x.Custody.State=5→b8x (d3x i x.ID (qbi i kind branch 0 ⟨c,0⟩)) (c3m x.ID (qfb c x.ID kind branch 0)):=by
   intro kind h5;refine d44 (Q:=fun d=>∃u,d=p7 c i x ⟨c.Today,x.ID,kind,branch,0⟩ u∧MidP d) ?_ ?_
   ·rcases a4z m hx kind branch 0 with ⟨u,ha,m1,m2,hm2⟩|⟨e,he,m1,m2⟩
    ·exact .inl ⟨_,m1,m2,u,rfl,hm2⟩
    ·exact .inr ⟨c,e,he,m1,m2,m.short⟩
   ·rintro d ⟨u,rfl,hd⟩;exact ⟨hd,t8 u x,a3k hx _ u,rfl,hC _ rfl h5⟩
  cases hp:a1j x.Custody with
  |true=>
   simp only[yac];have h5:¬x.Custody.State=5:=by
    intro e;rw[a06,e]at hp;cases hp
   have hl:=h.itemG x hmem;rw[hp]at hl;unfold a4n at hl;cases hb:(decide (branch<1)||decide (4<branch)) with
   |true=>
    simp only[yac];have dm:=a9v (kind:=4) (branch:=branch) (who:=0) m.short (by have:=m.moves;omega) hx;rw[d0u hb]at dm;have e1:qee (i:Int) branch ⟨c,0⟩=some ((),⟨c,1⟩):=by
     unfold qee;simp only[d8,hx];rw[dm]
     try rfl
    rw[e1];show b8x (b7c i x.ID ⟨c,1⟩) _
    rw[b1m m.short _ _ 1 (by decide)];exact a5c
   |false=>
    simp only[yaa];have hbr:rng 1 4 branch=true:=by
     rw[y2];simp only[yai,yag]at hb;omega
    cases hn:c.Loans.find? (fun n=>n.Item==x.ID) with
    |none=>rw[hn]at hl;cases hl
    |some n=>
     refine d44 (c3d m hln hx hn hbr) ?_;rintro d ⟨hd,u,ch,nc,-,rfl⟩;exact ⟨hd,t8 u x,a3k hx ⟨c.Today,x.ID,4,branch,0⟩ u,rfl,hC _ rfl h5⟩
  |false=>
   simp only[yaa];cases h8:x.Custody.State==8 with
   |true=>exact mv 4 (by have:x.Custody.State=8:=(by simpa using h8);omega)
   |false=>
    simp only[yaa];cases h11:x.Custody.State==11 with
    |true=>exact mv 14 (by have:x.Custody.State=11:=(by simpa using h11);omega)
    |false=>
     simp only[yaa];cases h6:x.Custody.State==6 with
     |true=>exact mv 7 (by have:x.Custody.State=6:=(by simpa using h6);omega)
     |false=>
      simp only[yaa];rw[b1m m.short _ _ 12 (by decide)];exact a5c
end
section
theorem g1a {c:Circ} (h:MidP c) (r:Int):(c.Holds.filter (a0b r c.Today)).length<20:=by
 have e:c.Holds.filter (a0b r c.Today)=(c.Holds.filter (fun o=>o.Record==r)).filter (a0b r c.Today):=by
  rw[List.filter_filter];apply List.filter_congr;intro o _;unfold a0b;cases o.Record==r<;>simp
 rw[e];have:=yax (a0b r c.Today) (c.Holds.filter (fun o=>o.Record==r));have:=h.few r;omega
theorem e8o {c:Circ} (h:MidP c) (x:Item) (branch:Int):qa6 c.Holds x branch c.Today c.Local=some (b2t branch c.Local x (s7 (c.Holds.filter (a0b x.Record c.Today))) 0):=
 f2d h.holdsN (g1a h x.Record) (fun o ho=>(h.rank o ho).1)
end
section
end
section
theorem g6n (d:Array Int) (hs:∀i j,i≤j→j<d.size→d[i]!≤d[j]!):∀m,m≤d.size→(Go.Lib.compactUpTo d m).Pairwise (fun a b=>a<b)∧(∀x,x∈Go.Lib.compactUpTo d m↔∃j,j<m∧d[j]! = x):=by
 intro m
 induction m with
 |zero=>intro _;simp[Go.Lib.compactUpTo]
 |succ m ih=>
  intro hm;obtain ⟨h1,h2⟩:=ih (by omega);have e:Go.Lib.compactUpTo d (m+1)=Go.Lib.compactUpTo d m++(if Go.Lib.keeps d m=true then [d[m]!] else []):=by
   unfold Go.Lib.compactUpTo;rw[List.range_succ,List.filter_append,List.map_append];congr 1;simp only[ybh,List.filter_nil];split<;>rfl
  rw[e];by_cases hk:Go.Lib.keeps d m=true
  ·rw[yaK hk];have hk2:m=0∨¬d[m]! = d[m-1]!:=by
    unfold Go.Lib.keeps at hk;exact yaO hk
   have hlt:∀x∈Go.Lib.compactUpTo d m,x<d[m]!:=by
    intro x hx;obtain ⟨j,hj,rfl⟩:=(h2 x).1 hx;have a:=hs j (m-1) (by omega) (by omega);have b:=hs (m-1) m (by omega) (by omega);rcases hk2 with h|h
    ·omega
    ·omega
   constructor
   ·rw[List.pairwise_append];refine ⟨h1,by simp,fun a ha b hb=>?_⟩;have:b=d[m]!:=by simpa using hb
    rw[this];exact hlt a ha
   ·intro x;rw[yat,h2];constructor
    ·rintro (⟨j,hj,e⟩|hx)
     ·exact ⟨j,by omega,e⟩
     ·have:x=d[m]!:=by simpa using hx
      exact ⟨m,by omega,this.symm⟩
    ·rintro ⟨j,hj,e⟩;by_cases hjm:j=m
     ·right;rw[←e,hjm];simp
     ·left;exact ⟨j,by omega,e⟩
  ·rw[yas hk,List.append_nil];have hk2:¬m=0∧d[m]! = d[m-1]!:=by
    unfold Go.Lib.keeps at hk;have:=fun h=>hk (decide_eq_true h)
    constructor
    ·intro h;exact this (.inl h)
    ·by_cases q:d[m]! = d[m-1]!
     ·exact q
     ·exact absurd (.inr q) this
   refine ⟨h1,fun x=>?_⟩;rw[h2];constructor
   ·rintro ⟨j,hj,e⟩;exact ⟨j,by omega,e⟩
   ·rintro ⟨j,hj,e⟩;by_cases hjm:j=m
    ·exact ⟨m-1,by omega,by rw[←e,hjm,hk2.2]⟩
    ·exact ⟨j,by omega,e⟩
theorem c7h (l:List Int):(Go.Lib.compact (l.mergeSort fun x y=>decide (x≤y))).Pairwise (fun a b=>a<b)∧∀x,x∈Go.Lib.compact (l.mergeSort fun x y=>decide (x≤y))↔x∈l:=by
 have hp:=List.pairwise_mergeSort (le:=fun x y:Int=>decide (x≤y)) (fun a b c h1 h2=>by simp only[yae]at *;omega) (fun a b=>by simp only[ybk,yae];omega) l;have hm:∀x,x∈(l.mergeSort fun x y=>decide (x≤y))↔x∈l:=fun x=>List.mem_mergeSort
 generalize (l.mergeSort fun x y=>decide (x≤y))=s at hp hm;have hget:∀i (h:i<s.length),s.toArray[i]! = s[i]:=fun i h=>by simp[h]
 obtain ⟨h1,h2⟩:=g6n s.toArray (fun i j hij hj=>by
  have hj2:j<s.length:=by simpa using hj
  rw[hget i (by omega),hget j hj2];by_cases e:i=j
  ·subst e;exact Int.le_refl _
  ·have:=(ya2.1 hp) i j (by omega) hj2 (by omega);simpa using this) s.length (by simp)
 refine ⟨h1,fun x=>?_⟩;unfold Go.Lib.compact;rw[h2,←hm];constructor
 ·rintro ⟨j,hj,rfl⟩;rw[hget j hj];exact ybx hj
 ·intro hx;obtain ⟨j,hj,e⟩:=List.getElem_of_mem hx;exact ⟨j,hj,by rw[hget j hj,e]⟩
end
section
theorem a91 (m:Move) (item:Int):∀(l:List Move) (i:Nat) (c:Custody),
 t6 i (l++[m]) item c=(match t6 i l item c with
  |.inl c'=>bif m.Item==item then (bif (m5 c' m).2==0 then .inl (m5 c' m).1 else .inr (((i+l.length:Nat):Int),(m5 c' m).2)) else .inl c'
  |.inr p=>.inr p):=by
 intro l
 induction l with
 |nil=>
  intro i c;simp only[ya7,t6,yaU,ybe]
 |cons x l ih=>
  intro i c;simp only[List.cons_append,t6];rw[ih,ih];have e:i+1+l.length=i+(x::l).length:=by simp;omega
  rw[e];cases x.Item==item with
  |false=>rfl
  |true=>
   simp only[yac];cases (m5 c x).2==0<;>rfl
theorem c2s {branch:Int} {l:List Move} {m:Move} {item:Int} (h:(m.Item==item)=false) (hr:(y9 branch l item).2.2=0):y9 branch (l++[m]) item=y9 branch l item:=by
 unfold y9 at *;rw[a91,h];cases decide (branch<1)||decide (4<branch) with
 |true=>rfl
 |false=>cases t6 0 l item (a8w branch)<;>rfl
theorem c59 {branch:Int} {l:List Move} {m:Move} {item:Int} {u:Custody} (h:m.Item=item) (hr:(y9 branch l item).2.2=0) (ha:m5 (y9 branch l item).1 m=(u,0)):y9 branch (l++[m]) item=(u,-1,0):=by
 unfold y9 at *;rw[a91,show (m.Item==item)=true by simpa using h];cases hb:(decide (branch<1)||decide (4<branch)) with
 |true=>rw[hb]at hr;cases hr
 |false=>
  rw[hb]at hr ha;simp only[yaa]at hr ha ⊢;cases hf:t6 0 l item (a8w branch) with
  |inr p=>
   obtain ⟨i,e⟩:=p;rw[hf]at hr ha;simp only at hr ha;subst hr;exact absurd hf (by
    have key:∀(l:List Move) (i:Nat) (c:Custody) (j:Int),t6 i l item c≠.inr (j,0):=by
     intro l
     induction l with
     |nil=>intro i c j h;cases h
     |cons x l ih=>
      intro i c j h;unfold t6 at h;cases hx:x.Item==item with
      |false=>rw[hx]at h;exact ih _ _ _ h
      |true=>
       rw[hx]at h;simp only[yac]at h;cases hz:(m5 c x).2==0 with
       |true=>rw[hz]at h;exact ih _ _ _ h
       |false=>
        rw[hz]at h;simp only[yaa]at h;have h2:=Sum.inr.inj h;have h3:(m5 c x).2=0:=(Prod.mk.inj h2).2;rw[h3]at hz;cases hz
    exact key _ _ _ _)
  |inl c'=>
   rw[hf]at ha;simp only at ha ⊢;rw[ha]
   try rfl
def b6t (x:Item) (u:Custody) (z:Item):Item:=bif z.ID==x.ID then t8 u z else z
theorem d0c {l:List Item} {i:Nat} {x:Item} {u:Custody} (hi:∀(i:Nat) (x:Item) (j:Nat) (y:Item),l[i]?=some x→l[j]?=some y→x.ID=y.ID→i=j) (hx:l[i]?=some x):l.set i (t8 u x)=l.map (b6t x u):=by
 apply List.ext_getElem?;intro j;rw[yaM];by_cases e:i=j
 ·subst e;rw[ybt (zL hx),hx];unfold b6t;simp
 ·rw[List.getElem?_set_ne e];cases hj:l[j]? with
  |none=>rfl
  |some y=>
   have:(y.ID==x.ID)=false:=by
    rw[yaX];intro q;exact e (hi i x j y hx hj q.symm)
   show some y=some (b6t x u y)
   unfold b6t;rw[this];rfl
theorem b8p (x:Item) (u:Custody) (z:Item):(b6t x u z).ID=z.ID:=by unfold b6t;cases z.ID==x.ID<;>rfl
theorem d3h (x:Item) (u:Custody) (z:Item):w7 (b6t x u z)=w7 z:=by unfold b6t;cases z.ID==x.ID<;>rfl
theorem c6n (x:Item) (u:Custody) (z:Item):(b6t x u z).Branch=z.Branch:=by unfold b6t;cases z.ID==x.ID<;>rfl
theorem c0g (x:Item) (u:Custody) (id:Int) (l:List Item):(l.map (b6t x u)).find? (fun z=>z.ID==id)=(l.find? (fun z=>z.ID==id)).map (b6t x u):=by
 rw[List.find?_map];congr 2;funext z;show ((b6t x u z).ID==id)=_
 rw[b8p]
theorem d9q {X Y:Type} (g:X→Y) (f:Y→Bool) (l:List X) (i:Nat):p8 (l.map g) i f=p8 l i (fun z=>f (g z)):=by
 unfold p8;cases i with
 |zero=>rfl
 |succ j=>
  simp only;rw[yaM];cases l[j]?<;>rfl
theorem d1s {c:Circ} (h:a0g c=true) (hi:∀(i:Nat) (x:Item) (j:Nat) (y:Item),c.Items[i]?=some x→c.Items[j]?=some y→x.ID=y.ID→i=j) {i:Nat} {x:Item} (hx:c.Items[i]?=some x) {m:Move} {u:Custody}
 (hm:m.Item=x.ID) (ha:m5 x.Custody m=(u,0)) (hl:c.Moves.length<2000):a0g (p7 c i x m u)=true:=by
 have hall:=fun (y:Item) (hy:y∈c.Items)=>a4y h hy
 have hmem:=yaf hx;unfold a0g at h ⊢;simp only[yad]at h ⊢;obtain ⟨h1,h2,h3,h4⟩:=h;have hit:(p7 c i x m u).Items=c.Items.map (b6t x u):=d0c hi hx;have hmv:(p7 c i x m u).Moves=c.Moves++[m]:=rfl;rw[hit,hmv];refine ⟨?_,?_,?_,?_⟩
 ·rw[ya1,yaP];simp only[yan,yai,yag]at h1 ⊢;refine ⟨h1.1,?_⟩;simp;omega
 ·rw[a5d]at h2 ⊢;intro k y hk;rw[yaM]at hk;cases hz:c.Items[k]? with
  |none=>rw[hz]at hk;cases hk
  |some z=>
   rw[hz]at hk;cases hk
   have:=h2 k z hz;rw[d3h,d9q,b8p];simp only[b8p];exact this
 ·unfold b8f at h3 ⊢;rw[hmv,hit,List.all_append];simp only[yad,yaj]at h3 ⊢;refine ⟨fun w hw=>?_,fun w hw=>?_⟩
  ·rw[c0g,Option.isSome_map];exact h3 w hw
  ·have:w=m:=by simpa using hw
   subst this;rw[c0g,Option.isSome_map,hm,List.find?_isSome];exact ⟨x,hmem,by simp⟩
 ·rw[yaj];intro y hy;obtain ⟨z,hz,rfl⟩:=ybb.1 hy;have hr:=hall z hz;unfold a0e at hr ⊢;simp only[yan,yai,yaw,ya5]at hr ⊢;obtain ⟨r1,r2⟩:=hr;have r2:=a0z.1 r2;rw[hmv,c6n,b8p];cases hq:z.ID==x.ID with
  |true=>
   have hid:z.ID=x.ID:=by simpa using hq
   have hzx:z=x:=by
    obtain ⟨j,hj⟩:=List.mem_iff_getElem?.1 hz;have:=hi j z i x hj hx hid;subst this;rw[hx]at hj;cases hj;rfl
   subst hzx;have:=c59 (branch:=z.Branch) (l:=c.Moves) (item:=z.ID) hm r1 (by rw[r2];exact ha);rw[this];refine ⟨rfl,?_⟩;rw[a0z];unfold b6t;rw[hq];rfl
  |false=>
   have hmz:(m.Item==z.ID)=false:=by
    rw[hm,yaX];rw[yaX]at hq;exact fun e=>hq e.symm
   rw[c2s hmz r1];refine ⟨r1,?_⟩;rw[a0z,r2];unfold b6t;rw[hq];rfl
end
section
theorem g4j {X:Type} (key:X→Int) {l:List X}:(∀i x,l[i]?=some x→p8 l i (fun y=>decide (key x≤key y))=false)↔l.Pairwise (fun a b=>key a<key b):=by
 constructor
 ·intro h;rw[ya2];intro i j hi hj hij;exact a19 (key:=key) h j i l[i] l[j] hij (yab hi) (yab hj)
 ·intro h i x hx;cases i with
  |zero=>rfl
  |succ j=>
   unfold p8;simp only;have hi:=(yaG.1 hx)
   have hj:j<l.length:=by have:=hi.1;omega
   rw[yab hj];have:=(ya2.1 h) j (j+1) hj hi.1 (by omega);rw[hi.2]at this;simp only[yag];omega
theorem h1o {X:Type} (key:X→Int) (sh:X→Int) {l:List X}:y0 (fun i x=>bif p8 l i (fun y=>decide (key x≤key y)) then 7 else sh x) 0 l=0↔(∀x∈l,sh x=0)∧l.Pairwise (fun a b=>key a<key b):=by
 rw[b40,←g4j key];constructor
 ·intro h;have h2:∀i x,l[i]?=some x→p8 l i (fun y=>decide (key x≤key y))=false:=fun i x hx=>by
   have:=h i x hx;rw[yaH]at this;exact z7 this (by decide)
  refine ⟨fun x hx=>?_,h2⟩;obtain ⟨i,hi⟩:=yaF hx;have:=h i x hi;rw[yaH,h2 i x hi]at this;exact this
 ·rintro ⟨h1,h2⟩ i x hx;rw[yaH,h2 i x hx];exact h1 x (yaf hx)
theorem c3y {n:Nat} {m:Int} {e:Int}:(bif decide (m<(n:Int)) then (13:Int) else e)=0↔(n:Int)≤m∧e=0:=by
 by_cases h:m<(n:Int)
 ·rw[decide_eq_true h];constructor
  ·intro h;cases h
  ·rintro ⟨h2,-⟩;omega
 ·rw[decide_eq_false h];exact ⟨fun e=>⟨by omega,e⟩,fun e=>e.2⟩
def c0z (x:Loan):Int:=bif decide (x.Item<1)||decide (9999<x.Item)||decide (x.Patron<1)||decide (9999<x.Patron)||decide (x.Out<0)||decide (109572<x.Out)||decide (x.Due<0)||decide (109572<x.Due)||decide (x.Due<x.Out)||decide (x.Renewals<0)||decide (10<x.Renewals) then 2 else 0
theorem b2h {l:List Loan}:y8 l=0↔(l.length:Int)≤64∧(∀x∈l,c0z x=0)∧l.Pairwise (fun a b=>a.Item<b.Item):=by
 unfold y8;rw[c3y];exact and_congr Iff.rfl (h1o (fun x:Loan=>x.Item) c0z)
theorem b7b {l:List Charge}:m8 l=0↔(l.length:Int)≤128∧(∀x∈l,a3d x=0)∧l.Pairwise (fun a b=>a.ID<b.ID):=by
 unfold m8;rw[c3y];exact and_congr Iff.rfl (h1o (fun x:Charge=>x.ID) a3d)
theorem c40 (l:List Hold):a0u l=fun i x=>bif p8 l i (fun y=>decide (x.ID≤y.ID)) then 7 else m6 x:=by
 funext i x;rw[a4a]
theorem d0r {l:List Hold}:a2l l=true↔l.Pairwise (fun a b=>z8 b a=false):=by
 unfold a2l;rw[a5d,ya2];constructor
 ·intro h i j hi hj hij;have:=h j l[j] (yab hj);rw[yaH,yaj]at this;have h2:=this l[i] (by rw[List.mem_take_iff_getElem];exact ⟨i,by omega,rfl⟩);simpa using h2
 ·intro h i x hx;rw[yaH,yaj];intro y hy;rw[List.mem_take_iff_getElem]at hy;obtain ⟨j,hj,rfl⟩:=hy;obtain ⟨hi,rfl⟩:=yaG.1 hx;have:=h j i (by omega) hi (by omega);simpa using this
theorem b48 {l:List Hold}:w6 l=0↔(l.length:Int)≤64∧((∀x∈l,m6 x=0)∧l.Pairwise (fun a b=>a.ID<b.ID))∧l.Pairwise (fun a b=>z8 b a=false):=by
 unfold w6;rw[c3y,←d0r,←h1o (fun x:Hold=>x.ID) m6,←c40];refine and_congr Iff.rfl ?_;by_cases e:y0 (a0u l) 0 l=0
 ·rw[e];cases a2l l<;>simp
 ·have h2:(y0 (a0u l) 0 l==0)=false:=by simpa using e
  rw[h2];exact ⟨fun h=>absurd h e,fun h=>absurd h.1 e⟩
theorem b64 {b:Bool} {n m:Int} (hn:n≠0):(bif b then n else m)=0↔b=false∧m=0:=by
 cases b with
 |true=>exact ⟨fun h=>absurd h hn,fun h=>by cases h.1⟩
 |false=>exact ⟨fun h=>⟨rfl,h⟩,fun h=>h.2⟩
theorem f9e {p:Prop} [Decidable p] {n m:Int}:(decide p=!(n==m))↔(p↔¬n=m):=by
 by_cases h:p<;>by_cases k:n=m<;>simp[h,k]
theorem f9c {p:Prop} [Decidable p] {n m:Int}:(decide p=(n==m))↔(p↔n=m):=by
 by_cases h:p<;>by_cases k:n=m<;>simp[h,k]
theorem e3d {h:Hold}:m6 h=0↔((1≤h.ID∧h.ID≤99999)∧(1≤h.Patron∧h.Patron≤9999)∧(1≤h.Record∧h.Record≤9999)∧(h.Item=0∨(1≤h.Item∧h.Item≤9999))∧(1≤h.Pickup∧h.Pickup≤4)∧(0≤h.Placed∧h.Placed≤109572)∧
 (h.Got=0∨(1≤h.Got∧h.Got≤9999))∧(0≤h.Until∧h.Until≤109572)∧(0≤h.Asleep∧h.Asleep≤109572)∧(0≤h.Rank∧h.Rank≤9))∧(1≤h.State∧h.State≤3)∧(0<h.Got↔¬h.State=1)∧(0<h.Until↔h.State=3):=by
 unfold m6;rw[b64 (by decide),b64 (by decide),b64 (by decide)];simp only[yai,yag,yaw,y2,ybj,ya5,f9e,f9c,and_true];constructor
 ·rintro ⟨h1,h2,h3⟩;exact ⟨by omega,by omega,h3⟩
 ·rintro ⟨h1,h2,h3⟩;exact ⟨by omega,by omega,h3⟩
theorem a6h {h:Hold} (e:m6 h=0):(1≤h.ID∧h.ID≤99999)∧(1≤h.Record∧h.Record≤9999)∧(1≤h.Pickup∧h.Pickup≤4)∧(h.State=1∨h.State=2∨h.State=3)∧(h.State=1→h.Got=0)∧(h.State≠1→1≤h.Got)∧(1≤h.Patron∧h.Patron≤9999):=by
 rw[e3d]at e;obtain ⟨⟨a1,a2,a3,a4,a5,a6,a7,a8,a9,a10⟩,b,c,d⟩:=e;refine ⟨a1,a3,a5,by omega,fun q=>?_,fun q=>?_,a2⟩
 ·by_cases g:0<h.Got
  ·exact absurd q (c.1 g)
  ·omega
 ·exact c.2 q
end
section
def h2m (c:Custody) (m:Move):Custody:=
 bif w9 m.Kind==2 then ⟨w9 m.Kind,m.Branch,0,0⟩
 else bif w9 m.Kind==4||(w9 m.Kind==5||w9 m.Kind==8) then ⟨w9 m.Kind,c.Branch,m.Who,0⟩
 else bif w9 m.Kind==6 then ⟨w9 m.Kind,c.Branch,m.Who,m.Branch⟩
 else bif w9 m.Kind==9||w9 m.Kind==10 then ⟨w9 m.Kind,c.Branch,c.Who,0⟩
 else ⟨w9 m.Kind,c.Branch,0,0⟩
structure AppP (c:Custody) (m:Move) (u:Custody):Prop where
 res:u=h2m c m
 right:a7c c=true
 within:a7d m=true
 allow:a5e c.State m.Kind=true
 same:m.Kind=3→c.State=5→m.Who=c.Who
 fits:b4i c m=true
theorem b9d {c:Custody} {m:Move} {u:Custody} (h:m5 c m=(u,0)):AppP c m u:=by
 unfold m5 at h;cases e1:(!(a7c c)||!(a7d m)) with
 |true=>rw[e1]at h;cases h
 |false=>
  have e0:=e1;simp only[yai,yaw]at e0;rw[e1]at h;simp only[yaa]at h;cases e2:!(a5e c.State m.Kind) with
  |true=>rw[e2]at h;cases h
  |false=>
   rw[e2]at h;simp only[yaa]at h;cases e3:(m.Kind==3&&c.State==5&&!(m.Who==c.Who)) with
   |true=>rw[e3]at h;cases h
   |false=>
    rw[e3]at h;simp only[yaa]at h;cases e4:!(b4i c m) with
    |true=>rw[e4]at h;cases h
    |false=>
     rw[e4]at h;simp only[yaa]at h;have hr:u=h2m c m:=by
      unfold h2m;generalize w9 m.Kind=k at h ⊢;cases k2:k==2 with
      |true=>rw[k2]at h;cases h;rfl
      |false=>
       rw[k2]at h;simp only[yaa]at h ⊢;cases k4:k==4||(k==5||k==8) with
       |true=>rw[k4]at h;cases h;rfl
       |false=>
        rw[k4]at h;simp only[yaa]at h ⊢;cases k6:k==6 with
        |true=>rw[k6]at h;cases h;rfl
        |false=>
         rw[k6]at h;simp only[yaa]at h ⊢;cases k9:k==9||k==10 with
         |true=>rw[k9]at h;cases h;rfl
         |false=>rw[k9]at h;cases h;rfl
     refine ⟨hr,e0.1,e0.2,by simpa using e2,fun a b=>?_,by simpa using e4⟩;simp only[ybj,yaX,yaw,ya5,ne_eq]at e3;rcases e3 with (q|q)|q
     ·exact absurd a q
     ·exact absurd b q
     ·exact q
theorem e4j {s k:Int} (h:a5e s k=true):s∈c5j k:=by
 unfold a5e at h;rw[ybV]at h;obtain ⟨x,hx,e⟩:=h;have:x=s:=by simpa using e
 exact this▸hx
def e9n (u:Custody) (h:Hold):Prop:=(h.State=3→u.State=5∧u.Branch=h.Pickup∧u.Who=h.Patron)∧(h.State=2→u.State=6∧u.To=h.Pickup∧u.Who=h.Patron)
structure Val (it:Int) (c:Circ):Prop where
 nums:a3l c=true
 patrons:a02 c.Patrons=0
 loans:y8 c.Loans=0
 holds:w6 c.Holds=0
 charges:m8 c.Charges=0
 rules:a2b c.Rules=0
 cals:a2q c=true
 chG:∀x∈c.Charges,a0h c x=true
 items:a0g c=true
 loanP:∀n∈c.Loans,(a3j c.Patrons n.Patron).2=true
 loanI:∀n∈c.Loans,∃x∈c.Items,x.ID=n.Item∧(n.Item≠it→a1j x.Custody=true∧x.Custody.Who=n.Patron)
 itemL:∀x∈c.Items,x.ID≠it→a1j x.Custody=true→∃n∈c.Loans,n.Item=x.ID
 holdP:∀h∈c.Holds,(a3j c.Patrons h.Patron).2=true∧h.ID<c.NextHold
 holdI:∀h∈c.Holds,h.State≠1→∃x∈c.Items,x.ID=h.Got∧x.Record=h.Record∧(h.Got≠it→e9n x.Custody h)
 itemH:∀x∈c.Items,x.ID≠it→x.Custody.State=5→∃h∈c.Holds,h.Got=x.ID∧h.State=3
theorem u6 {c:Circ} (h:a0g c=true) {x y:Item} (hx:x∈c.Items) (hy:y∈c.Items) (e:x.ID=y.ID):x=y:=by
 have h1:=a2h (key:=fun y:Item=>y.ID) (a1p h) hx;have h2:=a2h (key:=fun y:Item=>y.ID) (a1p h) hy;rw[e,h2]at h1;cases h1;rfl
theorem b2e {c:Circ} (h:a0g c=true) {x:Item} (hx:x∈c.Items) {id:Int} (e:x.ID=id):c.Items.find? (fun y=>y.ID==id)=some x:=by
 subst e;exact a2h (key:=fun y:Item=>y.ID) (a1p h) hx
theorem a1o {c:Circ} (h:a0g c=true) {x:Item} (hx:x∈c.Items):1≤x.ID∧x.ID≤9999∧1≤x.Record∧(1≤x.Branch∧x.Branch≤4)∧x.Call.length≤200:=by
 unfold a0g at h;simp only[yad]at h;obtain ⟨i,hi⟩:=yaF hx;have:=(a5d.1 h.2.1) i x hi;rw[yaH]at this;simp only[yan,yai,yaw]at this;have h2:=this.1;unfold w7 at h2;simp only[yad,y2,yae]at h2;omega
theorem h03 {c:Circ} (h:a35 c=true):Val 0 c:=by
 have f:=h2t h;have hch:∀x∈c.Charges,a0h c x=true:=by
  unfold a35 at h;simp only[yad,yaj]at h;exact h.2.2.2.1
 have hcal:a2q c=true:=by
  unfold a35 at h;simp only[yad]at h;exact h.2.2.1
 refine ⟨f.nums,f.patrons,f.loans,f.holds,f.charges,f.rules,hcal,hch,f.items,fun n hn=>?_,fun n hn=>?_,fun x hx _ hw=>?_,fun o ho=>?_,fun o ho h1=>?_,fun x hx _ h5=>?_⟩
 ·obtain ⟨x,p,-,-,-,hp,-⟩:=b5j f hn;rw[hp]
 ·obtain ⟨x,p,-,hx,hi,-,-,hw,hwho⟩:=b5j f hn;exact ⟨x,hx,hi,fun _=>⟨hw,hwho⟩⟩
 ·have:=f.itemG x hx;rw[hw]at this;unfold a4n at this;cases hq:c.Loans.find? (fun n=>n.Item==x.ID) with
  |none=>rw[hq]at this;cases this
  |some n=>exact ⟨n,yaV hq,by have:=ybp hq;simpa using this⟩
 ·have:=f.holdG o ho;unfold a2u at this;simp only[yad,yan,yai,yaw,yag]at this;exact ⟨this.1.1,by have:=this.1.2;omega⟩
 ·have hg:=f.holdG o ho;unfold a2u at hg;rw[show (o.State==1)=false by simpa using h1]at hg;simp only[yad,ybd]at hg;have hg:=hg.2;cases hq:c.Items.find? (fun x=>x.ID==o.Got) with
  |none=>rw[hq]at hg;cases hg
  |some x=>
   rw[hq]at hg;refine ⟨x,yaV hq,by have:=ybp hq;simpa using this,?_,fun _=>?_⟩
   ·simp only[yad,yb1,ya5]at hg;exact hg.1.1
   ·simp only[yad,yb1,ya5,yan,ybj,yai,yaw,yaX,ne_eq]at hg;obtain ⟨⟨-,g3⟩,g2⟩:=hg;refine ⟨fun e=>?_,fun e=>?_⟩
    ·rcases g3 with g3|g3
     ·exact absurd e g3
     ·exact ⟨g3.1.1,g3.1.2,g3.2⟩
    ·rcases g2 with g2|g2
     ·exact absurd e g2
     ·exact ⟨g2.1.1,g2.1.2,g2.2⟩
 ·have hg:=f.readyG x hx;unfold a03 at hg;rw[h5]at hg;simp only[yal,yam,ybd,yan,yai,yaw,ya5]at hg;have:=a59 hg.1;exact ⟨_,this.1,this.2,hg.2⟩
theorem c3h {c:Circ} (v:Val 0 c):a35 c=true:=by
 have hid:=fun x hx=>a1o (x:=x) v.items hx
 unfold a35;simp only[yad,yaj];refine ⟨v.nums,?_,v.cals,v.chG,by rw[a6k];exact v.items,?_,?_⟩
 ·unfold a2v;rw[v.patrons,v.loans,v.holds,v.charges,v.rules];rfl
 ·unfold a1q;simp only[yad,yaj,ya5];refine ⟨fun n hn=>?_,fun x hx=>?_⟩
  ·obtain ⟨x,hx,hi,hw⟩:=v.loanI n hn;have:=(hid x hx).1;have hw:=hw (by omega);unfold a2w;rw[b2e v.items hx hi];simp only[v.loanP n hn,hw.1,hw.2];simp
  ·have:=(hid x hx).1;cases hw:a1j x.Custody with
   |true=>
    obtain ⟨n,hn,e⟩:=v.itemL x hx (by omega) hw;unfold a4n;cases hq:c.Loans.find? (fun n=>n.Item==x.ID) with
    |none=>exact absurd (ybs.1 hq n hn) (by simpa using e)
    |some m=>rfl
   |false=>
    unfold a4n;cases hq:c.Loans.find? (fun n=>n.Item==x.ID) with
    |none=>rfl
    |some m=>
     have hm:=yaV hq;have he:m.Item=x.ID:=by have:=ybp hq;simpa using this
     obtain ⟨y,hy,hi,hy2⟩:=v.loanI m hm;have:=u6 v.items hy hx (hi.trans he);subst this;rw[(hy2 (by omega)).1]at hw;cases hw
 ·unfold a3s;simp only[yad,yaj];refine ⟨fun o ho=>?_,fun x hx=>?_⟩
  ·unfold a2u;obtain ⟨p1,p2⟩:=v.holdP o ho;rw[p1,show decide (c.NextHold≤o.ID)=false by rw[yag];omega];by_cases h1:o.State=1
   ·rw[show (o.State==1)=true by simpa using h1];rfl
   ·obtain ⟨x,hx,hg,hr,ha⟩:=v.holdI o ho h1;have:=(hid x hx).1;obtain ⟨a3,a2⟩:=ha (by omega);rw[show (o.State==1)=false by simpa using h1,b2e v.items hx hg];simp only[hr,yal,yam,yaq,yaQ,Bool.or_false,ybd];by_cases e3:o.State=3
    ·obtain ⟨q1,q2,q3⟩:=a3 e3;simp[e3,q1,q2,q3]
    ·by_cases e2:o.State=2
     ·obtain ⟨q1,q2,q3⟩:=a2 e2;simp[e2,q1,q2,q3]
     ·simp[e2,e3]
  ·unfold a03;have:=(hid x hx).1;by_cases h5:x.Custody.State=5
   ·rw[show (x.Custody.State==5)=true by simpa using h5];obtain ⟨o,ho,hg,h3⟩:=v.itemH x hx (by omega) h5;unfold o3;cases hq:c.Holds.find? (fun h=>h.Got==x.ID) with
    |none=>exact absurd (ybs.1 hq o ho) (by simpa using hg)
    |some p=>
     have hp:=yaV hq;have hpg:p.Got=x.ID:=by have:=ybp hq;simpa using this
     have hn:=a6h (a01 v.holds hp);have hp1:p.State≠1:=fun e=>by have:=hn.2.2.2.2.1 e;omega
     obtain ⟨y,hy,hyg,-,ha⟩:=v.holdI p hp hp1;have:=u6 v.items hy hx (hyg.trans hpg);subst this;have ha:=(ha (by omega)).2;have h3:p.State=3:=by
      rcases hn.2.2.2.1 with e|e|e
      ·exact absurd e hp1
      ·have:=(ha e).1;omega
      ·exact e
     simp[h3]
   ·rw[show (x.Custody.State==5)=false by simpa using h5];rfl
theorem Val.weak {c:Circ} (v:Val 0 c) (it:Int):Val it c:=by
 have hid:=fun x hx=>a1o (x:=x) v.items hx
 refine ⟨v.nums,v.patrons,v.loans,v.holds,v.charges,v.rules,v.cals,v.chG,v.items,v.loanP,fun n hn=>?_,fun x hx _ hw=>?_,v.holdP,fun o ho h1=>?_,fun x hx _ h5=>?_⟩
 ·obtain ⟨x,hx,hi,hw⟩:=v.loanI n hn;have:=(hid x hx).1;exact ⟨x,hx,hi,fun _=>hw (by omega)⟩
 ·have:=(hid x hx).1;exact v.itemL x hx (by omega) hw
 ·obtain ⟨x,hx,hg,hr,ha⟩:=v.holdI o ho h1;have:=(hid x hx).1;exact ⟨x,hx,hg,hr,fun _=>ha (by omega)⟩
 ·have:=(hid x hx).1;exact v.itemH x hx (by omega) h5
theorem Val.close {it:Int} {c:Circ} (v:Val it c) {x:Item} (hx:x∈c.Items) (hi:x.ID=it)
 (h1:∀n∈c.Loans,n.Item=it→a1j x.Custody=true∧x.Custody.Who=n.Patron) (h2:a1j x.Custody=true→∃n∈c.Loans,n.Item=it)
 (h3:∀h∈c.Holds,h.State≠1→h.Got=it→e9n x.Custody h) (h4:x.Custody.State=5→∃h∈c.Holds,h.Got=it∧h.State=3):Val 0 c:=by
 refine ⟨v.nums,v.patrons,v.loans,v.holds,v.charges,v.rules,v.cals,v.chG,v.items,v.loanP,fun n hn=>?_,fun y hy _ hw=>?_,v.holdP,fun o ho hs1=>?_,fun y hy _ h5=>?_⟩
 ·obtain ⟨y,hy,hiy,hw⟩:=v.loanI n hn;refine ⟨y,hy,hiy,fun _=>?_⟩;by_cases e:n.Item=it
  ·have:=u6 v.items hy hx (by omega);subst this;exact h1 n hn e
  ·exact hw e
 ·by_cases e:y.ID=it
  ·have:=u6 v.items hy hx (by omega);subst this;obtain ⟨n,hn,e2⟩:=h2 hw;exact ⟨n,hn,by omega⟩
  ·exact v.itemL y hy e hw
 ·obtain ⟨y,hy,hg,hr,ha⟩:=v.holdI o ho hs1;refine ⟨y,hy,hg,hr,fun _=>?_⟩;by_cases e:o.Got=it
  ·have:=u6 v.items hy hx (by omega);subst this;exact h3 o ho hs1 e
  ·exact ha e
 ·by_cases e:y.ID=it
  ·have:=u6 v.items hy hx (by omega);subst this;obtain ⟨n,hn,e2,e3⟩:=h4 h5;exact ⟨n,hn,by omega,e3⟩
  ·exact v.itemH y hy e h5
end
section
theorem a9b {c:Circ} (h:a0g c=true):∀(i:Nat) (x:Item) (j:Nat) (y:Item),c.Items[i]?=some x→c.Items[j]?=some y→x.ID=y.ID→i=j:=by
 intro i x j y hx hy e;have hs:=a1p h;rcases Nat.lt_trichotomy i j with hl|hl|hl
 ·have:=a19 (key:=fun y:Item=>y.ID) hs j i x y hl hx hy;omega
 ·exact hl
 ·have:=a19 (key:=fun y:Item=>y.ID) hs i j y x hl hy hx;omega
theorem a2x {c:Circ} (h:a0g c=true) {i:Nat} {x:Item} (hx:c.Items[i]?=some x) {m:Move} {u:Custody} {y:Item}:y∈(p7 c i x m u).Items↔(y∈c.Items∧y.ID≠x.ID)∨y=t8 u x:=by
 have hit:(p7 c i x m u).Items=c.Items.map (b6t x u):=d0c (a9b h) hx;rw[hit,ybb];constructor
 ·rintro ⟨z,hz,rfl⟩;unfold b6t;by_cases e:z.ID=x.ID
  ·have:=u6 h hz (yaf hx) e;subst this;right;simp
  ·left;rw[show (z.ID==x.ID)=false by simpa using e];exact ⟨hz,e⟩
 ·rintro (⟨hy,e⟩|rfl)
  ·refine ⟨y,hy,?_⟩;unfold b6t;rw[show (y.ID==x.ID)=false by simpa using e];rfl
  ·refine ⟨x,yaf hx,?_⟩;unfold b6t;simp
theorem Val.move {c:Circ} {i:Nat} {x:Item} (v:Val x.ID c) (hx:c.Items[i]?=some x) {m:Move} {u:Custody} (hm:m.Item=x.ID) (ha:m5 x.Custody m=(u,0)) (hl:c.Moves.length<2000):Val x.ID (p7 c i x m u):=by
 have mm:=fun y=>a2x (y:=y) v.items hx (m:=m) (u:=u)
 refine ⟨v.nums,v.patrons,v.loans,v.holds,v.charges,v.rules,v.cals,v.chG,d1s v.items (a9b v.items) hx hm ha hl,v.loanP,fun n hn=>?_,fun y hy hne hw=>?_,v.holdP,fun o ho h1=>?_,fun y hy hne h5=>?_⟩
 ·obtain ⟨y,hy,hi,hw⟩:=v.loanI n hn;by_cases e:y.ID=x.ID
  ·exact ⟨t8 u x,(mm _).2 (.inr rfl),e.symm.trans hi,fun q=>absurd (hi.symm.trans e) q⟩
  ·exact ⟨y,(mm _).2 (.inl ⟨hy,e⟩),hi,hw⟩
 ·rcases (mm y).1 hy with ⟨hy,_⟩|rfl
  ·exact v.itemL y hy hne hw
  ·exact absurd rfl hne
 ·obtain ⟨y,hy,hg,hr,ha⟩:=v.holdI o ho h1;by_cases e:y.ID=x.ID
  ·have:=u6 v.items hy (yaf hx) e;subst this;exact ⟨t8 u y,(mm _).2 (.inr rfl),hg,hr,fun q=>absurd hg.symm q⟩
  ·exact ⟨y,(mm _).2 (.inl ⟨hy,e⟩),hg,hr,ha⟩
 ·rcases (mm y).1 hy with ⟨hy,_⟩|rfl
  ·exact v.itemH y hy hne h5
  ·exact absurd rfl hne
theorem a6j {l:List Hold} (h:w6 l=0) {o p:Hold} (ho:o∈l) (hp:p∈l) (e:o.ID=p.ID):o=p:=b7t (a2m h) ho hp e
def b3q (l:List Hold) (id:Int) (o:Hold):List Hold:=l.map (fun z=>bif z.ID==id then o else z)
theorem a2y {l:List Hold} {o p z:Hold} (ho:o∈l):z∈b3q l o.ID p↔(z∈l∧z.ID≠o.ID)∨z=p:=by
 unfold b3q;rw[ybb];constructor
 ·rintro ⟨y,hy,rfl⟩;by_cases e:y.ID=o.ID
  ·right;rw[show (y.ID==o.ID)=true by simpa using e];rfl
  ·left;rw[show (y.ID==o.ID)=false by simpa using e];exact ⟨hy,e⟩
 ·rintro (⟨hz,e⟩|rfl)
  ·exact ⟨z,hz,by rw[show (z.ID==o.ID)=false by simpa using e];rfl⟩
  ·exact ⟨o,ho,by rw[show (o.ID==o.ID)=true by simp];rfl⟩
theorem e9h {l:List Hold} (h:w6 l=0) {o p:Hold} (ho:o∈l) (k1:p.ID=o.ID) (k2:p.Patron=o.Patron) (k3:p.Record=o.Record) (hs:m6 p=0) (hg:∀z∈l,0<p.Got→z.Got=p.Got→z.ID=o.ID):w6 (b3q l o.ID p)=0:=by
 rw[b48]at h ⊢;obtain ⟨h1,⟨h2,h3⟩,h4⟩:=h;refine ⟨by unfold b3q;rw[ya1];exact h1,⟨fun z hz=>?_,?_⟩,?_⟩
 ·rcases (a2y ho).1 hz with ⟨hz,_⟩|rfl
  ·exact h2 z hz
  ·exact hs
 ·unfold b3q;rw[List.pairwise_map];have key:∀z:Hold,(bif z.ID==o.ID then p else z).ID=z.ID:=by
   intro z;by_cases e:z.ID=o.ID
   ·rw[show (z.ID==o.ID)=true by simpa using e,yac,k1,e]
   ·rw[show (z.ID==o.ID)=false by simpa using e];rfl
  refine h3.imp (fun {a b} q=>?_);rw[key,key];exact q
 ·unfold b3q;rw[List.pairwise_map];refine (h3.and h4).imp_of_mem (fun {a b} ha hb q=>?_);obtain ⟨q1,q2⟩:=q;have one:∀z∈l,z.ID=o.ID→z=o:=fun z hz e=>b7t (c6r.2 h3) hz ho e
  unfold z8 at q2 ⊢;simp only[yai,ybj,yaX,ne_eq,yag]at q2 ⊢;by_cases ea:a.ID=o.ID
  ·have:=one a ha ea;subst this;have eb:¬b.ID=a.ID:=by omega
   rw[show (b.ID==a.ID)=false by simpa using eb,show (a.ID==a.ID)=true by simp];simp only[yac,yaa,k2,k3];refine ⟨q2.1,?_⟩;by_cases e:b.Got=p.Got
   ·left;intro hpos;exact eb (hg b hb (by omega) e)
   ·exact .inr e
  ·by_cases eb:b.ID=o.ID
   ·have:=one b hb eb;subst this;rw[show (a.ID==b.ID)=false by simpa using ea,show (b.ID==b.ID)=true by simp];simp only[yac,yaa,k2,k3];refine ⟨q2.1,?_⟩;by_cases e:p.Got=a.Got
    ·left;intro hpos;exact ea (hg a ha hpos e.symm)
    ·exact .inr e
   ·rw[show (a.ID==o.ID)=false by simpa using ea,show (b.ID==o.ID)=false by simpa using eb];exact q2
theorem Val.swap {it:Int} {c:Circ} (v:Val it c) {o p:Hold} (ho:o∈c.Holds) (k1:p.ID=o.ID) (k2:p.Patron=o.Patron) (k3:p.Record=o.Record) (hs:m6 p=0) (hg:∀z∈c.Holds,0<p.Got→z.Got=p.Got→z.ID=o.ID)
 (old:o.State≠3∨o.Got=it) (new:p.State≠1→p.Got=it∧∃x∈c.Items,x.ID=it∧x.Record=o.Record):Val it (u9 c (b3q c.Holds o.ID p)):=by
 refine ⟨v.nums,v.patrons,v.loans,e9h v.holds ho k1 k2 k3 hs hg,v.charges,v.rules,v.cals,v.chG,v.items,v.loanP,v.loanI,v.itemL,fun z hz=>?_,fun z hz h1=>?_,fun y hy hne h5=>?_⟩
 ·rcases (a2y ho).1 hz with ⟨hz,_⟩|rfl
  ·exact v.holdP z hz
  ·have:=v.holdP o ho;exact ⟨by rw[k2];exact this.1,by rw[k1];exact this.2⟩
 ·rcases (a2y ho).1 hz with ⟨hz,_⟩|rfl
  ·exact v.holdI z hz h1
  ·obtain ⟨e,x,hx,hi,hr⟩:=new h1;exact ⟨x,hx,by rw[hi,e],by rw[hr,k3],fun q=>absurd e q⟩
 ·obtain ⟨z,hz,e,e3⟩:=v.itemH y hy hne h5;refine ⟨z,(a2y ho).2 (.inl ⟨hz,fun q=>?_⟩),e,e3⟩;have:=a6j v.holds hz ho q;subst this;rcases old with q|q
  ·exact q e3
  ·exact hne (e.symm.trans q)
theorem Val.setLoans {it:Int} {c:Circ} (v:Val it c) {l:List Loan} (he:y8 l=0) (h1:∀n∈l,(a3j c.Patrons n.Patron).2=true∧((∃n0∈c.Loans,n0.Item=n.Item∧n0.Patron=n.Patron)∨(n.Item=it∧∃x∈c.Items,x.ID=it)))
 (h2:∀n0∈c.Loans,n0.Item≠it→∃n∈l,n.Item=n0.Item):Val it (j9 c l):=by
 refine ⟨v.nums,v.patrons,he,v.holds,v.charges,v.rules,v.cals,v.chG,v.items,fun n hn=>(h1 n hn).1,fun n hn=>?_,fun x hx hne hw=>?_,v.holdP,v.holdI,v.itemH⟩
 ·rcases (h1 n hn).2 with ⟨n0,hn0,e1,e2⟩|⟨e,x,hx,hi⟩
  ·obtain ⟨x,hx,hi,hw⟩:=v.loanI n0 hn0;exact ⟨x,hx,by rw[hi,e1],fun q=>by have:=hw (by rw[e1];exact q);rw[e2]at this;exact this⟩
  ·exact ⟨x,hx,by rw[hi,e],fun q=>absurd e q⟩
 ·obtain ⟨n,hn,e⟩:=v.itemL x hx hne hw;obtain ⟨m,hm,e2⟩:=h2 n hn (by rw[e];exact hne);exact ⟨m,hm,e2.trans e⟩
theorem c5g {c:Circ} (h:a3l c=true):(0≤c.Today∧c.Today≤109572)∧(1≤c.NextHold∧c.NextHold≤100000)∧(1≤c.NextCharge∧c.NextCharge≤100000):=by
 unfold a3l at h;simp only[yan,yai,yag]at h;omega
theorem g1f {c:Circ} (h:(0≤c.Today∧c.Today≤109572)∧(1≤c.NextHold∧c.NextHold≤100000)∧(1≤c.NextCharge∧c.NextCharge≤100000)):a3l c=true:=by
 unfold a3l;simp only[yan,yai,yag];omega
theorem b90 {c:Circ} {x:Charge} (h:a0h c x=true):(a3j c.Patrons x.Patron).2=true∧x.ID<c.NextCharge:=by
 unfold a0h at h;simp only[yan,yai,yaw,yag]at h;exact ⟨h.1,by omega⟩
theorem d5j {c:Circ} {x:Charge} (h:(a3j c.Patrons x.Patron).2=true) (h2:x.ID<c.NextCharge):a0h c x=true:=by
 unfold a0h;simp only[yan,yai,yaw,yag];exact ⟨h,by omega⟩
theorem Val.setCharges {it:Int} {c:Circ} (v:Val it c) {l:List Charge} {n:Int} (he:m8 l=0) (hn:c.NextCharge≤n∧n≤100000) (h1:∀x∈l,(a3j c.Patrons x.Patron).2=true∧x.ID<n):Val it (a4s c l n):=by
 have hv:=c5g v.nums;exact ⟨g1f ⟨hv.1,hv.2.1,(by omega:1≤n),hn.2⟩,v.patrons,v.loans,v.holds,he,v.rules,v.cals,fun x hx=>d5j (h1 x hx).1 (h1 x hx).2,v.items,v.loanP,v.loanI,v.itemL,v.holdP,v.holdI,v.itemH⟩
end
end Go.Proofs.YteaknldbhmocpaaGreatDoor
