/- OfflinePlays: a part of the proof of the given statement, which is proved without conditions. -/
import Derived.Test.YtnajckeiaobmkaaGreatDoorG5
import Derived.Laws.BitsLemmas
import Derived.KernelRfl
set_option linter.all false
namespace Go.Proofs.YtnajckeiaobmkaaGreatDoor
open Ev
open Go (IntKind)
section
section
variable {α β σ X:Type}
def d76 {step:α→Option (α⊕β)}:∀{n m:Nat} {a:α} {b:β},n≤m→o9 step n a=some b→o9 step m a=some b:=by
 intro n
 induction n with
 |zero=>intro m a b _ h;cases h
 |succ n ih=>
  intro m a b hm h;obtain ⟨m,rfl⟩:∃k,m=k+1:=⟨m-1,by omega⟩
  simp only[o9]at h ⊢;cases h1:step a with
  |none=>rw[h1]at h;cases h
  |some x=>
   rw[h1]at h;cases x with
   |inl a'=>exact ih (by omega) h
   |inr b'=>exact h
def o8 {step:α→Option (α⊕β)} {a:α} {b:β} (n:Nat) (hn:n≤c2q) (h:o9 step n a=some b):c6 step a=some b:=d76 hn h
def f1z {step:α→Option (α⊕β)} (Inv:α→Prop) (μ:α→Nat) (f:α→β)
 (h:∀a,Inv a→(∃a',step a=some (.inl a')∧Inv a'∧μ a'<μ a∧f a'=f a)∨step a=some (.inr (f a))) {a:α} (ha:Inv a) (hm:μ a<c2q):c6 step a=some (f a):=by
 have key:∀n a,Inv a→μ a<n→o9 step n a=some (f a):=by
  intro n
  induction n with
  |zero=>intro a _ h;omega
  |succ n ih=>
   intro a hi hn;simp only[o9];rcases h a hi with ⟨a',h1,h2,h3,h4⟩|h1
   ·rw[h1];simp only;rw[ih a' h2 (by omega),h4]
   ·rw[h1]
 exact key c2q a ha hm
def a3s (f:Nat→X→σ→σ⊕β) (fin:σ→β):Nat→List X→σ→β
 |_,[],s=>fin s
 |i,x::l,s=>match f i x s with
  |.inl s'=>a3s f fin (i+1) l s'
  |.inr b=>b
def u0 {step:α→Option (α⊕β)} (Inv:Nat→σ→Prop) (enc:Nat→σ→α) (l:List X) (f:Nat→X→σ→σ⊕β) (fin:σ→β) (hl:l.length<c2q)
 (h0:∀s,Inv l.length s→step (enc l.length s)=some (.inr (fin s)))
 (h1:∀i x s,l[i]?=some x→Inv i s→(step (enc i s)=some (match f i x s with | .inl s'=>.inl (enc (i+1) s') | .inr b=>.inr b))∧∀s',f i x s=.inl s'→Inv (i+1) s')
 (s:σ) (hs:Inv 0 s):c6 step (enc 0 s)=some (a3s f fin 0 l s):=by
 have key:∀k i s,i+k=l.length→Inv i s→o9 step (k+1) (enc i s)=some (a3s f fin i (l.drop i) s):=by
  intro k
  induction k with
  |zero=>
   intro i s hi hs;have:i=l.length:=by omega
   subst this;rw[List.drop_length];simp only[o9,h0 s hs,a3s]
  |succ k ih=>
   intro i s hi hs;have hlt:i<l.length:=by omega
   obtain ⟨e1,e2⟩:=h1 i l[i] s (yab hlt) hs;rw[yby hlt];rw[o9,e1];simp only[a3s];cases hf:f i l[i] s with
   |inl s'=>simp only;exact ih (i+1) s' (by omega) (e2 s' hf)
   |inr b=>rfl
 have:=key l.length 0 s (by omega) hs;exact o8 (l.length+1) (by omega) (by simpa using this)
def a2k {step:α→Option (α⊕β)} (enc:Nat→σ→α) (l:List X) (f:Nat→X→σ→σ⊕β) (fin:σ→β) (hl:l.length<c2q)
 (h0:∀s,step (enc l.length s)=some (.inr (fin s)))
 (h1:∀i x s,l[i]?=some x→step (enc i s)=some (match f i x s with | .inl s'=>.inl (enc (i+1) s') | .inr b=>.inr b))
 (s:σ):c6 step (enc 0 s)=some (a3s f fin 0 l s):=
 u0 (λ_ _=>True) enc l f fin hl (λs _=>h0 s) (λi x s hx _=>⟨h1 i x s hx,λ_ _=>trivial⟩) s trivial
def a68 (p:X→Bool) (l:List X):Int:=match l.findIdx? p with|some i=>(i:Int)|none=>-1
def a0j (f:Nat→X→Int):Nat→List X→Int
 |_,[]=>0
 |i,x::l=>if f i x==0 then a0j f (i+1) l else f i x
def e8l {f:Nat→X→Int} {d:β} {g:Int→β}:∀{l:List X} {i:Nat},a3s (σ:=Unit) (λi x _=>if f i x==0 then .inl () else .inr (g (f i x))) (λ_=>d) i l ()=if a0j f i l==0 then d else g (a0j f i l):=by
 intro l
 induction l with
 |nil=>intros;rfl
 |cons x l ih=>
  intro i;simp only[a3s,a0j];by_cases h:(f i x==0)=true
  ·simp only[h,ybD];exact ih
  ·have h2:¬f i x=0:=λe=>h (by simp[e])
   simp[h2]
def a6h {f:Nat→X→Int}:∀{l:List X} {i:Nat},a0j f i l=0↔∀k x,l[k]?=some x→f (i+k) x=0:=by
 intro l
 induction l with
 |nil=>intro i;simp[a0j]
 |cons y l ih=>
  intro i;simp only[a0j];constructor
  ·intro h k x hk;split at h
   ·rename_i h1;cases k with
    |zero=>simp at hk;subst hk;simpa using h1
    |succ k=>have:=(ih (i:=i+1)).1 h k x (by simpa using hk);rwa [show i+(k+1)=i+1+k by omega]
   ·rename_i h1;exfalso;apply h1;simp[h]
  ·intro h;have h0:=h 0 y rfl;simp only[ya9]at h0;rw[h0];simp only[yal,ybD];exact ih.2 (λk x hk=>by have:=h (k+1) x (by simpa using hk);rwa [show i+(k+1)=i+1+k by omega]at this)
def a0k {f:X→σ→σ} {fin:σ→β}:∀{l:List X} {i:Nat} {s:σ},a3s (λ_ x s=>.inl (f x s)) fin i l s=fin (l.foldl (λs x=>f x s) s):=by
 intro l
 induction l with
 |nil=>intros;rfl
 |cons x l ih=>intro i s;simp only[a3s,ybp];exact ih
end
section
variable {α β σ X:Type} {step:α→Option (α⊕β)}
def a66 (a:α) (g:Int→β) (e:Int):Option (α⊕β):=if e==0 then some (.inl a) else some (.inr (g e))
def a03 (a:α) (g:Int→β) (b:Bool) (x y:Int):a66 a g (bif b then x else y)=bif b then a66 a g x else a66 a g y:=by cases b<;>rfl
def a1b (enc:Nat→α) (l:List X) (f:Nat→X→Int) (d:β) (g:Int→β) (hl:l.length<1000000000) (h0:step (enc l.length)=some (.inr d))
 (h1:∀i x,l[i]?=some x→step (enc i)=a66 (enc (i+1)) g (f i x)):c6 step (enc 0)=some (if a0j f 0 l==0 then d else g (a0j f 0 l)):=by
 have h:=a2k (step:=step) (λi (_:Unit)=>enc i) l (λi x _=>if f i x==0 then .inl () else .inr (g (f i x))) (λ_=>d) (by show l.length<18446744073709551616;omega) (λ_=>h0)
  (λi x _ hx=>by rw[h1 i x hx];unfold a66;split<;>rfl) ()
 rw[h,e8l]
def a2v (p:X→Bool) (g:Nat→X→β) (d:β):Nat→List X→β
 |_,[]=>d
 |i,x::l=>bif p x then g i x else a2v p g d (i+1) l
def w9 (enc:Nat→α) (l:List X) (p:X→Bool) (g:Nat→X→β) (d:β) (hl:l.length<1000000000) (h0:step (enc l.length)=some (.inr d))
 (h1:∀i x,l[i]?=some x→step (enc i)=bif p x then some (.inr (g i x)) else some (.inl (enc (i+1)))):c6 step (enc 0)=some (a2v p g d 0 l):=by
 have h:=a2k (step:=step) (λi (_:Unit)=>enc i) l (λi x _=>if p x then .inr (g i x) else .inl ()) (λ_=>d) (by show l.length<18446744073709551616;omega) (λ_=>h0)
  (λi x _ hx=>by rw[h1 i x hx];cases p x<;>rfl) ()
 rw[h];have key:∀(l:List X) (i:Nat),a3s (σ:=Unit) (λi x _=>if p x then .inr (g i x) else .inl ()) (λ_=>d) i l ()=a2v p g d i l:=by
  intro l
  induction l with
  |nil=>intro i;rfl
  |cons x l ih=>
   intro i;simp only[a3s,a2v];cases p x with
   |true=>rfl
   |false=>exact ih _
 rw[key]
def b0o {p:X→Bool} {g:X→β} {d:β}:∀{l:List X} {i:Nat},a2v p (λ_ x=>g x) d i l=(match l.find? p with|some x=>g x|none=>d):=by
 intro l
 induction l with
 |nil=>intros;rfl
 |cons x l ih=>intro i;simp only[a2v,List.find?_cons];cases p x with|true=>rfl|false=>exact ih
def e4j {p:X→Bool}:∀{l:List X} {i:Nat},a2v p (λi _=>(i:Int)) (-1) i l=(match l.findIdx? p with|some k=>((i+k:Nat):Int)|none=>-1):=by
 intro l
 induction l with
 |nil=>intros;rfl
 |cons x l ih=>
  intro i;simp only[a2v,ybI];cases p x with
  |true=>rfl
  |false=>
   simp only[yaz,ybd,yaa];rw[ih];cases l.findIdx? p with
   |none=>rfl
   |some k=>simp only[ybz];rw[show i+1+k=i+(k+1) by omega]
def a2m {p:X→Bool} {l:List X}:a2v p (λi _=>(i:Int)) (-1) 0 l=a68 p l:=by
 rw[e4j];unfold a68;simp
def a1o {γ:Type} {p:X→Bool} {g:Nat→X→β} {d:β} (f:β→γ):∀{l:List X} {i:Nat},f (a2v p g d i l)=a2v p (λi x=>f (g i x)) (f d) i l:=by
 intro l
 induction l with
 |nil=>intros;rfl
 |cons x l ih=>intro i;simp only[a2v];cases p x with|true=>rfl|false=>exact ih
def a1v (p:Nat→X→Bool):Nat→List X→Bool
 |_,[]=>true
 |i,x::l=>p i x&&a1v p (i+1) l
def m0 (enc:Nat→α) (l:List X) (p:Nat→X→Bool) (b d:β) (hl:l.length<1000000000) (h0:step (enc l.length)=some (.inr d))
 (h1:∀i x,l[i]?=some x→step (enc i)=bif p i x then some (.inl (enc (i+1))) else some (.inr b)):c6 step (enc 0)=some (bif a1v p 0 l then d else b):=by
 have h:=a2k (step:=step) (λi (_:Unit)=>enc i) l (λi x _=>if p i x then .inl () else .inr b) (λ_=>d) (by show l.length<18446744073709551616;omega) (λ_=>h0)
  (λi x _ hx=>by rw[h1 i x hx];cases p i x<;>rfl) ()
 rw[h];have key:∀(l:List X) (i:Nat),a3s (σ:=Unit) (λi x _=>if p i x then .inl () else .inr b) (λ_=>d) i l ()=bif a1v p i l then d else b:=by
  intro l
  induction l with
  |nil=>intro i;rfl
  |cons x l ih=>
   intro i;simp only[a3s,a1v];cases p i x with
   |true=>exact ih _
   |false=>rfl
 rw[key]
def o6 {p:X→Bool}:∀{l:List X} {i:Nat},a1v (λ_=>p) i l=l.all p:=by
 intro l
 induction l with
 |nil=>intros;rfl
 |cons x l ih=>intro i;simp only[a1v,ybR];rw[ih]
def a4c {p:Nat→X→Bool}:∀{l:List X} {i:Nat},a1v p i l=true↔∀k x,l[k]?=some x→p (i+k) x=true:=by
 intro l
 induction l with
 |nil=>intro i;simp[a1v]
 |cons y l ih=>
  intro i;simp only[a1v,yae];rw[ih];constructor
  ·rintro ⟨h0,h⟩ k x hk;cases k with
   |zero=>simp at hk;subst hk;exact h0
   |succ k=>have:=h k x (by simpa using hk);rwa [show i+(k+1)=i+1+k by omega]
  ·intro h;exact ⟨h 0 y rfl,λk x hk=>by have:=h (k+1) x (by simpa using hk);rwa [show i+(k+1)=i+1+k by omega]at this⟩
def b6s (enc:Nat→σ→α) (l:List X) (f:X→σ→σ) (fin:σ→β) (hl:l.length<1000000000) (h0:∀s,step (enc l.length s)=some (.inr (fin s)))
 (h1:∀i x s,l[i]?=some x→step (enc i s)=some (.inl (enc (i+1) (f x s)))) (s:σ):c6 step (enc 0 s)=some (fin (l.foldl (λs x=>f x s) s)):=by
 have h:=a2k (step:=step) enc l (λi x s=>.inl (f x s)) fin (by show l.length<18446744073709551616;omega) h0 (λi x s hx=>by rw[h1 i x s hx]) s;rw[h,a0k]
end
def w7 {X:Type} (l:List X) (i:Nat) (f:X→Bool):Bool:=match i with
 |0=>false
 |j+1=>match l[j]? with|some y=>f y|none=>false
def a0l {n:Int} (h1 : -9223372036854775808≤n) (h2:n≤9223372036854775807):wr .i64 n=n:=by
 unfold wr;rw[IntKind.wrap_i64];omega
def a0c {n:Nat} (h:n<9223372036854775807):wr .i64 ((n:Int)+1)=((n+1:Nat):Int):=by
 rw[a0l (by omega) (by omega)];rfl
def wS (n:Nat) (h:n<9223372036854775807:=by omega):wr .i64 ((n:Int)+1)=((n+1:Nat):Int):=a0c h
def a34 {j:Nat} (h:j<1000000000):wr .i64 (((j+1:Nat):Int)-1)=(j:Int):=by
 rw[show ((j+1:Nat):Int)-1=(j:Int) by omega];exact a0l (by omega) (by omega)
def e37 {j:Nat}:decide ((0:Int)<((j+1:Nat):Int))=true:=by rw[yad];omega
def b62:decide ((0:Int)<((0:Nat):Int))=false:=rfl
def d9 {α:Type} (l:List α) (i:Nat):o0 l (i:Int)=l[i]?:=by
 unfold o0;simp
def g0e:LIM=1073741824:=rfl
def o4:c2q=18446744073709551616:=rfl
end
section
def dlt {i n:Nat} (h:i<n):decide ((i:Int)<(n:Int))=true:=by simpa using h
def dge {n:Nat}:decide ((n:Int)<(n:Int))=false:=by simp
def a0x {α:Type} (k:Bool→α) (a b:Bool):(bif a then k true else k b)=k (a||b):=by cases a<;>rfl
def s9 {α:Type} (k:Bool→α) (a b:Bool):(bif a then k b else k false)=k (a&&b):=by cases a<;>rfl
def a91 {α:Type} (k:Bool→α) (a b:Bool):(bif a then k a else k b)=k (a||b):=by cases a<;>rfl
def a2n {α:Type} (c:Bool) (a b:α):(bif c then some a else some b)=some (bif c then a else b):=by cases c<;>rfl
def h92 (b:UInt8):wr .i64 (b.toNat:Int)=(b.toNat:Int):=by
 have:=b.toNat_lt;exact a0l (by omega) (by omega)
def i7e (r:List UInt8):Int×Int:=(((dcd r).1:Int),((dcd r).2:Int))
def e7j {s:List UInt8} {i:Nat} (hi:i<s.length) (hs:s.length<1000000000):qcw s (i:Int)=some (i7e (s.drop i)):=by
 obtain ⟨a,r,hr⟩:∃a r,s.drop i=a::r:=⟨s[i],s.drop (i+1),yby hi⟩
 have g:∀k,o0 s ((i+k:Nat):Int)=(a::r)[k]?:=λk=>by rw[d9,←hr,ybH]
 have h0:o0 s (i:Int)=some a:=g 0;have w1:wr .i64 ((i:Int)+1)=((i+1:Nat):Int):=a0c (by omega);have w2:wr .i64 ((i:Int)+2)=((i+2:Nat):Int):=by rw[a0l (by omega) (by omega)];rfl
 have hl:s.length=i+(r.length+1):=by
  have:=congrArg List.length hr;simp only[yaZ,yaQ]at this;omega
 have ha:=a.toNat_lt;unfold qcw;rw[hr];unfold i7e dcd;have t1:decide (((i+1:Nat):Int)<((i+(r.length+1):Nat):Int))=decide (0<r.length):=by congr 1;simp only[eq_iff_iff];omega
 have t2:decide (((i+2:Nat):Int)<((i+(r.length+1):Nat):Int))=decide (1<r.length):=by congr 1;simp only[eq_iff_iff];omega
 simp -zeta only[h0,w1,w2,g 1,g 2,h92,a0x,s9,hl,t1,t2];dsimp only;clear hl t1 t2 g hr hi h0 w1 w2 hs;by_cases c1:32≤a.toNat∧a.toNat<127
 ·have e1:(decide ((32:Int)≤(a.toNat:Int))&&decide ((a.toNat:Int)<127))=true:=by simp;omega
  simp only[e1,yac,yaE c1];rfl
 have e1:(decide ((32:Int)≤(a.toNat:Int))&&decide ((a.toNat:Int)<127))=false:=by simp;omega
 simp only[e1,yaa,yap c1];by_cases c2:194≤a.toNat∧a.toNat<224
 ·have e2:(decide ((194:Int)≤(a.toNat:Int))&&decide ((a.toNat:Int)<224))=true:=by simp;omega
  have e3:decide ((224:Int)≤(a.toNat:Int))=false:=by simp;omega
  simp only[e2,e3,ya8,ybw,yaa,yaE c2];rcases r with _|⟨b,r⟩
  ·rfl
  have hb:=b.toNat_lt;have l1:decide (0<(b::r).length)=true:=by simp
  have g1:(a::b::r)[1]?=some b:=rfl;have e4:wr .i64 ((wr .i64 ((wr .i64 ((wr .i64 ((a.toNat:Int)-192))*64))+(b.toNat:Int)))-128)=((a.toNat:Int)-192)*64+(b.toNat:Int)-128:=by
   rw[a0l (n:=(a.toNat:Int)-192) (by omega) (by omega),a0l (n:=((a.toNat:Int)-192)*64) (by omega) (by omega),a0l (n:=((a.toNat:Int)-192)*64+(b.toNat:Int)) (by omega) (by omega),a0l (by omega) (by omega)]
  simp only[l1,g1,e4,yac];by_cases cb:128≤b.toNat
  ·have b1:decide ((128:Int)≤(b.toNat:Int))=true:=by simp;omega
   simp only[b1,yac];by_cases cb2:b.toNat<192
   ·have b2:decide ((b.toNat:Int)<192)=true:=by simp;omega
    simp only[b2,g1,yac,Bool.cond_eq_ite,yad];rw[yaE True.intro];split
    ·rw[yaE (by omega)];simp only[yam,ya7];omega
    ·rw[yap (by omega)];rfl
   ·have b2:decide ((b.toNat:Int)<192)=false:=by simp;omega
    simp only[b2,yaa];rw[yap (by omega)];rfl
  ·have b1:decide ((128:Int)≤(b.toNat:Int))=false:=by simp;omega
   simp only[b1,yaa];rw[yap (by omega)];rfl
 have e2:(decide ((194:Int)≤(a.toNat:Int))&&decide ((a.toNat:Int)<224))=false:=by simp;omega
 simp only[e2,ybw,yaa,yap c2];by_cases c3:224≤a.toNat∧a.toNat<240
 ·have e3:(decide ((224:Int)≤(a.toNat:Int))&&decide ((a.toNat:Int)<240))=true:=by simp;omega
  simp only[e3,ya8,yaE c3];rcases r with _|⟨b,_|⟨c,r⟩⟩
  ·rfl
  ·rfl
  have hb:=b.toNat_lt;have hc:=c.toNat_lt;have l1:decide (1<(b::c::r).length)=true:=by simp
  have g1:(a::b::c::r)[1]?=some b:=rfl;have g2:(a::b::c::r)[2]?=some c:=rfl;have e4:wr .i64 ((wr .i64 ((wr .i64 ((wr .i64 ((wr .i64 ((a.toNat:Int)-224))*4096))+(wr .i64 ((wr .i64 ((b.toNat:Int)-128))*64))))+(c.toNat:Int)))-128)=((a.toNat:Int)-224)*4096+((b.toNat:Int)-128)*64+(c.toNat:Int)-128:=by
   rw[a0l (n:=(a.toNat:Int)-224) (by omega) (by omega),a0l (n:=((a.toNat:Int)-224)*4096) (by omega) (by omega),a0l (n:=(b.toNat:Int)-128) (by omega) (by omega),a0l (n:=((b.toNat:Int)-128)*64) (by omega) (by omega),
    a0l (n:=((a.toNat:Int)-224)*4096+((b.toNat:Int)-128)*64) (by omega) (by omega),a0l (n:=((a.toNat:Int)-224)*4096+((b.toNat:Int)-128)*64+(c.toNat:Int)) (by omega) (by omega),a0l (by omega) (by omega)]
  simp only[l1,g1,g2,e4,yac];by_cases cb:128≤b.toNat
  ·have b1:decide ((128:Int)≤(b.toNat:Int))=true:=by simp;omega
   simp only[b1,yac];by_cases cb2:b.toNat<192
   ·have b2:decide ((b.toNat:Int)<192)=true:=by simp;omega
    simp only[b2,yac];by_cases cc:128≤c.toNat
    ·have d1:decide ((128:Int)≤(c.toNat:Int))=true:=by simp;omega
     simp only[d1,yac];by_cases cc2:c.toNat<192
     ·have d2:decide ((c.toNat:Int)<192)=true:=by simp;omega
      simp only[d2,g1,g2,yac,Bool.cond_eq_ite,yae,ybr,yad];rw[yaE True.intro];split
      ·rw[yaE (by omega)];simp only[yam,ya7];omega
      ·rw[yap (by omega)];rfl
     ·have d2:decide ((c.toNat:Int)<192)=false:=by simp;omega
      simp only[d2,yaa];rw[yap (by omega)];rfl
    ·have d1:decide ((128:Int)≤(c.toNat:Int))=false:=by simp;omega
     simp only[d1,yaa];rw[yap (by omega)];rfl
   ·have b2:decide ((b.toNat:Int)<192)=false:=by simp;omega
    simp only[b2,yaa];rw[yap (by omega)];rfl
  ·have b1:decide ((128:Int)≤(b.toNat:Int))=false:=by simp;omega
   simp only[b1,yaa];rw[yap (by omega)];rfl
 ·have e3:(decide ((224:Int)≤(a.toNat:Int))&&decide ((a.toNat:Int)<240))=false:=by simp;omega
  simp only[e3,ybw,yaa,yap c3];rfl
def g23 (l:List UInt8):(dcd l).2≤l.length:=by
 unfold dcd;split
 ·simp
 ·rename_i a r;split
  ·simp
  ·split
   ·split
    ·split<;>simp
    ·simp
   ·split
    ·split
     ·split<;>simp
     ·simp
    ·simp
def f1w (n:Nat) {s:List UInt8} {i:Nat} (hi:i<s.length):d98 (n+1) (s.drop i)=if (dcd (s.drop i)).2=0 then false else d98 n (s.drop (i+(dcd (s.drop i)).2)):=by
 have:s.drop i≠[]:=by simp;omega
 simp only[d98,this,ybd,List.drop_drop]
def g43 {s:List UInt8} (hs:s.length<1000000000):qa4 s=some (vld s):=by
 have key:∀n i,s.length-i≤n→i≤s.length→o9 b8k (n+1) (s,(i:Int),())=some (if d98 n (s.drop i) then .inl () else .inr (false,())):=by
  intro n
  induction n with
  |zero=>
   intro i h1 h2;have:i=s.length:=by omega
   subst this;simp only[o9,b8k,dge,yaa,d98,ybD]
  |succ n ih=>
   intro i h1 h2;rw[o9];by_cases hi:i<s.length
   ·rw[f1w n hi];have hle:=g23 (s.drop i);rw[yaZ]at hle;simp only[b8k,dlt hi,yac,e7j hi hs,i7e];by_cases h0:(dcd (s.drop i)).2=0
    ·simp[h0]
    ·have hb:(((dcd (s.drop i)).2:Int)==0)=false:=by simp;omega
     have hw:wr .i64 ((i:Int)+((dcd (s.drop i)).2:Int))=((i+(dcd (s.drop i)).2:Nat):Int):=by rw[a0l (by omega) (by omega)];rfl
     simp only[hb,yaa,hw,h0,ybd];exact ih _ (by omega) (by omega)
   ·have:i=s.length:=by omega
    subst this;simp[b8k,d98]
 unfold qa4;have:=key s.length 0 (by omega) (by omega);rw[show ((0:Int))=((0:Nat):Int) from rfl,o8 (s.length+1) (by rw[o4];omega) this];simp only[ybX];unfold vld;cases d98 s.length s<;>rfl
def i5t {s:List UInt8} {i:Nat} (hi:i<s.length) (hs:s.length<1000000000):qf6 s (i:Int)=some ((wid (s.drop i):Nat):Int):=by
 unfold qf6 wid;rw[e7j hi hs];show some (if (((dcd (s.drop i)).2:Nat):Int)<1 then (1:Int) else (((dcd (s.drop i)).2:Nat):Int))=_
 rw[yam];by_cases h:(dcd (s.drop i)).2<1
 ·rw[yaE h,yaE (by omega)];rfl
 ·rw[yap h,yap (by omega)]
def i7b {l:List UInt8} (h:l≠[]):1≤wid l∧wid l≤l.length:=by
 have:=g23 l;have:0<l.length:=List.length_pos_iff.2 h;unfold wid;split<;>omega
def e16 (n:Nat) {s:List UInt8} {i:Nat} (hi:i<s.length) {out:List UInt8} {gap:Bool}:c2n (n+1) (s.drop i) out gap =
 if blk (dcd (s.drop i)).1 then c2n n (s.drop (i+wid (s.drop i))) out true else c2n n (s.drop (i+wid (s.drop i))) ((if gap&&!(out==[]) then out++[32] else out)++(s.drop i).take (wid (s.drop i))) false:=by
 have:s.drop i≠[]:=by simp;omega
 rw[c2n,yap this,List.drop_drop]
def i4z {s:List UInt8} (hs:s.length<100000000):qbq s=some (cln s):=by
 have key:∀n i (out:List UInt8) (gap:Bool),s.length-i≤n→i≤s.length→out.length≤2*i→o9 b87 (n+1) (s,out,gap,(i:Int),())=some (c2n n (s.drop i) out gap,()):=by
  intro n
  induction n with
  |zero=>
   intro i out gap h1 h2 h3;have:i=s.length:=by omega
   subst this;simp only[o9,b87,dge,yaa,c2n]
  |succ n ih=>
   intro i out gap h1 h2 h3;rw[o9];by_cases hi:i<s.length
   ·rw[e16 n hi];have hw0:=i7b (l:=s.drop i) (by simp;omega);rw[yaZ]at hw0;obtain ⟨k,hk⟩:∃k,wid (s.drop i)=k:=⟨_,rfl⟩
    rw[hk]at hw0 ⊢;have hw:wr .i64 ((i:Int)+(k:Int))=((i+k:Nat):Int):=by rw[a0l (by omega) (by omega)];rfl
    have hb:qf3 ((dcd (s.drop i)).1:Int)=some (blk (dcd (s.drop i)).1):=by
     unfold qf3;simp -zeta only[a0x];simp only[yam,blk];rw[ybj];simp;omega
    simp only[b87,dlt hi,yac,e7j hi (show s.length<1000000000 by omega),i5t hi (show s.length<1000000000 by omega),i7e,hb,hk,hw];cases blk (dcd (s.drop i)).1 with
    |true=>simp only[yac,ybD];exact ih _ _ _ (by omega) (by omega) (by omega)
    |false=>
     have hc:(decide ((0:Int)≤(i:Int))&&(decide ((i:Int)≤((i+k:Nat):Int))&&decide (((i+k:Nat):Int)≤(s.length:Int))))=true:=by simp;omega
     have ht:(s.take (i+k)).drop i=(s.drop i).take k:=by rw[List.drop_take];congr 1;omega
     simp only[yaa,hc,yac,yaB,ht,yaz,ybd];have hlen:∀o:List UInt8,o.length≤2*i+1→decide (o.length+((s.drop i).take k).length≤LIM)=true:=λo ho=>by
      rw[g0e];simp only[yaH,yaZ,yad];omega
     cases hg:(gap&&!(out==[])) with
     |true=>
      simp only[yae,yan]at hg;have h32:decide (out.length+([32]:List Nat).length≤LIM)=true:=by rw[g0e];simp;omega
      simp only[hg.1,hg.2,hc,ht,yaB,yac,yas,h32,hlen (out++[32]) (by simp;omega),ybD];exact ih _ _ _ (by omega) (by omega) (by simp;omega)
     |false=>
      cases gap with
      |false=>
       simp only[yaa,hlen out (by omega),yac,yaz,ybd];exact ih _ _ _ (by omega) (by omega) (by simp;omega)
      |true=>
       simp only[ya8]at hg;simp only[yac,hg,yaa,hlen out (by omega),yaz,ybd];exact ih _ _ _ (by omega) (by omega) (by simp;omega)
   ·have:i=s.length:=by omega
    subst this;simp[b87,c2n]
 unfold qbq;have:=key s.length 0 [] false (by omega) (by omega) (by simp);rw[show ((0:Int))=((0:Nat):Int) from rfl,o8 (s.length+1) (by rw[o4];omega) this]
 try rfl
end
section
def rng (lo hi n:Int):Bool:=decide (lo≤n)&&decide (n≤hi)
def e7p (n:Int):qeh n=some (rng 0 109572 n):=by
 unfold qeh;simp -zeta only[a0x,s9]
 try rfl
def g5m (n:Int):qdz n=some (rng 0 109572 n):=by
 unfold qdz;simp -zeta only[a0x,s9]
 try rfl
def g5l (n:Int):qdm n=some (rng 1 9999 n):=by
 unfold qdm;simp -zeta only[a0x,s9]
 try rfl
def e7h (n lo hi:Int):qck n lo hi=some (rng lo hi n):=by
 unfold qck;simp -zeta only[a0x,s9]
 try rfl
def a1w (l:List Charge) (i:Nat) (x:Charge):Int:=
 bif w7 l i (λy=>decide (x.ID≤y.ID)) then 7
 else bif decide (x.ID<1)||decide (99999<x.ID)||decide (x.Patron<1)||decide (9999<x.Patron)||decide (x.Item<1)||decide (9999<x.Item)||!(rng 0 109572 x.Day) then 2
 else bif decide (x.Kind<1)||decide (3<x.Kind) then 1
 else bif decide (x.Amount<1)||decide (100000000<x.Amount)||decide (x.Paid<0)||decide (x.Amount≤x.Paid) then 2 else 0
def p8 (l:List Charge):Int:=bif decide (128<(l.length:Int)) then 13 else a0j (a1w l) 0 l
def d81 {l:List Charge} (hl:l.length<1000000000):c6 b44 (l,0,())=some (if a0j (a1w l) 0 l==0 then .inl () else .inr (a0j (a1w l) 0 l,())):=by
 have h:=a1b (step:=b44) (λi=>(l,(i:Int),())) l (a1w l) (.inl ()) (λe=>.inr (e,())) hl
  (by simp only[b44,dge,yaa])
  (λi x hx=>by
   have hi:=(zL hx)
   have hxm:=yag hx;unfold a1w;simp only[a03];rcases i with _|j
   ·simp -zeta only[b44,dlt hi,d9,hx,a0x,s9,b62,yaa,yac,w7,a0c (show 0<9223372036854775807 by omega),e7p]
    try rfl
   ·have hj:l[j]?=some l[j]:=yab (by omega);simp -zeta only[b44,dlt hi,d9,hx,a0x,s9,e37,a34 (show j<1000000000 by omega),hj,yaa,yac,w7,a0c (show j+1<9223372036854775807 by omega),e7p];rfl)
 exact h
def g42 {l:List Charge} (hl:l.length<1000000000):qa3 l=some (p8 l):=by
 unfold qa3 p8;rw[d81 hl];generalize a0j (a1w l) 0 l=e;cases decide (128<(l.length:Int)) with
 |true=>rfl
 |false=>
  by_cases h:e=0
  ·subst h;rfl
  ·have h2:(e==0)=false:=by simpa using h
   simp only[h2,yaz,ybd,yaa]
def a1x (l:List Patron) (i:Nat) (x:Patron):Int:=
 bif decide (x.ID<1)||decide (9999<x.ID) then 2
 else bif w7 l i (λy=>decide (x.ID≤y.ID)) then 7
 else bif decide (x.Kind<1)||decide (9<x.Kind)||decide (x.Branch<1)||decide (4<x.Branch) then 1
 else bif decide (x.Until<0)||decide (109572<x.Until) then 2
 else bif x.Name==[]||!(vld x.Name)||!(cln x.Name==x.Name) then 3
 else bif decide (200<(x.Name.length:Int)) then 4 else 0
def a1a (l:List Patron):Int:=bif decide (32<(l.length:Int)) then 13 else a0j (a1x l) 0 l
def d89 {l:List Patron} (hl:l.length<1000000000) (hn:∀x∈l,x.Name.length<10000000):c6 b5p (l,0,())=some (if a0j (a1x l) 0 l==0 then .inl () else .inr (a0j (a1x l) 0 l,())):=by
 have h:=a1b (step:=b5p) (λi=>(l,(i:Int),())) l (a1x l) (.inl ()) (λe=>.inr (e,())) hl
  (by simp only[b5p,dge,yaa])
  (λi x hx=>by
   have hi:=(zL hx)
   have hxm:=yag hx;have hv:=g43 (s:=x.Name) (by have:=hn x hxm;omega);have hc:=i4z (s:=x.Name) (by have:=hn x hxm;omega);unfold a1x;simp only[a03];rcases i with _|j
   ·simp -zeta only[b5p,dlt hi,d9,hx,a0x,s9,b62,yaa,yac,w7,a0c (show 0<9223372036854775807 by omega),hv,hc]
    try rfl
   ·have hj:l[j]?=some l[j]:=yab (by omega);simp -zeta only[b5p,dlt hi,d9,hx,a0x,s9,e37,a34 (show j<1000000000 by omega),hj,yaa,yac,w7,a0c (show j+1<9223372036854775807 by omega),hv,hc];rfl)
 exact h
def i4y {l:List Patron} (hl:l.length<1000000000) (hn:∀x∈l,x.Name.length<10000000):qbp l=some (a1a l):=by
 unfold qbp a1a;rw[d89 hl hn];generalize a0j (a1x l) 0 l=e;cases decide (32<(l.length:Int)) with
 |true=>rfl
 |false=>
  by_cases h:e=0
  ·subst h;rfl
  ·have h2:(e==0)=false:=by simpa using h
   simp only[h2,yaz,ybd,yaa]
def a4q (l:List Loan) (i:Nat) (x:Loan):Int:=
 bif w7 l i (λy=>decide (x.Item≤y.Item)) then 7
 else bif decide (x.Item<1)||decide (9999<x.Item)||decide (x.Patron<1)||decide (9999<x.Patron)||decide (x.Out<0)||decide (109572<x.Out)||decide (x.Due<0)||decide (109572<x.Due)||decide (x.Due<x.Out)||decide (x.Renewals<0)||decide (10<x.Renewals) then 2 else 0
def o5 (l:List Loan):Int:=bif decide (64<(l.length:Int)) then 13 else a0j (a4q l) 0 l
def d88 {l:List Loan} (hl:l.length<1000000000):c6 b5n (l,0,())=some (if a0j (a4q l) 0 l==0 then .inl () else .inr (a0j (a4q l) 0 l,())):=by
 have h:=a1b (step:=b5n) (λi=>(l,(i:Int),())) l (a4q l) (.inl ()) (λe=>.inr (e,())) hl
  (by simp only[b5n,dge,yaa])
  (λi x hx=>by
   have hi:=(zL hx)
   have hxm:=yag hx;unfold a4q;simp only[a03];rcases i with _|j
   ·simp -zeta only[b5n,dlt hi,d9,hx,a0x,s9,b62,yaa,yac,w7,a0c (show 0<9223372036854775807 by omega)]
    try rfl
   ·have hj:l[j]?=some l[j]:=yab (by omega);simp -zeta only[b5n,dlt hi,d9,hx,a0x,s9,e37,a34 (show j<1000000000 by omega),hj,yaa,yac,w7,a0c (show j+1<9223372036854775807 by omega)];rfl)
 exact h
def g49 {l:List Loan} (hl:l.length<1000000000):qbc l=some (o5 l):=by
 unfold qbc o5;rw[d88 hl];generalize a0j (a4q l) 0 l=e;cases decide (64<(l.length:Int)) with
 |true=>rfl
 |false=>
  by_cases h:e=0
  ·subst h;rfl
  ·have h2:(e==0)=false:=by simpa using h
   simp only[h2,yaz,ybd,yaa]
def t7 (h:Hold):Int:=
 bif decide (h.ID<1)||decide (99999<h.ID)||!(rng 1 9999 h.Patron)||!(rng 1 9999 h.Record)||!(h.Item==0)&&!(rng 1 9999 h.Item)||decide (h.Pickup<1)||decide (4<h.Pickup)||!(rng 0 109572 h.Placed)||!(h.Got==0)&&!(rng 1 9999 h.Got)||!(rng 0 109572 h.Until)||!(rng 0 109572 h.Asleep)||decide (h.Rank<0)||decide (9<h.Rank) then 2
 else bif decide (h.State<1)||decide (3<h.State) then 1
 else bif !((decide (0<h.Got))==(!(h.State==1)))||!((decide (0<h.Until))==(h.State==3)) then 12 else 0
def g51 (h:Hold):qfz h=some (t7 h):=by
 unfold qfz t7;simp -zeta only[a0x,s9,g5l,g5m,←a2n]
 try rfl
def a1g (l:List Hold) (i:Nat) (x:Hold):Int:=
 bif w7 l i (λy=>decide (x.ID≤y.ID)) then 7 else bif !(t7 x==0) then t7 x else 0
def e7z {l:List Hold} (hl:l.length<1000000000):c6 d0n (l,0,())=some (if a0j (a1g l) 0 l==0 then .inl (l,()) else .inr (a0j (a1g l) 0 l,())):=by
 have h:=a1b (step:=d0n) (λi=>(l,(i:Int),())) l (a1g l) (.inl (l,())) (λe=>.inr (e,())) hl
  (by simp only[d0n,dge,yaa])
  (λi x hx=>by
   have hi:=(zL hx)
   have hxm:=yag hx;have hs:∀(a:List Hold×Int×Unit) (g:Int→((List Hold×Unit)⊕(Int×Unit))),(bif !(t7 x==0) then a66 a g (t7 x) else a66 a g 0)=bif !(t7 x==0) then some (.inr (g (t7 x))) else some (.inl a):=λa g=>by
    unfold a66;cases t7 x==0<;>rfl
   unfold a1g;simp only[a03,hs];rcases i with _|j
   ·simp -zeta only[d0n,dlt hi,d9,hx,a0x,s9,b62,yaa,yac,w7,a0c (show 0<9223372036854775807 by omega),g51]
    try rfl
   ·have hj:l[j]?=some l[j]:=yab (by omega);simp -zeta only[d0n,dlt hi,d9,hx,a0x,s9,e37,a34 (show j<1000000000 by omega),hj,yaa,yac,w7,a0c (show j+1<9223372036854775807 by omega),g51];rfl)
 exact h
def a0w (x y:Hold):Bool:=x.Patron==y.Patron&&x.Record==y.Record||decide (0<x.Got)&&x.Got==y.Got
def d9m {l:List Hold} {i:Nat} {x:Hold} (hl:l.length<1000000000) (hx:l[i]?=some x):c6 b51 (l,(i:Int),0,())=some (bif (l.take i).all (λy=>!(a0w x y)) then .inl (l,(i:Int),()) else .inr (7,())):=by
 have hi:=(zL hx)
 have h:=m0 (step:=b51) (λk=>(l,(i:Int),(k:Int),())) (l.take i) (λ_ y=>!(a0w x y)) (.inr (7,())) (.inl (l,(i:Int),())) (by rw[yaH];omega)
  (by rw[yaH,Nat.min_eq_left (by omega)];simp only[b51,dge,yaa])
  (λk y hy=>by
   have hk:=(zL hy)
   rw[yaH]at hk;have hy2:l[k]?=some y:=by rw[←hy,ybP (by omega)]
   simp -zeta only[b51,dlt (show k<i by omega),d9,hx,hy2,a0x,s9,yac,wS k];dsimp only;unfold a0w;cases (x.Patron==y.Patron&&x.Record==y.Record||decide (0<x.Got)&&x.Got==y.Got)<;>rfl)
 rw[show c6 b51 (l,(i:Int),0,())=_ from h,o6]
def a3d (l:List Hold):Bool:=a1v (λi x=>(l.take i).all (λy=>!(a0w x y))) 0 l
def d9l {l:List Hold} (hl:l.length<1000000000):c6 b9m (l,0,())=some (bif a3d l then .inl () else .inr (7,())):=by
 have h:=m0 (step:=b9m) (λi=>(l,(i:Int),())) l (λi x=>(l.take i).all (λy=>!(a0w x y))) (.inr (7,())) (.inl ()) hl
  (by simp only[b9m,dge,yaa])
  (λi x hx=>by
   have hi:=(zL hx)
   simp only[b9m,dlt hi,yac,d9m hl hx];cases (l.take i).all (λy=>!(a0w x y)) with
   |true=>simp only[yac,wS i]
   |false=>rfl)
 exact h
def y5 (l:List Hold):Int:=bif decide (64<(l.length:Int)) then 13 else bif a0j (a1g l) 0 l==0 then (bif a3d l then 0 else 7) else a0j (a1g l) 0 l
def i8f {l:List Hold} (hl:l.length<1000000000):qq l=some (y5 l):=by
 unfold qq y5;rw[e7z hl];cases decide (64<(l.length:Int)) with
 |true=>rfl
 |false=>
  by_cases h:a0j (a1g l) 0 l=0
  ·simp only[h,yal,ybD,yaa,yac,d9l hl];cases a3d l<;>rfl
  ·have:(a0j (a1g l) 0 l==0)=false:=by simpa using h
   simp only[this,yaz,ybd,yaa]
def a5w (r:Rule):Bool:=rng 0 9 r.Patron&&rng 0 9 r.Item&&rng 0 4 r.Branch&&(rng 0 365 r.Days&&rng 0 10 r.Renewals&&rng 0 99 r.Loans)&&(rng 0 1000 r.Fine&&rng 0 30 r.Grace&&rng 0 100000000 r.MaxFine)&&rng 1 60 r.Shelf&&rng 1 60 r.Recall&&rng 0 109572 r.Fixed&&rng 0 9 r.Rank
def i5w (r:Rule):qfl r=some (a5w r):=by
 unfold qfl a5w;simp -zeta only[a0x,s9,e7h]
 try rfl
def a5x (x y:Rule):Bool:=x.Patron==y.Patron&&x.Item==y.Item&&x.Branch==y.Branch
def a4s (l:List Rule) (i:Nat) (x:Rule):Int:=bif !(a5w x) then 2 else bif (l.take i).all (λy=>!(a5x y x)) then 0 else 7
def e73 {l:List Rule} {i:Nat} {x:Rule} (hl:l.length<1000000000) (hx:l[i]?=some x):c6 d0p (l,(i:Int),0,())=some (bif (l.take i).all (λy=>!(a5x y x)) then .inl (l,(i:Int),()) else .inr (7,())):=by
 have hi:=(zL hx)
 have h:=m0 (step:=d0p) (λk=>(l,(i:Int),(k:Int),())) (l.take i) (λ_ y=>!(a5x y x)) (.inr (7,())) (.inl (l,(i:Int),())) (by rw[yaH];omega)
  (by rw[yaH,Nat.min_eq_left (by omega)];simp only[d0p,dge,yaa])
  (λk y hy=>by
   have hk:=(zL hy)
   rw[yaH]at hk;have hy2:l[k]?=some y:=by rw[←hy,ybP (by omega)]
   simp -zeta only[d0p,dlt (show k<i by omega),d9,hx,hy2,a0x,s9,yac,wS k];dsimp only;unfold a5x;cases (y.Patron==x.Patron&&y.Item==x.Item&&y.Branch==x.Branch)<;>rfl)
 rw[show c6 d0p (l,(i:Int),0,())=_ from h,o6]
def e72 {l:List Rule} (hl:l.length<1000000000):c6 d9n (l,0,())=some (if a0j (a4s l) 0 l==0 then .inl () else .inr (a0j (a4s l) 0 l,())):=by
 have h:=a1b (step:=d9n) (λi=>(l,(i:Int),())) l (a4s l) (.inl ()) (λe=>.inr (e,())) hl
  (by simp only[d9n,dge,yaa])
  (λi x hx=>by
   have hi:=(zL hx)
   unfold a4s;simp only[a03,d9n,dlt hi,d9,hx,yac,i5w,e73 hl hx];cases a5w x with
   |false=>rfl
   |true=>
    simp only[yak,yaa];cases (l.take i).all (λy=>!(a5x y x)) with
    |true=>simp only[yac,wS i];rfl
    |false=>rfl)
 exact h
def a2y (l:List Rule):Int:=bif decide (32<(l.length:Int)) then 13 else a0j (a4s l) 0 l
def i8i {l:List Rule} (hl:l.length<1000000000):qu l=some (a2y l):=by
 unfold qu a2y;rw[e72 hl];generalize a0j (a4s l) 0 l=e;cases decide (32<(l.length:Int)) with
 |true=>rfl
 |false=>
  by_cases h:e=0
  ·subst h;rfl
  ·have h2:(e==0)=false:=by simpa using h
   simp only[h2,yaz,ybd,yaa]
def f2b (l:List Int):Bool:=a1v (λi x=>!(w7 l i (λy=>decide (x≤y)))) 0 l
def c79 {X:Type} {p:Nat→X→Bool}:∀{l:List X} {i:Nat},a1v p (i+1) l=a1v (λi=>p (i+1)) i l:=by
 intro l
 induction l with
 |nil=>intros;rfl
 |cons x l ih=>intro i;simp only[a1v];rw[ih]
def e4z (l:List Int):f2b l=a1v (λi x=>!(w7 l (i+1) (λy=>decide (x≤y)))) 0 l.tail:=by
 cases l with
 |nil=>rfl
 |cons x l=>
  unfold f2b;simp only[a1v,List.tail_cons];rw[c79]
  try rfl
def a0o (c:Calendar):Int:=
 bif decide (c.Week<0)||decide (126<c.Week) then 1
 else bif decide (64<(c.Closed.length:Int)) then 13
 else bif c.Closed.all (λx=>!(decide (x<0)||decide (109572<x))) then (bif f2b c.Closed then 0 else 7) else 2
def d82 {c:Calendar} (hl:c.Closed.length<1000000000):c6 b45 (0,c,())=some (bif c.Closed.all (λx=>!(decide (x<0)||decide (109572<x))) then .inl (c,()) else .inr (2,())):=by
 have h:=m0 (step:=b45) (λi=>((i:Int),c,())) c.Closed (λ_ x=>!(decide (x<0)||decide (109572<x))) (.inr (2,())) (.inl (c,())) hl
  (by simp only[b45,dge,yaa])
  (λi x hx=>by
   have hi:=(zL hx)
   simp -zeta only[b45,dlt hi,d9,hx,a0x,s9,yac,wS i];cases (decide (x<0)||decide (109572<x))<;>rfl)
 rw[show c6 b45 (0,c,())=_ from h,o6]
def c95 {c:Calendar} (hl:c.Closed.length<1000000000):c6 a87 (1,c,())=some (bif f2b c.Closed then .inl () else .inr (7,())):=by
 have h:=m0 (step:=a87) (λi=>(((i+1:Nat):Int),c,())) c.Closed.tail (λi x=>!(w7 c.Closed (i+1) (λy=>decide (x≤y)))) (.inr (7,())) (.inl ()) (by rw[List.length_tail];omega)
  (by
   rw[List.length_tail];have:decide (((c.Closed.length-1+1:Nat):Int)<(c.Closed.length:Int))=false:=by rw[yaf];omega
   simp only[a87,this,yaa])
  (λi x hx=>by
   rw[List.getElem?_tail]at hx;have hi:=(zL hx)
   have hj:c.Closed[i]?=some c.Closed[i]:=yab (by omega);simp -zeta only[a87,dlt hi,d9,hx,yac,a34 (show i<1000000000 by omega),hj,w7,a0c (show i+1<9223372036854775807 by omega)];cases decide (x≤c.Closed[i])<;>rfl)
 rw[show c6 a87 (1,c,())=_ from h,e4z]
def c64 {c:Calendar} (hl:c.Closed.length<1000000000):qad c=some (a0o c):=by
 unfold qad a0o;simp -zeta only[a0x];dsimp only;rw[d82 hl];cases (decide (c.Week<0)||decide (126<c.Week)) with
 |true=>rfl
 |false=>
  cases decide (64<(c.Closed.length:Int)) with
  |true=>rfl
  |false=>
   cases c.Closed.all (λx=>!(decide (x<0)||decide (109572<x))) with
   |false=>rfl
   |true=>
    simp only[yaa,yac,c95 hl];cases f2b c.Closed<;>rfl
end
section
def h51 (state:Int):Bool:=(state==4||state==5||state==8||state==9||state==10)
def b5y (state:Int):qge state=some (h51 state):=by
 unfold qge
 try simp -zeta only[a0x,s9,a91,a2n,yac,yaa]
 try dsimp only
 try simp only[a2n]
 try rfl
def a9b (c:Custody):Bool:=(bif decide (c.State<1)||decide (12<c.State)||decide (c.Branch<1)||decide (4<c.Branch) then false
 else
  bif c.State==6 then
   decide (0≤c.Who)&&decide (c.Who≤9999)&&decide (1≤c.To)&&decide (c.To≤4)&&!c.To==c.Branch
  else
   bif !c.To==0 then false
   else bif h51 c.State then decide (1≤c.Who)&&decide (c.Who≤9999) else c.Who==0)
def b5z (c:Custody):qgk c=some (a9b c):=by
 unfold qgk
 try simp -zeta only[a0x,s9,a91,a2n,yac,yaa,b5y]
 try dsimp only
 try simp only[a2n]
 try rfl
def a9a (m:Move):Bool:=(decide (0≤m.Day)&&decide (m.Day≤109572)&&decide (1≤m.Item)&&decide (m.Item≤9999)&&
 decide (1≤m.Kind)&&
 decide (m.Kind≤15)&&
 decide (1≤m.Branch)&&
 decide (m.Branch≤4)&&
 decide (0≤m.Who)&&
 decide (m.Who≤9999))
def b9i (m:Move):qe4 m=some (a9a m):=by
 unfold qe4
 try simp -zeta only[a0x,s9,a91,a2n,yac,yaa,b5y,b5z]
 try dsimp only
 try simp only[a2n]
 try rfl
def d0h (kind:Int):(List Int):=(bif kind==1 then [1]
 else
  bif kind==2 then [2,5]
  else
   bif kind==3 then [3,5]
   else
    bif kind==4 then [4,8,9,10]
    else
     bif kind==5||kind==8 then [2,3]
     else
      bif kind==6 then [2,3,5]
      else
       bif kind==7 then [6]
       else
        bif kind==9 then [7]
        else
         bif kind==10 then [3]
         else
          bif kind==11 then [4]
          else
           bif kind==12 then [4,9]
           else
            bif kind==13 then [2,3,5,6,7]
            else bif kind==14 then [11] else bif kind==15 then [1,2,3,11,10] else [])
def c69 (kind:Int):qfx kind=some (d0h kind):=by
 unfold qfx
 try simp -zeta only[a0x,s9,a91,a2n,yac,yaa,b5y,b5z,b9i]
 try dsimp only
 try simp only[a2n]
 try rfl
def a0z (kind:Int):Int:=(bif kind==1||(kind==4||(kind==7||(kind==9||kind==14))) then 2
 else
  bif kind==2 then 3
  else
   bif kind==3 then 4
   else
    bif kind==5 then 5
    else
     bif kind==6 then 6
     else
      bif kind==8 then 7
      else
       bif kind==10 then 8
       else bif kind==11 then 9 else bif kind==12 then 10 else bif kind==13 then 11 else 12)
def d56 (kind:Int):qgj kind=some (a0z kind):=by
 unfold qgj
 try simp -zeta only[a0x,s9,a91,a2n,yac,yaa,b5y,b5z,b9i,c69]
 try dsimp only
 try simp only[a2n]
 try rfl
def c2a (c:Custody) (m:Move):Bool:=(bif m.Kind==1||(m.Kind==4||(m.Kind==9||m.Kind==14)) then m.Who==0
 else
  bif m.Kind==7 then m.Who==0&&m.Branch==c.To
  else
   bif m.Kind==6 then !m.Branch==c.Branch
   else
    bif m.Kind==3||(m.Kind==5||m.Kind==10) then m.Branch==c.Branch&&decide (1≤m.Who)
    else m.Branch==c.Branch&&m.Who==0)
def e7s (c:Custody) (m:Move):qgn c m=some (c2a c m):=by
 unfold qgn
 try simp -zeta only[a0x,s9,a91,a2n,yac,yaa,b5y,b5z,b9i,c69,d56]
 try dsimp only
 try simp only[a2n]
 try rfl
def b13 (branch:Int):Custody:={State:=1,Branch:=branch,Who:=0,To:=0}
def g5w (branch:Int):qf1 branch=some (b13 branch):=by
 unfold qf1
 try simp -zeta only[a0x,s9,a91,a2n,yac,yaa,b5y,b5z,b9i,c69,d56,e7s]
 try dsimp only
 try simp only[a2n]
 try rfl
def a3h (u:Custody):Bool:=(u.State==4||u.State==9||u.State==10)
def e7l (u:Custody):qd5 u=some (a3h u):=by
 unfold qd5
 try simp -zeta only[a0x,s9,a91,a2n,yac,yaa,b5y,b5z,b9i,c69,d56,e7s,g5w]
 try dsimp only
 try simp only[a2n]
 try rfl
end
section
def i9l {X:Type} {p:X→Bool}:∀{l:List X} {i:Nat},a2v p (λ_ _=>true) false i l=l.any p:=by
 intro l
 induction l with
 |nil=>intros;rfl
 |cons x l ih=>intro i;simp only[a2v,ycb];cases p x with|true=>rfl|false=>rw[yaa,ih,ybg]
def a64 (state kind:Int):Bool:=(d0h kind).any (λx=>x==state)
def f5h {X:Type} {b:Bool} {x y:List X} {n:Nat} (hx:x.length<n) (hy:y.length<n):(bif b then x else y).length<n:=by cases b<;>assumption
def d93 (kind:Int):(d0h kind).length<10:=by
 unfold d0h
 repeat' first|apply f5h|decide
def i42 (state kind:Int):qby state kind=some (a64 state kind):=by
 unfold qby a64;rw[c69];have hl:=d93 kind;generalize d0h kind=l at hl ⊢;have h:=w9 (step:=b9a) (λi=>(state,l,(i:Int),())) l (λx=>x==state) (λ_ _=>(.inr (true,()):Unit⊕(Bool×Unit))) (.inl ()) (by omega)
  (by simp only[b9a,dge,yaa])
  (λi x hx=>by
   have hi:=(zL hx)
   simp only[b9a,dlt hi,d9,hx,yac,wS i])
 dsimp only;rw[show c6 b9a (state,l,0,())=_ from h,←i9l (i:=0)];have key:∀(l:List Int) (i:Nat),(match some (a2v (λx=>x==state) (λ_ _=>(.inr (true,()):Unit⊕(Bool×Unit))) (.inl ()) i l) with|some (.inl _)=>some false|some (.inr (v,_))=>some v|none=>none)=some (a2v (λx=>x==state) (λ_ _=>true) false i l):=by
  intro l
  induction l with
  |nil=>intro i;rfl
  |cons x l ih=>intro i;simp only[a2v];cases x==state with|true=>rfl|false=>exact ih _
 exact key l 0
def s8 (c:Custody) (m:Move):Custody×Int:=
 bif !(a9b c)||!(a9a m) then (⟨0,0,0,0⟩,1)
 else bif !(a64 c.State m.Kind) then (⟨0,0,0,0⟩,12)
 else bif m.Kind==3&&c.State==5&&!(m.Who==c.Who) then (⟨0,0,0,0⟩,16)
 else bif !(c2a c m) then (⟨0,0,0,0⟩,1)
 else bif a0z m.Kind==2 then (⟨a0z m.Kind,m.Branch,0,0⟩,0)
 else bif a0z m.Kind==4||(a0z m.Kind==5||a0z m.Kind==8) then (⟨a0z m.Kind,c.Branch,m.Who,0⟩,0)
 else bif a0z m.Kind==6 then (⟨a0z m.Kind,c.Branch,m.Who,m.Branch⟩,0)
 else bif a0z m.Kind==9||a0z m.Kind==10 then (⟨a0z m.Kind,c.Branch,c.Who,0⟩,0)
 else (⟨a0z m.Kind,c.Branch,0,0⟩,0)
def g5p (c:Custody) (m:Move):qec c m=some (s8 c m):=by
 unfold qec s8;simp -zeta only[a0x,s9,a91,b5z,b9i,i42,e7s,d56];dsimp only;simp only[a2n]
def a0n:Nat→List Move→Int→Custody→(Custody⊕(Int×Int))
 |_,[],_,c=>.inl c
 |i,x::l,item,c=>bif x.Item==item then (bif (s8 c x).2==0 then a0n (i+1) l item (s8 c x).1 else .inr ((i:Int),(s8 c x).2)) else a0n (i+1) l item c
def a00 (branch:Int) (l:List Move) (item:Int):Custody×Int×Int:=
 bif decide (branch<1)||decide (4<branch) then (⟨0,0,0,0⟩,-1,1)
 else match a0n 0 l item (b13 branch) with
  |.inl c=>(c,-1,0)
  |.inr (i,e)=>(⟨0,0,0,0⟩,i,e)
def b6e {β:Type} (item:Int) (fin:Custody→β) (out:Int×Int→β):∀(l:List Move) (i:Nat) (c:Custody),
 a3s (λi x c=>bif x.Item==item then (bif (s8 c x).2==0 then .inl (s8 c x).1 else .inr (out ((i:Int),(s8 c x).2))) else .inl c) fin i l c=(match a0n i l item c with | .inl c=>fin c | .inr p=>out p):=by
 intro l
 induction l with
 |nil=>intros;rfl
 |cons x l ih=>
  intro i c;simp only[a3s,a0n];cases x.Item==item with
  |false=>exact ih _ _
  |true=>
   simp only[yac];cases (s8 c x).2==0 with
   |true=>exact ih _ _
   |false=>rfl
def i4x {branch:Int} {l:List Move} {item:Int} (hl:l.length<1000000000):qbo branch l item=some (a00 branch l item):=by
 unfold qbo a00;simp -zeta only[a0x,g5w];dsimp only;have h:=a2k (step:=b86) (λi c=>(l,item,(i:Int),(⟨0,0,0,0⟩:Custody),c,())) l
  (λi x c=>bif x.Item==item then (bif (s8 c x).2==0 then .inl (s8 c x).1 else .inr (.inr ((i:Int),(s8 c x).2,(⟨0,0,0,0⟩:Custody),()))) else .inl c)
  (λc=>.inl (⟨0,0,0,0⟩,c,())) (by show l.length<18446744073709551616;omega) (λc=>by simp only[b86,dge,yaa])
  (λi x c hx=>by
   have hi:=(zL hx)
   simp only[b86,dlt hi,d9,hx,yac,g5p,wS i];cases x.Item==item with
   |false=>rfl
   |true=>
    simp only[yak,yaa,yac];obtain ⟨d,e⟩:=s8 c x;cases he:e==0 with
    |true=>rfl
    |false=>rfl) (b13 branch)
 rw[b6e item (λc=>(.inl (⟨0,0,0,0⟩,c,()):(Custody×Custody×Unit)⊕(Int×Int×Custody×Unit))) (λp=>.inr (p.1,p.2,(⟨0,0,0,0⟩:Custody),()))]at h;rw[show c6 b86 (l,item,0,(⟨0,0,0,0⟩:Custody),b13 branch,())=_ from h];cases (decide (branch<1)||decide (4<branch)) with
 |true=>rfl
 |false=>
  simp only[yaa];cases a0n 0 l item (b13 branch) with
  |inl c=>rfl
  |inr p=>rfl
end
section
def p7 {X:Type} (p:X→Bool) (l:List X):(a68 p l = -1∧l.find? p=none)∨∃(i:Nat) (x:X),a68 p l=(i:Int)∧l[i]?=some x∧p x=true∧l.find? p=some x:=by
 unfold a68
 induction l with
 |nil=>exact .inl ⟨rfl,rfl⟩
 |cons y l ih=>
  simp only[ybI,List.find?_cons];cases hp:p y with
  |true=>exact .inr ⟨0,y,rfl,rfl,hp,rfl⟩
  |false=>
   simp only[yaz,ybd];rcases ih with ⟨h1,h2⟩|⟨i,x,h1,h2,h3,h4⟩
   ·left;refine ⟨?_,h2⟩;cases hf:l.findIdx? p with
    |none=>rfl
    |some k=>rw[hf]at h1;simp only at h1;omega
   ·right;refine ⟨i+1,x,?_,by simpa using h2,h3,h4⟩;cases hf:l.findIdx? p with
    |none=>rw[hf]at h1;simp only at h1;omega
    |some k=>rw[hf]at h1;simp only[ybz]at h1 ⊢;omega
def a59:decide ((-1:Int)<0)=true:=rfl
def a4i {i:Nat}:decide ((i:Int)<0)=false:=by rw[yaf];omega
def a3g (l:List Patron) (id:Int):Patron×Bool:=match l.find? (λp=>p.ID==id) with|some p=>(p,true)|none=>(⟨0,0,0,0,false,[]⟩,false)
def a3u (l:List Loan) (item:Int):Loan×Bool:=match l.find? (λn=>n.Item==item) with|some n=>(n,true)|none=>(⟨0,0,0,0,0,false⟩,false)
def a96:Hold:=⟨0,0,0,0,0,0,0,0,0,0,0⟩
def s7 (c:Circ) (item:Int):Hold×Bool:=match c.Holds.find? (λh=>h.Got==item) with|some h=>(h,true)|none=>(a96,false)
def c2b {c:Circ} {item:Int} (hl:c.Items.length<1000000000):qn c item=some (a68 (λx=>x.ID==item) c.Items):=by
 unfold qn;have h:=w9 (step:=d9i) (λi=>(item,(i:Int),c,())) c.Items (λx=>x.ID==item) (λi _=>(.inr ((i:Int),()):Unit⊕(Int×Unit))) (.inl ()) hl
  (by simp only[d9i,dge,yaa])
  (λi x hx=>by
   have hi:=(zL hx)
   simp only[d9i,dlt hi,d9,hx,yac,wS i])
 rw[show c6 d9i (item,0,c,())=_ from h,←a2m];have:=a1o (p:=λx:Item=>x.ID==item) (g:=λi _=>(.inr ((i:Int),()):Unit⊕(Int×Unit))) (d:=.inl ()) (λz=>match (some z:Option (Unit⊕(Int×Unit))) with|some (.inl _)=>some (-1)|some (.inr (v,_))=>some v|none=>none) (l:=c.Items) (i:=0);exact this.trans ((a1o (p:=λx:Item=>x.ID==item) (g:=λi _=>(i:Int)) (d:=-1) (λz=>some z) (l:=c.Items) (i:=0)).symm)
def b2l {c:Circ} {item:Int} (hl:c.Items.length<1000000000):(qn c item=some (-1)∧c.Items.find? (λx=>x.ID==item)=none)∨
 ∃(i:Nat) (x:Item),qn c item=some (i:Int)∧c.Items[i]?=some x∧x.ID=item∧c.Items.find? (λx=>x.ID==item)=some x:=by
 rw[c2b hl];rcases p7 (λx:Item=>x.ID==item) c.Items with ⟨h1,h2⟩|⟨i,x,h1,h2,h3,h4⟩
 ·exact .inl ⟨by rw[h1],h2⟩
 ·exact .inr ⟨i,x,by rw[h1],h2,by simpa using h3,h4⟩
def i5a {l:List Patron} {id:Int} (hl:l.length<1000000000):qcg l id=some (a68 (λx=>x.ID==id) l):=by
 unfold qcg;have h:=w9 (step:=b9h) (λi=>(l,id,(i:Int),())) l (λx=>x.ID==id) (λi _=>(.inr ((i:Int),()):Unit⊕(Int×Unit))) (.inl ()) hl
  (by simp only[b9h,dge,yaa])
  (λi x hx=>by
   have hi:=(zL hx)
   simp only[b9h,dlt hi,d9,hx,yac,wS i])
 rw[show c6 b9h (l,id,0,())=_ from h,←a2m];have:=a1o (p:=λx:Patron=>x.ID==id) (g:=λi _=>(.inr ((i:Int),()):Unit⊕(Int×Unit))) (d:=.inl ()) (λz=>match (some z:Option (Unit⊕(Int×Unit))) with|some (.inl _)=>some (-1)|some (.inr (v,_))=>some v|none=>none) (l:=l) (i:=0);exact this.trans ((a1o (p:=λx:Patron=>x.ID==id) (g:=λi _=>(i:Int)) (d:=-1) (λz=>some z) (l:=l) (i:=0)).symm)
def a5v {l:List Patron} {id:Int} (hl:l.length<1000000000):qce l id=some (a3g l id):=by
 unfold qce a3g;rw[i5a hl];rcases p7 (λx:Patron=>x.ID==id) l with ⟨h1,h2⟩|⟨i,x,h1,h2,h3,h4⟩
 ·simp only[h1,h2,a59,yac]
 ·simp only[h1,h4,a4i,yaa,d9,h2]
def d50 {l:List Loan} {id:Int} (hl:l.length<1000000000):qau l id=some (a68 (λx=>x.Item==id) l):=by
 unfold qau;have h:=w9 (step:=b8s) (λi=>(l,id,(i:Int),())) l (λx=>x.Item==id) (λi _=>(.inr ((i:Int),()):Unit⊕(Int×Unit))) (.inl ()) hl
  (by simp only[b8s,dge,yaa])
  (λi x hx=>by
   have hi:=(zL hx)
   simp only[b8s,dlt hi,d9,hx,yac,wS i])
 rw[show c6 b8s (l,id,0,())=_ from h,←a2m];have:=a1o (p:=λx:Loan=>x.Item==id) (g:=λi _=>(.inr ((i:Int),()):Unit⊕(Int×Unit))) (d:=.inl ()) (λz=>match (some z:Option (Unit⊕(Int×Unit))) with|some (.inl _)=>some (-1)|some (.inr (v,_))=>some v|none=>none) (l:=l) (i:=0);exact this.trans ((a1o (p:=λx:Loan=>x.Item==id) (g:=λi _=>(i:Int)) (d:=-1) (λz=>some z) (l:=l) (i:=0)).symm)
def e7o {l:List Loan} {id:Int} (hl:l.length<1000000000):qeg l id=some (a3u l id):=by
 unfold qeg a3u;rw[d50 hl];rcases p7 (λx:Loan=>x.Item==id) l with ⟨h1,h2⟩|⟨i,x,h1,h2,h3,h4⟩
 ·simp only[h1,h2,a59,yac]
 ·simp only[h1,h4,a4i,yaa,d9,h2]
def b5d {c:Circ} {item:Int} (hl:c.Holds.length<1000000000):qat c item=some (s7 c item):=by
 unfold qat s7;have h:=w9 (step:=b8r) (λi=>(item,(i:Int),c,a96,())) c.Holds (λx=>x.Got==item) (λ_ x=>(.inr (true,x,()):(Hold×Unit)⊕(Bool×Hold×Unit))) (.inl (a96,())) hl
  (by simp only[b8r,dge,yaa])
  (λi x hx=>by
   have hi:=(zL hx)
   simp only[b8r,dlt hi,d9,hx,yac,wS i])
 rw[show c6 b8r (item,0,c,(⟨0,0,0,0,0,0,0,0,0,0,0⟩:Hold),())=_ from h,b0o];cases c.Holds.find? (λx=>x.Got==item)<;>rfl
def a4z (c:Circ) (i:Nat) (x:Item):Bool:=
 !(decide (x.ID<1)||decide (9999<x.ID)||w7 c.Items i (λy=>decide (x.ID≤y.ID))||decide (x.Record<1)||decide (9999<x.Record)||decide (x.Branch<1)||decide (4<x.Branch))&&
 !(decide (x.Kind<1)||decide (9<x.Kind)||decide (x.Price<0)||decide (100000000<x.Price)||decide (200<(x.Call.length:Int))||!(vld x.Call))&&
 !(!((a00 x.Branch c.Moves x.ID).2.2==0)||!(u7 (a00 x.Branch c.Moves x.ID).1 x.Custody))
def a6l (c:Circ):Bool:=!(decide (64<(c.Items.length:Int))||decide (2000<(c.Moves.length:Int)))&&(a1v (a4z c) 0 c.Items&&c.Moves.all (λm=>(c.Items.find? (λx=>x.ID==m.Item)).isSome))
structure Short (c:Circ):Prop where
 items:c.Items.length<1000000000
 patrons:c.Patrons.length<1000000000
 loans:c.Loans.length<1000000000
 holds:c.Holds.length<1000000000
 charges:c.Charges.length<1000000000
 rules:c.Rules.length<1000000000
 moves:c.Moves.length<1000000000
 call:∀x∈c.Items,x.Call.length<10000000
 name:∀x∈c.Patrons,x.Name.length<10000000
 cal0:c.Cals.x0.Closed.length<1000000000
 cal1:c.Cals.x1.Closed.length<1000000000
 cal2:c.Cals.x2.Closed.length<1000000000
 cal3:c.Cals.x3.Closed.length<1000000000
def d84 {c:Circ} (hs:Short c):c6 b48 (0,c,())=some (bif a1v (a4z c) 0 c.Items then .inl (c,()) else .inr (false,())):=by
 have h:=m0 (step:=b48) (λi=>((i:Int),c,())) c.Items (a4z c) (.inr (false,())) (.inl (c,())) hs.items
  (by simp only[b48,dge,yaa])
  (λi x hx=>by
   have hi:=(zL hx)
   have hm:=yag hx;have hv:=g43 (s:=x.Call) (by have:=hs.call x hm;omega);have hr:=i4x (branch:=x.Branch) (item:=x.ID) hs.moves;unfold a4z;rcases i with _|j
   ·simp -zeta only[b48,dlt hi,d9,hx,a0x,s9,b62,yaa,yac,w7,a0c (show 0<9223372036854775807 by omega),hv,hr];dsimp only;generalize (decide (x.ID<1)||decide (9999<x.ID)||false||decide (x.Record<1)||decide (9999<x.Record)||decide (x.Branch<1)||decide (4<x.Branch))=b1;generalize (decide (x.Kind<1)||decide (9<x.Kind)||decide (x.Price<0)||decide (100000000<x.Price)||decide (200<(x.Call.length:Int))||!(vld x.Call))=b2;generalize (!((a00 x.Branch c.Moves x.ID).2.2==0)||!(u7 (a00 x.Branch c.Moves x.ID).1 x.Custody))=b3;cases b1<;>cases b2<;>cases b3<;>rfl
   ·have hj:c.Items[j]?=some c.Items[j]:=yab (by omega);have:=hs.items;simp -zeta only[b48,dlt hi,d9,hx,a0x,s9,e37,a34 (show j<1000000000 by omega),hj,yaa,yac,ya8,w7,a0c (show j+1<9223372036854775807 by omega),hv,hr];dsimp only;generalize (decide (x.ID<1)||decide (9999<x.ID)||decide (x.ID≤c.Items[j].ID)||decide (x.Record<1)||decide (9999<x.Record)||decide (x.Branch<1)||decide (4<x.Branch))=b1;generalize (decide (x.Kind<1)||decide (9<x.Kind)||decide (x.Price<0)||decide (100000000<x.Price)||decide (200<(x.Call.length:Int))||!(vld x.Call))=b2;generalize (!((a00 x.Branch c.Moves x.ID).2.2==0)||!(u7 (a00 x.Branch c.Moves x.ID).1 x.Custody))=b3;cases b1<;>cases b2<;>cases b3<;>rfl)
 exact h
def c96 {c:Circ} (hs:Short c):c6 a88 (0,c,())=some (bif c.Moves.all (λm=>(c.Items.find? (λx=>x.ID==m.Item)).isSome) then .inl () else .inr (false,())):=by
 have h:=m0 (step:=a88) (λi=>((i:Int),c,())) c.Moves (λ_ m=>(c.Items.find? (λx=>x.ID==m.Item)).isSome) (.inr (false,())) (.inl ()) hs.moves
  (by simp only[a88,dge,yaa])
  (λi x hx=>by
   have hi:=(zL hx)
   have:=hs.moves;simp only[a88,dlt hi,d9,hx,yac,wS i];rcases b2l (item:=x.Item) hs.items with ⟨h1,h2⟩|⟨k,y,h1,h2,h3,h4⟩
   ·simp only[h1,h2,a59,yac,yb5,yaa]
   ·simp only[h1,h4,a4i,yaa,Option.isSome_some,yac])
 rw[show c6 a88 (0,c,())=_ from h,o6]
def i4j {c:Circ} (hs:Short c):qag c=some (a6l c):=by
 unfold qag a6l;simp -zeta only[a0x];dsimp only;rw[d84 hs];cases (decide (64<(c.Items.length:Int))||decide (2000<(c.Moves.length:Int))) with
 |true=>rfl
 |false=>
  cases a1v (a4z c) 0 c.Items with
  |false=>rfl
  |true=>
   simp only[yaa,yac,c96 hs];cases c.Moves.all (λm=>(c.Items.find? (λx=>x.ID==m.Item)).isSome)<;>rfl
def a3p (c:Circ) (n:Loan):Bool:=match c.Items.find? (λx=>x.ID==n.Item) with
 |some x=>!(!(a3g c.Patrons n.Patron).2||!(a3h x.Custody)||!(x.Custody.Who==n.Patron))
 |none=>false
def a2e (c:Circ):Bool:=c.Loans.all (a3p c)&&c.Items.all (λx=>(a3u c.Loans x.ID).2==a3h x.Custody)
def i4i {c:Circ} (hs:Short c):qaf c=some (a2e c):=by
 have h1:=m0 (step:=b47) (λi=>((i:Int),c,())) c.Loans (λ_=>a3p c) (.inr (false,())) (.inl (c,())) hs.loans
  (by simp only[b47,dge,yaa])
  (λi x hx=>by
   have hi:=(zL hx)
   have:=hs.loans;unfold a3p;rcases b2l (item:=x.Item) hs.items with ⟨h1,h2⟩|⟨k,y,h1,h2,h3,h4⟩
   ·simp -zeta only[b47,dlt hi,d9,hx,yac,a0x,a5v hs.patrons,h1,h2,a59,Bool.true_or]
    try rfl
   ·simp -zeta only[b47,dlt hi,d9,hx,yac,a0x,a5v hs.patrons,h1,h2,h4,a4i,ybg,e7l,wS i];dsimp only;cases (!(a3g c.Patrons x.Patron).2||!(a3h y.Custody)||!(y.Custody.Who==x.Patron))<;>rfl)
 have h2:=m0 (step:=b02) (λi=>((i:Int),c,())) c.Items (λ_ x=>(a3u c.Loans x.ID).2==a3h x.Custody) (.inr (false,())) (.inl ()) hs.items
  (by simp only[b02,dge,yaa])
  (λi x hx=>by
   have hi:=(zL hx)
   have:=hs.items;simp only[b02,dlt hi,d9,hx,yac,e7o hs.loans,e7l,wS i];cases (a3u c.Loans x.ID).2==a3h x.Custody<;>rfl)
 unfold qaf a2e;rw[show c6 b47 (0,c,())=_ from h1,o6];cases c.Loans.all (a3p c) with
 |false=>rfl
 |true=>
  simp only[yac];rw[show c6 b02 (0,c,())=_ from h2,o6];cases c.Items.all (λx=>(a3u c.Loans x.ID).2==a3h x.Custody)<;>rfl
def a3n (c:Circ) (h:Hold):Bool:=
 !(!(a3g c.Patrons h.Patron).2||decide (c.NextHold≤h.ID))&&(h.State==1||(match c.Items.find? (λx=>x.ID==h.Got) with
  |some x=>!(!(x.Record==h.Record))&&!(h.State==3&&(!(x.Custody.State==5)||!(x.Custody.Branch==h.Pickup)||!(x.Custody.Who==h.Patron)))&&
   !(h.State==2&&(!(x.Custody.State==6)||!(x.Custody.To==h.Pickup)||!(x.Custody.Who==h.Patron)))
  |none=>false))
def a1p (c:Circ) (x:Item):Bool:=!(x.Custody.State==5)||!(!(s7 c x.ID).2||!((s7 c x.ID).1.State==3))
def a4l (c:Circ):Bool:=c.Holds.all (a3n c)&&c.Items.all (a1p c)
def i4k {c:Circ} (hs:Short c):qah c=some (a4l c):=by
 have h1:=m0 (step:=b49) (λi=>((i:Int),c,())) c.Holds (λ_=>a3n c) (.inr (false,())) (.inl (c,())) hs.holds
  (by simp only[b49,dge,yaa])
  (λi x hx=>by
   have hi:=(zL hx)
   have:=hs.holds;unfold a3n;rcases b2l (item:=x.Got) hs.items with ⟨h1,h2⟩|⟨k,y,h1,h2,h3,h4⟩
   ·simp -zeta only[b49,dlt hi,d9,hx,yac,a0x,a5v hs.patrons,h1,h2,a59,wS i];dsimp only;cases (!(a3g c.Patrons x.Patron).2||decide (c.NextHold≤x.ID)) with
    |true=>rfl
    |false=>cases x.State==1<;>rfl
   ·simp -zeta only[b49,dlt hi,d9,hx,yac,a0x,s9,a5v hs.patrons,h1,h2,h4,a4i,yaa,wS i];dsimp only;generalize (!(a3g c.Patrons x.Patron).2||decide (c.NextHold≤x.ID))=b1;generalize (x.State==1)=b2;generalize (!(y.Record==x.Record))=b3;generalize (!(y.Custody.State==5)||!(y.Custody.Branch==x.Pickup)||!(y.Custody.Who==x.Patron))=b4;generalize (!(y.Custody.State==6)||!(y.Custody.To==x.Pickup)||!(y.Custody.Who==x.Patron))=b5;generalize (x.State==3)=b6;generalize (x.State==2)=b7;cases b1<;>cases b2<;>cases b3<;>cases b4<;>cases b5<;>cases b6<;>cases b7<;>rfl)
 have h2:=m0 (step:=b03) (λi=>((i:Int),c,())) c.Items (λ_=>a1p c) (.inr (false,())) (.inl ()) hs.items
  (by simp only[b03,dge,yaa])
  (λi x hx=>by
   have hi:=(zL hx)
   have:=hs.items;unfold a1p;simp -zeta only[b03,dlt hi,d9,hx,yac,a0x,b5d hs.holds,wS i];dsimp only;cases x.Custody.State==5 with
   |false=>rfl
   |true=>
    generalize (!(s7 c x.ID).2||!((s7 c x.ID).1.State==3))=b;cases b<;>rfl)
 unfold qah a4l;rw[show c6 b49 (0,c,())=_ from h1,o6];cases c.Holds.all (a3n c) with
 |false=>rfl
 |true=>
  simp only[yac];rw[show c6 b03 (0,c,())=_ from h2,o6];cases c.Items.all (a1p c)<;>rfl
end
section
def a3k (c:Circ):Bool:=a0o c.Cals.x0==0&&(a0o c.Cals.x1==0&&(a0o c.Cals.x2==0&&a0o c.Cals.x3==0))
def d85 {c:Circ} (hs:Short c):c6 b1k (0,c,())=some (bif a3k c then .inl (c,()) else .inr (false,())):=by
 have s0:b1k (0,c,())=bif a0o c.Cals.x0==0 then some (.inl (1,c,())) else some (.inr (.inr (false,()))):=by
  show (match qad c.Cals.x0 with|some r=>(bif !(r==0) then (some (.inr (.inr (false,()))):Option ((Int×Circ×Unit)⊕((Circ×Unit)⊕(Bool×Unit)))) else some (.inl (1,c,())))|none=>none)=_
  rw[c64 hs.cal0];dsimp only;cases a0o c.Cals.x0==0<;>rfl
 have s1:b1k (1,c,())=bif a0o c.Cals.x1==0 then some (.inl (2,c,())) else some (.inr (.inr (false,()))):=by
  show (match qad c.Cals.x1 with|some r=>(bif !(r==0) then (some (.inr (.inr (false,()))):Option ((Int×Circ×Unit)⊕((Circ×Unit)⊕(Bool×Unit)))) else some (.inl (2,c,())))|none=>none)=_
  rw[c64 hs.cal1];dsimp only;cases a0o c.Cals.x1==0<;>rfl
 have s2:b1k (2,c,())=bif a0o c.Cals.x2==0 then some (.inl (3,c,())) else some (.inr (.inr (false,()))):=by
  show (match qad c.Cals.x2 with|some r=>(bif !(r==0) then (some (.inr (.inr (false,()))):Option ((Int×Circ×Unit)⊕((Circ×Unit)⊕(Bool×Unit)))) else some (.inl (3,c,())))|none=>none)=_
  rw[c64 hs.cal2];dsimp only;cases a0o c.Cals.x2==0<;>rfl
 have s3:b1k (3,c,())=bif a0o c.Cals.x3==0 then some (.inl (4,c,())) else some (.inr (.inr (false,()))):=by
  show (match qad c.Cals.x3 with|some r=>(bif !(r==0) then (some (.inr (.inr (false,()))):Option ((Int×Circ×Unit)⊕((Circ×Unit)⊕(Bool×Unit)))) else some (.inl (4,c,())))|none=>none)=_
  rw[c64 hs.cal3];dsimp only;cases a0o c.Cals.x3==0<;>rfl
 have s4:b1k (4,c,())=some (.inr (.inl (c,()))):=rfl;refine o8 5 (by rw[o4];omega) ?_;unfold a3k;simp only[o9,s0,s1,s2,s3,s4];cases a0o c.Cals.x0==0 with
 |false=>rfl
 |true=>
  simp only[yac,o9,s1];cases a0o c.Cals.x1==0 with
  |false=>rfl
  |true=>
   simp only[yac,o9,s2];cases a0o c.Cals.x2==0 with
   |false=>rfl
   |true=>
    simp only[yac,o9,s3];cases a0o c.Cals.x3==0 with
    |false=>rfl
    |true=>simp only[yac,o9,s4];rfl
def a01 (c:Circ) (x:Charge):Bool:=!(!(a3g c.Patrons x.Patron).2||decide (c.NextCharge≤x.ID))
def c97 {c:Circ} (hs:Short c):c6 a89 (0,c,())=some (bif c.Charges.all (a01 c) then .inl (c,()) else .inr (false,())):=by
 have h:=m0 (step:=a89) (λi=>((i:Int),c,())) c.Charges (λ_=>a01 c) (.inr (false,())) (.inl (c,())) hs.charges
  (by simp only[a89,dge,yaa])
  (λi x hx=>by
   have hi:=(zL hx)
   have:=hs.charges;unfold a01;simp -zeta only[a89,dlt hi,d9,hx,yac,a0x,a5v hs.patrons,wS i];dsimp only;cases (!(a3g c.Patrons x.Patron).2||decide (c.NextCharge≤x.ID))<;>rfl)
 rw[show c6 a89 (0,c,())=_ from h,o6]
def a4a (c:Circ):Bool:=!(decide (c.Today<0)||decide (109572<c.Today)||decide (c.NextHold<1)||decide (100000<c.NextHold)||decide (c.NextCharge<1)||decide (100000<c.NextCharge))
def a3o (c:Circ):Bool:=!(!(a1a c.Patrons==0)||!(o5 c.Loans==0)||!(y5 c.Holds==0)||!(p8 c.Charges==0)||!(a2y c.Rules==0))
def a5g (c:Circ):Bool:=a4a c&&(a3o c&&(a3k c&&(c.Charges.all (a01 c)&&(a6l c&&(a2e c&&a4l c)))))
def i4l {c:Circ} (hs:Short c):qai c=some (a5g c):=by
 unfold qai a5g a4a a3o;simp -zeta only[a0x,s9,i4y hs.patrons hs.name,g49 hs.loans,i8f hs.holds,g42 hs.charges,i8i hs.rules];dsimp only;rw[d85 hs];generalize (decide (c.Today<0)||decide (109572<c.Today)||decide (c.NextHold<1)||decide (100000<c.NextHold)||decide (c.NextCharge<1)||decide (100000<c.NextCharge))=b1;generalize (!(a1a c.Patrons==0)||!(o5 c.Loans==0)||!(y5 c.Holds==0)||!(p8 c.Charges==0)||!(a2y c.Rules==0))=b2;cases b1 with
 |true=>rfl
 |false=>
  cases b2 with
  |true=>rfl
  |false=>
   cases a3k c with
   |false=>rfl
   |true=>
    simp only[yaa,yac,c97 hs];cases c.Charges.all (a01 c) with
    |false=>rfl
    |true=>
     simp -zeta only[yaa,yac,i4j hs,i4i hs,i4k hs,s9]
     try dsimp only
     cases a6l c<;>cases a2e c<;>cases a4l c<;>rfl
structure SmallP (c:Circ):Prop where
 items:c.Items.length≤10
 patrons:c.Patrons.length≤8
 holds:c.Holds.length≤12
 loans:c.Loans.length≤12
 charges:c.Charges.length≤30
 rules:c.Rules.length≤10
 moves:c.Moves.length≤200
 call:∀x∈c.Items,x.Call.length≤300
 name:∀x∈c.Patrons,x.Name.length≤300
 cal0:c.Cals.x0.Closed.length≤20
 cal1:c.Cals.x1.Closed.length≤20
 cal2:c.Cals.x2.Closed.length≤20
 cal3:c.Cals.x3.Closed.length≤20
def SmallP.short {c:Circ} (h:SmallP c):Short c:=by
 obtain ⟨h1,h2,h3,h4,h5,h6,h7,h8,h9,h10,h11,h12,h13⟩:=h;exact ⟨by omega,by omega,by omega,by omega,by omega,by omega,by omega,λx hx=>by have:=h8 x hx;omega,λx hx=>by have:=h9 x hx;omega,by omega,by omega,by omega,by omega⟩
end
section
def i4v {γ0:Type} {p:γ0→Patron→Option Bool} {q:Patron→Bool} {s:List Patron} {g:γ0} (hs:s.length<1000000000) (hp:∀x∈s,p g x=some (q x)):qbh p s g=some (a68 q s):=by
 have h:=w9 (step:=b82 p) (λi=>(s,g,(s.length:Int),(i:Int),())) s q (λi _=>(.inr ((i:Int),()):Unit⊕(Int×Unit))) (.inl ()) hs
  (by simp only[b82,dge,yaa])
  (λi x hx=>by
   have hi:=(zL hx)
   simp only[b82,dlt hi,yac,d9,hx,hp x (yag hx),wS i])
 unfold qbh;rw[show c6 (b82 p) (s,g,(s.length:Int),0,())=_ from h,←a2m];have:=a1o (p:=q) (g:=λi _=>(.inr ((i:Int),()):Unit⊕(Int×Unit))) (d:=.inl ()) (λz=>match (some z:Option (Unit⊕(Int×Unit))) with|some (.inl _)=>some (-1)|some (.inr (v,_))=>some v|none=>none) (l:=s) (i:=0);exact this.trans ((a1o (p:=q) (g:=λi _=>(i:Int)) (d:=-1) (λz=>some z) (l:=s) (i:=0)).symm)
def d53 {l:List Patron} {id:Int} (hl:l.length<1000000000):qc0 l id=some (a3g l id):=by
 unfold qc0 qbm a3g;rw[i4v (q:=λx=>x.ID==id) hl (λx _=>rfl)];rcases p7 (λx:Patron=>x.ID==id) l with ⟨h1,h2⟩|⟨i,x,h1,h2,h3,h4⟩
 ·simp only[h1,h2,a59,yac]
 ·simp only[h1,h4,a4i,yaa,d9,h2]
end
section
def a3q (lo hi n:Int):(!(rng lo hi n))=(decide (n<lo)||decide (hi<n)):=by
 unfold rng;by_cases h1:n<lo
 ·have:¬lo≤n:=by omega
  simp[h1,this]
 ·have:lo≤n:=by omega
  by_cases h2:hi<n
  ·have:¬n≤hi:=by omega
   simp[*]
  ·have:n≤hi:=by omega
   simp[*]
def h3e {X:Type} (p:X→Bool) (l:List X):decide (a68 p l<0)=!(l.any p):=by
 unfold a68
 induction l with
 |nil=>rfl
 |cons y l ih=>
  simp only[ybI,ycb];cases hp:p y with
  |true=>rfl
  |false=>
   simp only[yaz,ybd,ybg];rw[←ih];cases l.findIdx? p with
   |none=>rfl
   |some k=>simp only[ybz];rw[decide_eq_decide];omega
def c1d {X:Type} (p:X→Bool) (l:List X):decide (0≤a68 p l)=l.any p:=by
 have h:=h3e p l;cases hb:l.any p with
 |true=>rw[hb]at h;simp at h ⊢;omega
 |false=>rw[hb]at h;simp at h ⊢;omega
def h5p {γ:Type} {p:γ→Int→Option Bool} {g:γ} (q:Int→Bool) {l:List Int} (hl:l.length<1000000000) (hp:∀x∈l,p g x=some (q x)):qa9 p l g=some (a68 q l):=by
 have h:=w9 (step:=b8m p) (λi=>(l,g,(l.length:Int),(i:Int),())) l q (λi _=>(.inr ((i:Int),()):(Unit)⊕(Int×Unit))) (.inl ()) hl
  (by simp only[b8m,dge,yaa])
  (λi x hx=>by
   have hi:=(zL hx)
   simp only[b8m,dlt hi,d9,hx,yac,hp x (yag hx),wS i])
 unfold qa9;rw[show c6 (b8m p) (l,g,(l.length:Int),0,())=_ from h];have e:=a1o (p:=q) (g:=λi _=>(.inr ((i:Int),()):(Unit)⊕(Int×Unit))) (d:=.inl ()) (λr:(Unit)⊕(Int×Unit)=>match r with | .inl (_)=>(-1:Int) | .inr (v,_)=>v) (l:=l) (i:=0);dsimp only at e;rw[←a2m,←e];generalize a2v q (λi _=>(.inr ((i:Int),()):(Unit)⊕(Int×Unit))) (.inl ()) 0 l=r;rcases r with _|⟨v,_⟩<;>rfl
def h5z {γ:Type} {p:γ→Int→Option Bool} {g:γ} (q:Int→Bool) {l:List Int} (hl:l.length<1000000000) (hp:∀x∈l,p g x=some (q x)):qff p l g=some (l.any q):=by
 unfold qff;rw[h5p q hl hp];dsimp only;rw[c1d]
def h5o {γ:Type} {p:γ→Rule→Option Bool} {g:γ} (q:Rule→Bool) {l:List Rule} (hl:l.length<1000000000) (hp:∀x∈l,p g x=some (q x)):qa8 p l g=some (a68 q l):=by
 have h:=w9 (step:=b8l p) (λi=>(l,g,(l.length:Int),(i:Int),())) l q (λi _=>(.inr ((i:Int),()):(Unit)⊕(Int×Unit))) (.inl ()) hl
  (by simp only[b8l,dge,yaa])
  (λi x hx=>by
   have hi:=(zL hx)
   simp only[b8l,dlt hi,d9,hx,yac,hp x (yag hx),wS i])
 unfold qa8;rw[show c6 (b8l p) (l,g,(l.length:Int),0,())=_ from h];have e:=a1o (p:=q) (g:=λi _=>(.inr ((i:Int),()):(Unit)⊕(Int×Unit))) (d:=.inl ()) (λr:(Unit)⊕(Int×Unit)=>match r with | .inl (_)=>(-1:Int) | .inr (v,_)=>v) (l:=l) (i:=0);dsimp only at e;rw[←a2m,←e];generalize a2v q (λi _=>(.inr ((i:Int),()):(Unit)⊕(Int×Unit))) (.inl ()) 0 l=r;rcases r with _|⟨v,_⟩<;>rfl
def h5y {γ:Type} {p:γ→Rule→Option Bool} {g:γ} (q:Rule→Bool) {l:List Rule} (hl:l.length<1000000000) (hp:∀x∈l,p g x=some (q x)):qfe p l g=some (l.any q):=by
 unfold qfe;rw[h5o q hl hp];dsimp only;rw[c1d]
def e7q {γ:Type} {p:γ→Loan→Option Bool} {g:γ} (q:Loan→Bool) {l:List Loan} (hl:l.length<1000000000) (hp:∀x∈l,p g x=some (q x)):qf p l g=some (a68 q l):=by
 have h:=w9 (step:=b17 p) (λi=>(l,g,(l.length:Int),(i:Int),())) l q (λi _=>(.inr ((i:Int),()):(Unit)⊕(Int×Unit))) (.inl ()) hl
  (by simp only[b17,dge,yaa])
  (λi x hx=>by
   have hi:=(zL hx)
   simp only[b17,dlt hi,d9,hx,yac,hp x (yag hx),wS i])
 unfold qf;rw[show c6 (b17 p) (l,g,(l.length:Int),0,())=_ from h];have e:=a1o (p:=q) (g:=λi _=>(.inr ((i:Int),()):(Unit)⊕(Int×Unit))) (d:=.inl ()) (λr:(Unit)⊕(Int×Unit)=>match r with | .inl (_)=>(-1:Int) | .inr (v,_)=>v) (l:=l) (i:=0);dsimp only at e;rw[←a2m,←e];generalize a2v q (λi _=>(.inr ((i:Int),()):(Unit)⊕(Int×Unit))) (.inl ()) 0 l=r;rcases r with _|⟨v,_⟩<;>rfl
def i44 {γ:Type} {p:γ→Item→Option Bool} {g:γ} (q:Item→Bool) {l:List Item} (hl:l.length<1000000000) (hp:∀x∈l,p g x=some (q x)):qc p l g=some (a68 q l):=by
 have h:=w9 (step:=d9b p) (λi=>(l,g,(l.length:Int),(i:Int),())) l q (λi _=>(.inr ((i:Int),()):(Unit)⊕(Int×Unit))) (.inl ()) hl
  (by simp only[d9b,dge,yaa])
  (λi x hx=>by
   have hi:=(zL hx)
   simp only[d9b,dlt hi,d9,hx,yac,hp x (yag hx),wS i])
 unfold qc;rw[show c6 (d9b p) (l,g,(l.length:Int),0,())=_ from h];have e:=a1o (p:=q) (g:=λi _=>(.inr ((i:Int),()):(Unit)⊕(Int×Unit))) (d:=.inl ()) (λr:(Unit)⊕(Int×Unit)=>match r with | .inl (_)=>(-1:Int) | .inr (v,_)=>v) (l:=l) (i:=0);dsimp only at e;rw[←a2m,←e];generalize a2v q (λi _=>(.inr ((i:Int),()):(Unit)⊕(Int×Unit))) (.inl ()) 0 l=r;rcases r with _|⟨v,_⟩<;>rfl
def b8w {γ:Type} {p:γ→Hold→Option Bool} {g:γ} (q:Hold→Bool) {l:List Hold} (hl:l.length<1000000000) (hp:∀x∈l,p g x=some (q x)):qb p l g=some (a68 q l):=by
 have h:=w9 (step:=b7d p) (λi=>(l,g,(l.length:Int),(i:Int),())) l q (λi _=>(.inr ((i:Int),()):(Unit)⊕(Int×Unit))) (.inl ()) hl
  (by simp only[b7d,dge,yaa])
  (λi x hx=>by
   have hi:=(zL hx)
   simp only[b7d,dlt hi,d9,hx,yac,hp x (yag hx),wS i])
 unfold qb;rw[show c6 (b7d p) (l,g,(l.length:Int),0,())=_ from h];have e:=a1o (p:=q) (g:=λi _=>(.inr ((i:Int),()):(Unit)⊕(Int×Unit))) (d:=.inl ()) (λr:(Unit)⊕(Int×Unit)=>match r with | .inl (_)=>(-1:Int) | .inr (v,_)=>v) (l:=l) (i:=0);dsimp only at e;rw[←a2m,←e];generalize a2v q (λi _=>(.inr ((i:Int),()):(Unit)⊕(Int×Unit))) (.inl ()) 0 l=r;rcases r with _|⟨v,_⟩<;>rfl
def e7m {γ:Type} {p:γ→Hold→Option Bool} {g:γ} (q:Hold→Bool) {l:List Hold} (hl:l.length<1000000000) (hp:∀x∈l,p g x=some (q x)):qde p l g=some (l.any q):=by
 unfold qde;rw[b8w q hl hp];dsimp only;rw[c1d]
def d51 (n lo hi:Int):qbb n lo hi=some (rng lo hi n):=by
 unfold qbb;simp -zeta only[a0x,s9]
 try rfl
def e7i (n lo hi:Int):qcr n lo hi=some (rng lo hi n):=by
 unfold qcr;simp -zeta only[a0x,s9]
 try rfl
def g5e (n lo hi:Int):qci n lo hi=some (rng lo hi n):=by
 unfold qci;simp -zeta only[a0x,s9]
 try rfl
def g50 (n:Int):qfd n=some (rng 1 9999 n):=by
 unfold qfd;simp -zeta only[a0x,s9]
 try rfl
def g5n (n:Int):qe9 n=some (rng 0 109572 n):=by
 unfold qe9;simp -zeta only[a0x,s9]
 try rfl
def i5r (n:Int):qeu n=some (rng 0 109572 n):=by
 unfold qeu;simp -zeta only[a0x,s9]
 try rfl
def i5y (n:Int):qfr n=some (rng 1 9999 n):=by
 unfold qfr;simp -zeta only[a0x,s9]
 try rfl
def e7n (n:Int):qdp n=some (rng 0 109572 n):=by
 unfold qdp;simp -zeta only[a0x,s9]
 try rfl
def i5n (n:Int):qe7 n=some (rng 0 109572 n):=by
 unfold qe7;rw[e7i]
def a30 (x:Charge):Int:=
 bif decide (x.ID<1)||decide (99999<x.ID)||decide (x.Patron<1)||decide (9999<x.Patron)||decide (x.Item<1)||decide (9999<x.Item)||!(rng 0 109572 x.Day) then 2
 else bif decide (x.Kind<1)||decide (3<x.Kind) then 1
 else bif decide (x.Amount<1)||decide (100000000<x.Amount)||decide (x.Paid<0)||decide (x.Amount≤x.Paid) then 2 else 0
def g5j (x:Charge):qcu x=some (a30 x):=by
 unfold qcu a30;simp -zeta only[a0x,s9,i5r,i5y,a3q 1 9999,ybM];dsimp only;simp only[a2n,ybM]
def a7o {α β:Type} (a:α) (g:Int→β) (e:Int):(bif !(e==0) then some (.inr (g e)) else some (.inl a):Option (α⊕β))=a66 a g e:=by
 unfold a66;cases e==0<;>rfl
def b3g (l:List Charge) (i:Nat) (x:Charge):a1w l i x=bif w7 l i (λy=>decide (x.ID≤y.ID)) then 7 else a30 x:=rfl
def d87 {l:List Charge} (hl:l.length<1000000000):c6 b5f (l,l,(l.length:Int),0,())=some (if a0j (a1w l) 0 l==0 then .inl () else .inr (a0j (a1w l) 0 l,())):=by
 have h:=a1b (step:=b5f) (λi=>(l,l,(l.length:Int),(i:Int),())) l (a1w l) (.inl ()) (λe=>.inr (e,())) hl
  (by simp only[b5f,dge,yaa])
  (λi x hx=>by
   have hi:=(zL hx)
   have hxm:=yag hx;rw[b3g,a03,←a7o _ _ (a30 x)];rcases i with _|j
   ·simp -zeta only[b5f,dlt hi,d9,hx,a0x,s9,b62,yaa,yac,w7,a0c (show 0<9223372036854775807 by omega),g5j]
    try rfl
   ·have hj:l[j]?=some l[j]:=yab (by omega);simp -zeta only[b5f,dlt hi,d9,hx,a0x,s9,e37,a34 (show j<1000000000 by omega),hj,yaa,yac,w7,a0c (show j+1<9223372036854775807 by omega),g5j];rfl)
 exact h
def g46 {l:List Charge} (hl:l.length<1000000000):qax l=some (p8 l):=by
 unfold qax p8;rw[d87 hl];generalize a0j (a1w l) 0 l=e;cases decide (128<(l.length:Int)) with
 |true=>rfl
 |false=>
  by_cases h:e=0
  ·subst h;rfl
  ·have h2:(e==0)=false:=by simpa using h
   simp only[h2,yaz,ybd,yaa]
def d86 {l:List Loan} (hl:l.length<1000000000):c6 b5b (l,l,(l.length:Int),0,())=some (if a0j (a4q l) 0 l==0 then .inl () else .inr (a0j (a4q l) 0 l,())):=by
 have h:=a1b (step:=b5b) (λi=>(l,l,(l.length:Int),(i:Int),())) l (a4q l) (.inl ()) (λe=>.inr (e,())) hl
  (by simp only[b5b,dge,yaa])
  (λi x hx=>by
   have hi:=(zL hx)
   have hxm:=yag hx;unfold a4q;simp only[a03];rcases i with _|j
   ·simp -zeta only[b5b,dlt hi,d9,hx,a0x,s9,b62,yaa,yac,w7,a0c (show 0<9223372036854775807 by omega),g50,g5n,a3q,ybM];simp only[ybM]
    try rfl
   ·have hj:l[j]?=some l[j]:=yab (by omega);simp -zeta only[b5b,dlt hi,d9,hx,a0x,s9,e37,a34 (show j<1000000000 by omega),hj,yaa,yac,w7,a0c (show j+1<9223372036854775807 by omega),g50,g5n,a3q,ybM];simp only[ybM];rfl)
 exact h
def g44 {l:List Loan} (hl:l.length<1000000000):qam l=some (o5 l):=by
 unfold qam o5;rw[d86 hl];generalize a0j (a4q l) 0 l=e;cases decide (64<(l.length:Int)) with
 |true=>rfl
 |false=>
  by_cases h:e=0
  ·subst h;rfl
  ·have h2:(e==0)=false:=by simpa using h
   simp only[h2,yaz,ybd,yaa]
def a5f (x:Patron):Int:=
 bif decide (x.Kind<1)||decide (9<x.Kind)||decide (x.Branch<1)||decide (4<x.Branch) then 1
 else bif decide (x.Until<0)||decide (109572<x.Until) then 2
 else bif x.Name==[]||!(vld x.Name)||!(cln x.Name==x.Name) then 3
 else bif decide (200<(x.Name.length:Int)) then 4 else 0
def i5p {x:Patron} (h:x.Name.length<10000000):qep x=some (a5f x):=by
 have hV:qcz x.Name=some (vld x.Name):=by
  have:decide (x.Name.length≤LIM)=true:=by rw[yad];unfold LIM;omega
  unfold qcz;rw[this];rfl
 have hC:vld x.Name=true→qdb x.Name=some (cln x.Name):=λhv=>by
  have:decide (x.Name.length≤LIM)=true:=by rw[yad];unfold LIM;omega
  unfold qdb;rw[this,hv];rfl
 unfold qep a5f;simp -zeta only[a0x,s9,hV];cases hv:vld x.Name with
 |true=>
  rw[hC hv];simp -zeta only[a0x,s9,yak,Bool.or_false];dsimp only;simp only[a2n]
 |false=>
  simp -zeta only[a0x,s9,yas,Bool.or_true,Bool.true_or,yac];dsimp only;simp only[a2n,yac]
def c4k (l:List Patron):Nat→Int
 |0=>0
 |j+1=>match l[j]? with|some y=>y.ID|none=>0
def b4y (l:List Patron) (i:Nat) (x:Patron):a1x l i x=bif decide (x.ID<1)||decide (9999<x.ID) then 2 else bif w7 l i (λy=>decide (x.ID≤y.ID)) then 7 else a5f x:=rfl
def b7a (l:List Patron) (i:Nat) (x:Patron) (hi:i≤l.length):a1x l i x=bif decide (x.ID<1)||decide (9999<x.ID) then 2 else bif decide (x.ID≤c4k l i) then 7 else a5f x:=by
 rw[b4y];cases hb:(decide (x.ID<1)||decide (9999<x.ID)) with
 |true=>rfl
 |false=>
  rw[yai,yaf,yaf]at hb;cases i with
  |zero=>
   have:decide (x.ID≤c4k l 0)=false:=by rw[yaf];show ¬x.ID≤0;omega
   rw[this];rfl
  |succ j=>
   have hj:l[j]?=some l[j]:=yab (by omega);simp only[w7,c4k,hj]
def d80 {l:List Patron} (hl:l.length<1000000000) (hn:∀x∈l,x.Name.length<10000000):c6 b8i (0,l,(l.length:Int),0,())=some (if a0j (a1x l) 0 l==0 then .inl () else .inr (a0j (a1x l) 0 l,())):=by
 have h:=a1b (step:=b8i) (λi=>(c4k l i,l,(l.length:Int),(i:Int),())) l (a1x l) (.inl ()) (λe=>.inr (e,())) hl
  (by simp only[b8i,dge,yaa])
  (λi x hx=>by
   have hi:=(zL hx)
   have hxm:=yag hx;rw[b7a l i x (by omega),a03,a03,←a7o _ _ (a5f x)];simp -zeta only[b8i,dlt hi,d9,hx,a0x,s9,yaa,yac,i5p (hn x hxm),wS i];simp only[c4k,hx];rfl)
 exact h
def i4g {l:List Patron} (hl:l.length<1000000000) (hn:∀x∈l,x.Name.length<10000000):qa1 l=some (a1a l):=by
 unfold qa1 a1a;rw[d80 hl hn];generalize a0j (a1x l) 0 l=e;cases decide (32<(l.length:Int)) with
 |true=>rfl
 |false=>
  by_cases h:e=0
  ·subst h;rfl
  ·have h2:(e==0)=false:=by simpa using h
   simp only[h2,yaz,ybd,yaa]
def i9s (n:Int):(!(rng 0 9999 n))=(!(n==0)&&!(rng 1 9999 n)):=by
 rw[a3q,a3q];by_cases h:n=0
 ·subst h;rfl
 ·have h2:(n==0)=false:=by simpa using h
  rw[h2];have:decide (n<0)=decide (n<1):=by rw[decide_eq_decide];omega
  rw[this];rfl
def d7o {α:Type} (a b:Bool) (x y:α):(bif a then x else bif b then x else y)=bif a||b then x else y:=by cases a<;>rfl
def g5o (x:Hold):qea x=some (t7 x):=by
 unfold qea t7;simp -zeta only[a0x,s9,i5n,e7i];dsimp only;simp only[a2n,i9s,a3q 1 99999,a3q 1 4,a3q 0 9,a3q 1 3,d7o,ybM]
def a4y (l:List Hold) (i:Nat) (x:Hold):a1g l i x=bif w7 l i (λy=>decide (x.ID≤y.ID)) then 7 else t7 x:=by
 unfold a1g;congr 1;cases h:t7 x==0 with
 |true=>simp at h;simp[h]
 |false=>simp
def e7w {l:List Hold} (hl:l.length<1000000000):c6 d0k (l,l,(l.length:Int),0,())=some (if a0j (a1g l) 0 l==0 then .inl (l,()) else .inr (a0j (a1g l) 0 l,())):=by
 have h:=a1b (step:=d0k) (λi=>(l,l,(l.length:Int),(i:Int),())) l (a1g l) (.inl (l,())) (λe=>.inr (e,())) hl
  (by simp only[d0k,dge,yaa])
  (λi x hx=>by
   have hi:=(zL hx)
   have hxm:=yag hx;rw[a4y,a03,←a7o _ _ (t7 x)];rcases i with _|j
   ·simp -zeta only[d0k,dlt hi,d9,hx,a0x,s9,b62,yaa,yac,w7,a0c (show 0<9223372036854775807 by omega),g5o]
    try rfl
   ·have hj:l[j]?=some l[j]:=yab (by omega);simp -zeta only[d0k,dlt hi,d9,hx,a0x,s9,e37,a34 (show j<1000000000 by omega),hj,yaa,yac,w7,a0c (show j+1<9223372036854775807 by omega),g5o];rfl)
 exact h
def e7r {γ:Type} {p:γ→Hold→Hold→Option Bool} {g:γ} {q:Hold→Hold→Bool} (hp:∀a b,p g a b=some (q a b)) {l:List Hold} (hl:l.length<1000000000) {i:Nat} {x:Hold} (hx:l[i]?=some x) {v v2:Int} :
 c6 (c7a p) (l,g,(i:Int),v,v2,(i:Int),0,())=some (bif (l.take i).all (λy=>!(q y x)) then .inl (l,g,v,v2,()) else .inr (true,())):=by
 have hi:=(zL hx)
 have h:=m0 (step:=c7a p) (λk=>(l,g,(i:Int),v,v2,(i:Int),(k:Int),())) (l.take i) (λ_ y=>!(q y x)) (.inr (true,())) (.inl (l,g,v,v2,())) (by rw[yaH];omega)
  (by rw[yaH,Nat.min_eq_left (by omega)];simp only[c7a,dge,yaa])
  (λk y hy=>by
   have hk:=(zL hy)
   rw[yaH]at hk;have hy2:l[k]?=some y:=by rw[←hy,ybP (by omega)]
   simp -zeta only[c7a,dlt (show k<i by omega),d9,hx,hy2,hp,yac,wS k];cases q y x<;>rfl)
 rw[show c6 (c7a p) (l,g,(i:Int),v,v2,(i:Int),0,())=_ from h,o6]
def c8e (q:Hold→Hold→Bool) (l:List Hold):Bool:=a1v (λi x=>(l.take i).all (λy=>!(q y x))) 0 l
def i54 {γ:Type} {p:γ→Hold→Hold→Option Bool} {g:γ} (q:Hold→Hold→Bool) (hp:∀a b,p g a b=some (q a b)) {l:List Hold} (hl:l.length<1000000000):qg p l g=some (!(c8e q l)):=by
 have h:=m0 (step:=d0i p) (λi=>(l,g,(l.length:Int),(i:Int),())) l (λi x=>(l.take i).all (λy=>!(q y x))) (.inr (true,())) (.inl ()) hl
  (by simp only[d0i,dge,yaa])
  (λi x hx=>by
   have hi:=(zL hx)
   simp only[d0i,dlt hi,yac,e7r hp hl hx];cases (l.take i).all (λy=>!(q y x)) with
   |true=>simp only[yac,wS i]
   |false=>rfl)
 unfold qg;rw[show c6 (d0i p) (l,g,(l.length:Int),0,())=_ from h];unfold c8e;cases a1v (λi x=>(l.take i).all (λy=>!(q y x))) 0 l<;>rfl
def b2b (a b:Hold):Bool:=a.Patron==b.Patron&&a.Record==b.Record
def b2a (a b:Hold):Bool:=a.Got==b.Got&&decide (0<a.Got)
def d6w {l:List Hold}:a3d l=(c8e b2b l&&c8e b2a l):=by
 unfold a3d c8e;have key:∀(m:List Hold) (i:Nat),a1v (λi x=>(l.take i).all (λy=>!(a0w x y))) i m=(a1v (λi x=>(l.take i).all (λy=>!(b2b y x))) i m&&a1v (λi x=>(l.take i).all (λy=>!(b2a y x))) i m):=by
  intro m
  induction m with
  |nil=>intro i;rfl
  |cons x m ih=>
   intro i;simp only[a1v];rw[ih (i+1)];have e:(l.take i).all (λy=>!(a0w x y))=((l.take i).all (λy=>!(b2b y x))&&(l.take i).all (λy=>!(b2a y x))):=by
    induction l.take i with
    |nil=>rfl
    |cons y t iht=>
     simp only[ybR];rw[iht];have e2:(!(a0w x y))=(!(b2b y x)&&!(b2a y x)):=by
      unfold a0w b2b b2a;rw[←Bool.not_or];congr 1;have a1:(x.Patron==y.Patron)=(y.Patron==x.Patron):=Bool.beq_comm;have a2:(x.Record==y.Record)=(y.Record==x.Record):=Bool.beq_comm;rw[a1,a2];congr 1;rw[ybj];simp only[yae,yad,ya6];constructor
      ·rintro ⟨h1,h2⟩;exact ⟨h2.symm,by omega⟩
      ·rintro ⟨h1,h2⟩;exact ⟨by omega,h1.symm⟩
     rw[e2];cases b2b y x<;>cases b2a y x<;>cases t.all (λy=>!(b2b y x))<;>cases t.all (λy=>!(b2a y x))<;>rfl
   rw[e];cases (l.take i).all (λy=>!(b2b y x))<;>cases (l.take i).all (λy=>!(b2a y x))<;>cases a1v (λi x=>(l.take i).all (λy=>!(b2b y x))) (i+1) m<;>cases a1v (λi x=>(l.take i).all (λy=>!(b2a y x))) (i+1) m<;>rfl
 exact key l 0
def i8d {l:List Hold} (hl:l.length<1000000000):qk l=some (y5 l):=by
 have t1:=i54 (p:=λ(g:Unit×Unit) x0 x1=>qc4 x0 x1) (g:=((),())) b2b (λa b=>by unfold qc4 b2b;simp -zeta only[s9];rfl) hl;have t2:=i54 (p:=λ(g:Unit×Unit) x0 x1=>qd8 x0 x1) (g:=((),())) b2a (λa b=>by unfold qd8 b2a;simp -zeta only[s9];rfl) hl;unfold qk y5;rw[e7w hl];cases decide (64<(l.length:Int)) with
 |true=>rfl
 |false=>
  by_cases h:a0j (a1g l) 0 l=0
  ·simp only[h,yal,ybD,yaa,yac,t1,t2,d6w];cases c8e b2b l<;>cases c8e b2a l<;>rfl
  ·have:(a0j (a1g l) 0 l==0)=false:=by simpa using h
   simp only[this,yaz,ybd,yaa]
def i5h (r:Rule):qdj r=some (a5w r):=by
 unfold qdj a5w;simp -zeta only[a0x,s9,g5e];dsimp only;congr 1;generalize rng 0 9 r.Patron=b0;generalize rng 0 9 r.Item=b1;generalize rng 0 4 r.Branch=b2;generalize rng 0 365 r.Days=b3;generalize rng 0 10 r.Renewals=b4;generalize rng 0 99 r.Loans=b5;generalize rng 0 1000 r.Fine=b6;generalize rng 0 30 r.Grace=b7;generalize rng 0 100000000 r.MaxFine=b8;cases b0<;>cases b1<;>cases b2<;>cases b3<;>cases b4<;>cases b5<;>cases b6<;>cases b7<;>cases b8<;>rfl
def b97 {X:Type} (q:X→Bool) (l:List X):l.any q=!(l.all (λy=>!(q y))):=by
 induction l with
 |nil=>rfl
 |cons y l ih=>simp only[ycb,ybR];rw[ih];cases q y<;>rfl
def e77 {l:List Rule} (hl:l.length<1000000000):c6 d9p (l,l,(l.length:Int),0,())=some (if a0j (a4s l) 0 l==0 then .inl () else .inr (a0j (a4s l) 0 l,())):=by
 have h:=a1b (step:=d9p) (λi=>(l,l,(l.length:Int),(i:Int),())) l (a4s l) (.inl ()) (λe=>.inr (e,())) hl
  (by simp only[d9p,dge,yaa])
  (λi x hx=>by
   have hi:=(zL hx)
   have d1:decide ((0:Int)≤(i:Int))=true:=by rw[yad];omega
   have d2:decide ((i:Int)≤(l.length:Int))=true:=by rw[yad];omega
   have hc:=h5y (p:=λ(g:Unit×Rule×Unit) x0=>qc8 x0 g.2.1) (g:=((),(x,()))) (λy=>a5x y x) (l:=l.take i) (by rw[yaH];omega) (λy _=>by
    unfold qc8 a5x;simp -zeta only[s9];rfl)
   unfold a4s;simp only[a03,d9p,dlt hi,d9,hx,yac,i5h,d1,d2,Int.le_refl,decide_true,ybo,yaB,Int.toNat_zero,ybX,hc];rw[b97];cases a5w x with
   |false=>rfl
   |true=>
    simp only[yak,yaa];cases (l.take i).all (λy=>!(a5x y x)) with
    |true=>simp only[yac,yaa,yak,wS i];rfl
    |false=>rfl)
 exact h
def i8j {l:List Rule} (hl:l.length<1000000000):qx l=some (a2y l):=by
 unfold qx a2y;rw[e77 hl];generalize a0j (a4s l) 0 l=e;cases decide (32<(l.length:Int)) with
 |true=>rfl
 |false=>
  by_cases h:e=0
  ·subst h;rfl
  ·have h2:(e==0)=false:=by simpa using h
   simp only[h2,yaz,ybd,yaa]
def e74 {c:Calendar} (hl:c.Closed.length<1000000000):c6 d0q (c.Closed,(c.Closed.length:Int),0,c,())=some (bif f2b c.Closed then .inl () else .inr (7,())):=by
 have h:=m0 (step:=d0q) (λi=>(c.Closed,(c.Closed.length:Int),(i:Int),c,())) c.Closed (λi x=>!(w7 c.Closed i (λy=>decide (x≤y)))) (.inr (7,())) (.inl ()) hl
  (by simp only[d0q,dge,yaa])
  (λi x hx=>by
   have hi:=(zL hx)
   rcases i with _|j
   ·simp -zeta only[d0q,dlt hi,d9,hx,s9,b62,yaa,yac,w7,a0c (show 0<9223372036854775807 by omega)]
    try rfl
   ·have hj:c.Closed[j]?=some c.Closed[j]:=yab (by omega);simp -zeta only[d0q,dlt hi,d9,hx,e37,yac,a34 (show j<1000000000 by omega),hj,w7,a0c (show j+1<9223372036854775807 by omega)];dsimp only;cases decide (x≤c.Closed[j])<;>rfl)
 exact h
def i57 {c:Calendar} (hl:c.Closed.length<1000000000):qv c=some (a0o c):=by
 unfold qv a0o;simp -zeta only[a0x];dsimp only;rw[e74 hl,h5z (λx=>decide (x<0)||decide (109572<x)) hl (λx _=>by
  unfold qdn;rw[e7n];dsimp only;rw[a3q]),b97]
 have e:decide (127≤c.Week)=decide (126<c.Week):=by rw[decide_eq_decide];omega
 rw[e];cases (decide (c.Week<0)||decide (126<c.Week)) with
 |true=>rfl
 |false=>
  cases decide (64<(c.Closed.length:Int)) with
  |true=>rfl
  |false=>
   cases c.Closed.all (λx=>!(decide (x<0)||decide (109572<x))) with
   |false=>rfl
   |true=>
    simp only[yaa,yac];cases f2b c.Closed<;>rfl
end
section
def e7e (n lo hi:Int):qbv n lo hi=some (rng lo hi n):=by
 unfold qbv;simp -zeta only[a0x,s9]
 try rfl
def a0a {lo hi n:Int}:rng lo hi n=true↔lo≤n∧n≤hi:=by
 unfold rng;simp only[yae,yad]
def b3w {n:Int} (h:rng 1 12 n=true):n=1∨n=2∨n=3∨n=4∨n=5∨n=6∨n=7∨n=8∨n=9∨n=10∨n=11∨n=12:=by
 have:=a0a.1 h;omega
def a49 {n:Int} (h:rng 1 15 n=true):n=1∨n=2∨n=3∨n=4∨n=5∨n=6∨n=7∨n=8∨n=9∨n=10∨n=11∨n=12∨n=13∨n=14∨n=15:=by
 have:=a0a.1 h;omega
def i5f {s k:Int} (hs:rng 1 12 s=true) (hk:rng 1 15 k=true):qdf s k=some (a64 s k):=by
 rcases b3w hs with h|h|h|h|h|h|h|h|h|h|h|h<;>subst h<;>
  rcases a49 hk with h|h|h|h|h|h|h|h|h|h|h|h|h|h|h<;>subst h<;>rfl
def i5d (c:Custody):qd7 c=some (a9b c):=by
 unfold qd7 a9b h51;simp -zeta only[a0x,s9,a91,e7e,a3q];dsimp only;cases hb:(decide (c.State<1)||decide (12<c.State)||(decide (c.Branch<1)||decide (4<c.Branch))) with
 |true=>
  have:(decide (c.State<1)||decide (12<c.State)||decide (c.Branch<1)||decide (4<c.Branch))=true:=by rw[←hb,ybM _ _ (decide (4<c.Branch))]
  rw[this];rfl
 |false=>
  have:(decide (c.State<1)||decide (12<c.State)||decide (c.Branch<1)||decide (4<c.Branch))=false:=by rw[←hb,ybM _ _ (decide (4<c.Branch))]
  rw[this];have hr:rng 1 12 c.State=true:=by
   simp only[yai,yaf]at hb;rw[a0a];omega
  unfold rng;simp only[yaa];generalize decide (0≤c.Who)=a1;generalize decide (c.Who≤9999)=a2;generalize decide (1≤c.Who)=a3;generalize decide (1≤c.To)=a4;generalize decide (c.To≤4)=a5;generalize (c.To==0)=a6;generalize (c.To==c.Branch)=a7;generalize (c.Who==0)=a8;rcases b3w hr with h|h|h|h|h|h|h|h|h|h|h|h<;>rw[h]<;>revert a1 a2 a3 a4 a5 a6 a7 a8<;>decide
def g5i (c:Custody) (ok:Bool):qcs c ok=some (bif ok then (c,0) else (⟨0,0,0,0⟩,1)):=by
 cases ok<;>rfl
def i5i (c:Custody) (m:Move):qds c m=some (bif !(m.Branch==c.Branch) then (⟨6,c.Branch,m.Who,m.Branch⟩,0) else (⟨0,0,0,0⟩,1)):=by
 unfold qds;rw[g5i]
def g5s (c:Custody) (m:Move):qen c m=some (s8 c m):=by
 unfold qen s8;simp -zeta only[a0x,s9,a91,e7e,i5d];dsimp only;have hw:(!(rng 0 109572 m.Day)||!(rng 1 9999 m.Item)||!(rng 1 15 m.Kind)||!(rng 1 4 m.Branch)||!(rng 0 9999 m.Who))=!(a9a m):=by
  unfold a9a rng;simp only[Bool.not_and,ybM]
 rw[show (!(a9b c)||!(rng 0 109572 m.Day)||!(rng 1 9999 m.Item)||!(rng 1 15 m.Kind)||!(rng 1 4 m.Branch)||!(rng 0 9999 m.Who))=(!(a9b c)||!(a9a m)) by rw[←hw];simp only[ybM]];cases hb:(!(a9b c)||!(a9a m)) with
 |true=>rfl
 |false=>
  simp only[yai,yay]at hb;obtain ⟨h1,h2⟩:=hb;rw[h2,yak]at hw;simp only[yai,yay]at hw;obtain ⟨⟨⟨⟨w1,w2⟩,w3⟩,w4⟩,w5⟩:=hw;have hs:rng 1 12 c.State=true:=by
   unfold a9b at h1;rw[a0a];cases hq:(decide (c.State<1)||decide (12<c.State)||decide (c.Branch<1)||decide (4<c.Branch)) with
   |true=>rw[hq]at h1;cases h1
   |false=>simp only[yai,yaf]at hq;omega
  rw[i5f hs w3];simp only[yaa];cases ha:a64 c.State m.Kind with
  |false=>rfl
  |true=>
   simp only[yak,yaa];have h0:=(a0a.1 w5).1;unfold c2a a0z;simp only[g5i,i5i];generalize (c.State==5)=g5;generalize (m.Who==c.Who)=g7;generalize (m.Branch==c.To)=g6;by_cases hw0:m.Who=0
   ·have e2:decide (1≤m.Who)=false:=by rw[yaf];omega
    rw[e2];simp only[hw0];by_cases hb:m.Branch=c.Branch
    ·simp only[hb,yal];rcases a49 w3 with h|h|h|h|h|h|h|h|h|h|h|h|h|h|h<;>
      (simp only[h];cases g5<;>cases g6<;>cases g7<;>rfl)
    ·have e3:(m.Branch==c.Branch)=false:=by simpa using hb
     simp only[e3];rcases a49 w3 with h|h|h|h|h|h|h|h|h|h|h|h|h|h|h<;>
      (simp only[h];cases g5<;>cases g6<;>cases g7<;>rfl)
   ·have e2:decide (1≤m.Who)=true:=by rw[yad];omega
    have e1:(m.Who==0)=false:=by simpa using hw0
    rw[e2];simp only[e1];by_cases hb:m.Branch=c.Branch
    ·simp only[hb,yal];rcases a49 w3 with h|h|h|h|h|h|h|h|h|h|h|h|h|h|h<;>
      (simp only[h];cases g5<;>cases g6<;>cases g7<;>rfl)
    ·have e3:(m.Branch==c.Branch)=false:=by simpa using hb
     simp only[e3];rcases a49 w3 with h|h|h|h|h|h|h|h|h|h|h|h|h|h|h<;>
      (simp only[h];cases g5<;>cases g6<;>cases g7<;>rfl)
end
section
def i4o {branch:Int} {l:List Move} {item:Int} (hl:l.length<1000000000):qar branch l item=some (a00 branch l item):=by
 unfold qar a00;simp -zeta only[e7e,a3q]
 try dsimp only
 have h:=a2k (step:=b8q) (λi c=>(item,l,(l.length:Int),(i:Int),(⟨0,0,0,0⟩:Custody),c,())) l
  (λi x c=>bif x.Item==item then (bif (s8 c x).2==0 then .inl (s8 c x).1 else .inr (.inr ((i:Int),(s8 c x).2,(⟨0,0,0,0⟩:Custody),()))) else .inl c)
  (λc=>.inl (⟨0,0,0,0⟩,c,())) (by show l.length<18446744073709551616;omega) (λc=>by simp only[b8q,dge,yaa])
  (λi x c hx=>by
   have hi:=(zL hx)
   simp only[b8q,dlt hi,d9,hx,yac,g5s,wS i];cases x.Item==item with
   |false=>rfl
   |true=>
    simp only[yak,yaa,yac];obtain ⟨d,e⟩:=s8 c x;cases he:e==0 with
    |true=>rfl
    |false=>rfl) (b13 branch)
 rw[b6e item (λc=>(.inl (⟨0,0,0,0⟩,c,()):(Custody×Custody×Unit)⊕(Int×Int×Custody×Unit))) (λp=>.inr (p.1,p.2,(⟨0,0,0,0⟩:Custody),()))]at h;cases (decide (branch<1)||decide (4<branch)) with
 |true=>rfl
 |false=>
  simp only[yaa,qab];rw[show c6 b8q (item,l,(l.length:Int),0,(⟨0,0,0,0⟩:Custody),(⟨1,branch,0,0⟩:Custody),())=_ from h];cases a0n 0 l item (b13 branch) with
  |inl c=>rfl
  |inr p=>rfl
def f9r {c:Circ} {item:Int} (hl:c.Items.length<1000000000):qr c item=some (a68 (λx=>x.ID==item) c.Items):=by
 unfold qr;rw[i44 (λx=>x.ID==item) hl (λx _=>rfl)]
def b2m {c:Circ} {item:Int} (hl:c.Items.length<1000000000):(qr c item=some (-1)∧c.Items.find? (λx=>x.ID==item)=none)∨
 ∃(i:Nat) (x:Item),qr c item=some (i:Int)∧c.Items[i]?=some x∧x.ID=item∧c.Items.find? (λx=>x.ID==item)=some x:=by
 rw[f9r hl,←c2b hl];exact b2l hl
def d55 {c:Circ} {id:Int} (hl:c.Patrons.length<1000000000):qcv id c=some (a3g c.Patrons id).2:=by
 unfold qcv;rw[d53 hl]
def g5g {l:List Loan} {item:Int} (hl:l.length<1000000000):qcl l item=some (a3u l item):=by
 unfold qcl qan qch a3u;dsimp only;rw[e7q (p:=λ(g:Unit×Int×Unit) x0=>qcx x0 g.2.1) (g:=((),(item,()))) (λx=>x.Item==item) hl (λx _=>rfl)];rcases p7 (λx:Loan=>x.Item==item) l with ⟨h1,h2⟩|⟨i,x,h1,h2,h3,h4⟩
 ·simp only[h1,h2,a59,yac]
  try rfl
 ·simp only[h1,h4,a4i,yaa,d9,h2];have:decide ((0:Int)≤(i:Int))=true:=by rw[yad];omega
  rw[this]
def a98 {c:Circ} {item:Int} (hl:c.Holds.length<1000000000):qaq c item=some (s7 c item):=by
 unfold qaq s7;rw[b8w (p:=λ(g:Unit×Int×Unit) x0=>qdk x0 g.2.1) (g:=((),(item,()))) (λx=>x.Got==item) hl (λx _=>rfl)];rcases p7 (λx:Hold=>x.Got==item) c.Holds with ⟨h1,h2⟩|⟨i,x,h1,h2,h3,h4⟩
 ·simp only[h1,h2,a59,yac]
  try rfl
 ·simp only[h1,h4,a4i,yaa,d9,h2]
def a0f (x:Item):Bool:=rng 1 9999 x.ID&&rng 1 9999 x.Record&&rng 1 4 x.Branch&&rng 1 9 x.Kind&&rng 0 100000000 x.Price&&decide ((x.Call.length:Int)≤200)&&vld x.Call
def g5r (x:Item):qem x=some (a0f x):=by
 unfold qem a0f;simp -zeta only[s9,d51];dsimp only;cases hb:(rng 1 9999 x.ID&&rng 1 9999 x.Record&&rng 1 4 x.Branch&&rng 1 9 x.Kind&&rng 0 100000000 x.Price&&decide ((x.Call.length:Int)≤200)) with
 |false=>rfl
 |true=>
  simp only[yae,yad]at hb;have:decide (x.Call.length≤LIM)=true:=by rw[yad];unfold LIM;omega
  unfold qcz;rw[this]
  try rfl
def e71 {c:Circ} (hl:c.Items.length<1000000000):c6 d0o (c.Items,(c.Items.length:Int),0,c,())=some (bif a1v (λi x=>!(!(a0f x)||w7 c.Items i (λy=>decide (x.ID≤y.ID)))) 0 c.Items then .inl (c,()) else .inr (false,())):=by
 have h:=m0 (step:=d0o) (λi=>(c.Items,(c.Items.length:Int),(i:Int),c,())) c.Items (λi x=>!(!(a0f x)||w7 c.Items i (λy=>decide (x.ID≤y.ID)))) (.inr (false,())) (.inl (c,())) hl
  (by simp only[d0o,dge,yaa])
  (λi x hx=>by
   have hi:=(zL hx)
   rcases i with _|j
   ·simp -zeta only[d0o,dlt hi,d9,hx,a0x,b62,yaa,yac,w7,g5r,a0c (show 0<9223372036854775807 by omega)];dsimp only;cases a0f x<;>rfl
   ·have hj:c.Items[j]?=some c.Items[j]:=yab (by omega);simp -zeta only[d0o,dlt hi,d9,hx,a0x,e37,a34 (show j<1000000000 by omega),hj,yaa,yac,w7,g5r,a0c (show j+1<9223372036854775807 by omega)];dsimp only;cases a0f x<;>cases decide (x.ID≤c.Items[j].ID)<;>rfl)
 exact h
def a1e (c:Circ) (x:Item):Bool:=!(!((a00 x.Branch c.Moves x.ID).2.2==0)||!(u7 (a00 x.Branch c.Moves x.ID).1 x.Custody))
def c1x (c:Circ):Bool:=c.Moves.all (λm=>(c.Items.find? (λx=>x.ID==m.Item)).isSome)
def a1h (c:Circ):Bool:=!(decide (64<(c.Items.length:Int))||decide (2000<(c.Moves.length:Int)))&&(a1v (λi x=>!(!(a0f x)||w7 c.Items i (λy=>decide (x.ID≤y.ID)))) 0 c.Items&&(c1x c&&c.Items.all (a1e c)))
def i8h {c:Circ} (hs:Short c):qt c=some (a1h c):=by
 have h2:=m0 (step:=b9p) (λi=>(c.Moves,(c.Moves.length:Int),(i:Int),c,())) c.Moves (λ_ m=>(c.Items.find? (λx=>x.ID==m.Item)).isSome) (.inr (false,())) (.inl (c,())) hs.moves
  (by simp only[b9p,dge,yaa])
  (λi x hx=>by
   have hi:=(zL hx)
   have:=hs.moves;simp only[b9p,dlt hi,d9,hx,yac,wS i];rcases b2m (item:=x.Item) hs.items with ⟨h1,h2⟩|⟨k,y,h1,h2,h3,h4⟩
   ·simp only[h1,h2,a59,yac,yb5,yaa]
   ·simp only[h1,h4,a4i,yaa,Option.isSome_some,yac])
 have h3:=m0 (step:=b9q) (λi=>(c.Items,(c.Items.length:Int),(i:Int),c,())) c.Items (λ_=>a1e c) (.inr (false,())) (.inl ()) hs.items
  (by simp only[b9q,dge,yaa])
  (λi x hx=>by
   have hi:=(zL hx)
   have:=hs.items;unfold a1e;simp -zeta only[b9q,dlt hi,d9,hx,yac,a0x,i4o hs.moves,wS i];dsimp only;cases (!((a00 x.Branch c.Moves x.ID).2.2==0)||!(u7 (a00 x.Branch c.Moves x.ID).1 x.Custody))<;>rfl)
 unfold qt a1h c1x;simp -zeta only[a0x];dsimp only;rw[e71 hs.items];cases (decide (64<(c.Items.length:Int))||decide (2000<(c.Moves.length:Int))) with
 |true=>rfl
 |false=>
  cases a1v (λi x=>!(!(a0f x)||w7 c.Items i (λy=>decide (x.ID≤y.ID)))) 0 c.Items with
  |false=>rfl
  |true=>
   simp only[yaa,yac];rw[show c6 b9p (c.Moves,(c.Moves.length:Int),0,c,())=_ from h2,o6];cases c.Moves.all (λm=>(c.Items.find? (λx=>x.ID==m.Item)).isSome) with
   |false=>rfl
   |true=>
    simp only[yac];rw[show c6 b9q (c.Items,(c.Items.length:Int),0,c,())=_ from h3,o6];cases c.Items.all (a1e c)<;>rfl
def e70 {c:Circ} (hs:Short c):c6 c7b (c.Cals,0,c,())=some (bif a3k c then .inl (c,()) else .inr (false,())):=by
 have st:∀(i:Int) (w:Int) (cl:List Int) (hl:cl.length<1000000000),(match qv (⟨w,cl⟩:Calendar) with
  |some r16=>(bif !(r16==0) then some (.inr (.inr (false,()))) else some (.inl (c.Cals,i,c,())):Option (((V4 Calendar)×Int×Circ×Unit)⊕((Circ×Unit)⊕(Bool×Unit))))
  |none=>none)=bif a0o ⟨w,cl⟩==0 then some (.inl (c.Cals,i,c,())) else some (.inr (.inr (false,()))):=λi w cl hl=>by
  rw[i57 (c:=⟨w,cl⟩) hl];dsimp only;cases a0o ⟨w,cl⟩==0<;>rfl
 have s0:c7b (c.Cals,0,c,())=bif a0o c.Cals.x0==0 then some (.inl (c.Cals,1,c,())) else some (.inr (.inr (false,()))):=st 1 _ _ hs.cal0;have s1:c7b (c.Cals,1,c,())=bif a0o c.Cals.x1==0 then some (.inl (c.Cals,2,c,())) else some (.inr (.inr (false,()))):=st 2 _ _ hs.cal1;have s2:c7b (c.Cals,2,c,())=bif a0o c.Cals.x2==0 then some (.inl (c.Cals,3,c,())) else some (.inr (.inr (false,()))):=st 3 _ _ hs.cal2;have s3:c7b (c.Cals,3,c,())=bif a0o c.Cals.x3==0 then some (.inl (c.Cals,4,c,())) else some (.inr (.inr (false,()))):=st 4 _ _ hs.cal3;have s4:c7b (c.Cals,4,c,())=some (.inr (.inl (c,()))):=rfl;refine o8 5 (by rw[o4];omega) ?_;unfold a3k;simp only[o9,s0,s1,s2,s3,s4];cases a0o c.Cals.x0==0 with
 |false=>rfl
 |true=>
  simp only[yac,o9,s1];cases a0o c.Cals.x1==0 with
  |false=>rfl
  |true=>
   simp only[yac,o9,s2];cases a0o c.Cals.x2==0 with
   |false=>rfl
   |true=>
    simp only[yac,o9,s3];cases a0o c.Cals.x3==0 with
    |false=>rfl
    |true=>simp only[yac,o9,s4];rfl
def d5y (c:Circ):Bool:=!(!(rng 1 100000 c.NextHold)||!(rng 1 100000 c.NextCharge))
def d5d (c:Circ):Bool:=a3o c&&(a3k c&&(d5y c&&(c.Holds.all (λx=>!(decide (c.NextHold≤x.ID)))&&c.Charges.all (λx=>!(decide (c.NextCharge≤x.ID))))))
def i8g {c:Circ} (hs:Short c):qs c=some (d5d c):=by
 have h1:=m0 (step:=b9n) (λi=>(c.Holds,(c.Holds.length:Int),(i:Int),c,())) c.Holds (λ_ x=>!(decide (c.NextHold≤x.ID))) (.inr (false,())) (.inl (c,())) hs.holds
  (by simp only[b9n,dge,yaa])
  (λi x hx=>by
   have hi:=(zL hx)
   have:=hs.holds;simp only[b9n,dlt hi,d9,hx,yac,wS i];cases decide (c.NextHold≤x.ID)<;>rfl)
 have h2:=m0 (step:=b9o) (λi=>(c.Charges,(c.Charges.length:Int),(i:Int),c,())) c.Charges (λ_ x=>!(decide (c.NextCharge≤x.ID))) (.inr (false,())) (.inl ()) hs.charges
  (by simp only[b9o,dge,yaa])
  (λi x hx=>by
   have hi:=(zL hx)
   have:=hs.charges;simp only[b9o,dlt hi,d9,hx,yac,wS i];cases decide (c.NextCharge≤x.ID)<;>rfl)
 unfold qs d5d a3o d5y;simp -zeta only[a0x,i4g hs.patrons hs.name,g44 hs.loans,i8d hs.holds,g46 hs.charges,i8j hs.rules,d51];dsimp only;rw[e70 hs];have e:(!(a1a c.Patrons==0)||!(o5 c.Loans==0)||!(y5 c.Holds==0)||!(p8 c.Charges==0)||!(a2y c.Rules==0))=(!(a1a c.Patrons==0)||!(o5 c.Loans==0)||!(y5 c.Holds==0)||!(p8 c.Charges==0)||!(a2y c.Rules==0)):=rfl;generalize (!(a1a c.Patrons==0)||!(o5 c.Loans==0)||!(y5 c.Holds==0)||!(p8 c.Charges==0)||!(a2y c.Rules==0))=b1;cases b1 with
 |true=>rfl
 |false=>
  cases a3k c with
  |false=>rfl
  |true=>
   simp -zeta only[yaa,yac,a0x,d51]
   try dsimp only
   cases (!(rng 1 100000 c.NextHold)||!(rng 1 100000 c.NextCharge)) with
   |true=>rfl
   |false=>
    simp only[yaa];rw[show c6 b9n (c.Holds,(c.Holds.length:Int),0,c,())=_ from h1,o6];cases c.Holds.all (λx=>!(decide (c.NextHold≤x.ID))) with
    |false=>rfl
    |true=>
     simp only[yac];rw[show c6 b9o (c.Charges,(c.Charges.length:Int),0,c,())=_ from h2,o6];cases c.Charges.all (λx=>!(decide (c.NextCharge≤x.ID)))<;>rfl
end
section
def a9s (c:Circ) (item:Int):Bool:=(c.Items.find? (λx=>x.ID==item)).isSome
def d2v (c:Circ):Bool:=c.Loans.all (λn=>!(!((a3g c.Patrons n.Patron).2)||!(a9s c n.Item)))&&(c.Holds.all (λh=>(a3g c.Patrons h.Patron).2)&&c.Charges.all (λx=>(a3g c.Patrons x.Patron).2))
def i8b {c:Circ} (hs:Short c):qi c=some (d2v c):=by
 have h1:=m0 (step:=d0j) (λi=>(c.Loans,(c.Loans.length:Int),(i:Int),c,())) c.Loans (λ_ n=>!(!((a3g c.Patrons n.Patron).2)||!(a9s c n.Item))) (.inr (false,())) (.inl (c,())) hs.loans
  (by simp only[d0j,dge,yaa])
  (λi x hx=>by
   have hi:=(zL hx)
   have:=hs.loans;unfold a9s;rcases b2m (item:=x.Item) hs.items with ⟨h1,h2⟩|⟨k,y,h1,h2,h3,h4⟩
   ·simp -zeta only[d0j,dlt hi,d9,hx,yac,d55 hs.patrons,h1,h2,a59,a0x,wS i];dsimp only;cases (a3g c.Patrons x.Patron).2<;>rfl
   ·simp -zeta only[d0j,dlt hi,d9,hx,yac,d55 hs.patrons,h1,h4,a4i,a0x,wS i];dsimp only;cases (a3g c.Patrons x.Patron).2<;>rfl)
 have h2:=m0 (step:=d9e) (λi=>(c.Holds,(c.Holds.length:Int),(i:Int),c,())) c.Holds (λ_ h=>(a3g c.Patrons h.Patron).2) (.inr (false,())) (.inl (c,())) hs.holds
  (by simp only[d9e,dge,yaa])
  (λi x hx=>by
   have hi:=(zL hx)
   have:=hs.holds;simp only[d9e,dlt hi,d9,hx,yac,d55 hs.patrons,wS i];cases (a3g c.Patrons x.Patron).2<;>rfl)
 have h3:=m0 (step:=b9j) (λi=>(c.Charges,(c.Charges.length:Int),(i:Int),c,())) c.Charges (λ_ h=>(a3g c.Patrons h.Patron).2) (.inr (false,())) (.inl ()) hs.charges
  (by simp only[b9j,dge,yaa])
  (λi x hx=>by
   have hi:=(zL hx)
   have:=hs.charges;simp only[b9j,dlt hi,d9,hx,yac,d55 hs.patrons,wS i];cases (a3g c.Patrons x.Patron).2<;>rfl)
 unfold qi d2v;rw[show c6 d0j (c.Loans,(c.Loans.length:Int),0,c,())=_ from h1,o6];cases c.Loans.all (λn=>!(!((a3g c.Patrons n.Patron).2)||!(a9s c n.Item))) with
 |false=>rfl
 |true=>
  simp only[yac];rw[show c6 d9e (c.Holds,(c.Holds.length:Int),0,c,())=_ from h2,o6];cases c.Holds.all (λh=>(a3g c.Patrons h.Patron).2) with
  |false=>rfl
  |true=>
   simp only[yac];rw[show c6 b9j (c.Charges,(c.Charges.length:Int),0,c,())=_ from h3,o6];cases c.Charges.all (λx=>(a3g c.Patrons x.Patron).2)<;>rfl
def a41 (c:Circ) (x:Item):Bool:=!(!((a3u c.Loans x.ID).2==a3h x.Custody)||((a3u c.Loans x.ID).2&&!((a3u c.Loans x.ID).1.Patron==x.Custody.Who)))
def i41 {c:Circ} (hs:Short c):qbt c=some (c.Items.all (a41 c)):=by
 have h1:=m0 (step:=b88) (λi=>(c.Items,(c.Items.length:Int),(i:Int),c,())) c.Items (λ_=>a41 c) (.inr (false,())) (.inl ()) hs.items
  (by simp only[b88,dge,yaa])
  (λi x hx=>by
   have hi:=(zL hx)
   have:=hs.items;unfold a41 a3h;simp -zeta only[b88,dlt hi,d9,hx,yac,g5g hs.loans,a0x,s9,wS i];dsimp only;cases (!((a3u c.Loans x.ID).2==(x.Custody.State==4||x.Custody.State==9||x.Custody.State==10))||((a3u c.Loans x.ID).2&&!((a3u c.Loans x.ID).1.Patron==x.Custody.Who)))<;>rfl)
 unfold qbt;rw[show c6 b88 (c.Items,(c.Items.length:Int),0,c,())=_ from h1,o6];cases c.Items.all (a41 c)<;>rfl
def d2u (x:Hold) (y:Item):Bool:=y.Record==x.Record&&(bif x.State==2 then u7 y.Custody ⟨6,y.Custody.Branch,x.Patron,x.Pickup⟩ else u7 y.Custody ⟨5,x.Pickup,x.Patron,0⟩)
def c4e (c:Circ) (x:Hold):Bool:=x.State==1||(match c.Items.find? (λy=>y.ID==x.Got) with|some y=>d2u x y|none=>false)
def i4m {c:Circ} (hs:Short c):qal c=some (c.Holds.all (c4e c)&&c.Items.all (a1p c)):=by
 have h1:=m0 (step:=b5a) (λi=>(c.Holds,(c.Holds.length:Int),(i:Int),c,())) c.Holds (λ_=>c4e c) (.inr (false,())) (.inl (c,())) hs.holds
  (by simp only[b5a,dge,yaa])
  (λi x hx=>by
   have hi:=(zL hx)
   have:=hs.holds;unfold c4e d2u;rcases b2m (item:=x.Got) hs.items with ⟨h1,h2⟩|⟨k,y,h1,h2,h3,h4⟩
   ·simp -zeta only[b5a,dlt hi,d9,hx,yac,h1,h2,a59,wS i];dsimp only;cases x.State==1<;>rfl
   ·simp -zeta only[b5a,dlt hi,d9,hx,yac,h1,h2,h4,a4i,yaa,wS i];dsimp only;generalize u7 y.Custody ⟨6,y.Custody.Branch,x.Patron,x.Pickup⟩=b1;generalize u7 y.Custody ⟨5,x.Pickup,x.Patron,0⟩=b2;cases x.State==1<;>cases x.State==2<;>cases y.Record==x.Record<;>cases b1<;>cases b2<;>rfl)
 have h2:=m0 (step:=b04) (λi=>(c.Items,(c.Items.length:Int),(i:Int),c,())) c.Items (λ_=>a1p c) (.inr (false,())) (.inl ()) hs.items
  (by simp only[b04,dge,yaa])
  (λi x hx=>by
   have hi:=(zL hx)
   have:=hs.items;unfold a1p;simp -zeta only[b04,dlt hi,d9,hx,yac,a0x,s9,a98 hs.holds,wS i];dsimp only;cases x.Custody.State==5<;>cases (s7 c x.ID).2<;>cases (s7 c x.ID).1.State==3<;>rfl)
 unfold qal;rw[show c6 b5a (c.Holds,(c.Holds.length:Int),0,c,())=_ from h1,o6];cases c.Holds.all (c4e c) with
 |false=>rfl
 |true=>
  simp only[yac];rw[show c6 b04 (c.Items,(c.Items.length:Int),0,c,())=_ from h2,o6];cases c.Items.all (a1p c)<;>rfl
def d6e (c:Circ):Bool:=rng 0 109572 c.Today&&a1h c&&d5d c&&d2v c&&c.Items.all (a41 c)&&(c.Holds.all (c4e c)&&c.Items.all (a1p c))
def h50 {c:Circ} (hs:Short c):qfy c=some (d6e c):=by
 unfold qfy d6e;simp -zeta only[s9,d51,i8h hs,i8g hs,i8b hs,i41 hs,i4m hs]
 try dsimp only
def a2i {X:Type} {key:X→Int} {l:List X} (h:∀i x,l[i]?=some x→w7 l i (λy=>decide (key x≤key y))=false):∀(j i:Nat) (x y:X),i<j→l[i]?=some x→l[j]?=some y→key x<key y:=by
 intro j
 induction j with
 |zero=>intro i x y hi;omega
 |succ j ih=>
  intro i x y hi hx hy;have hj:=(zL hy)
  have hz:l[j]?=some l[j]:=yab (by omega);have:=h _ _ hy;simp only[w7,hz,yaf]at this;by_cases e:i=j
  ·subst e;rw[hz]at hx;cases hx;omega
  ·have:=ih i x l[j] (by omega) hx hz;omega
def a27 {X:Type} {key:X→Int} {l:List X} (h:∀i x,l[i]?=some x→w7 l i (λy=>decide (key x≤key y))=false) {x:X} (hx:x∈l):l.find? (λy=>key y==key x)=some x:=by
 rcases p7 (λy=>key y==key x) l with ⟨h1,h2⟩|⟨i,y,h1,h2,h3,h4⟩
 ·rw[ybF]at h2;exact absurd (yal _) (h2 x hx)
 ·rw[h4];obtain ⟨j,hj⟩:=yaw hx;have e:key y=key x:=by simpa using h3
  by_cases hij:i=j
  ·subst hij;rw[h2]at hj;exact hj
  ·rcases Nat.lt_or_gt_of_ne hij with hlt|hlt
   ·have:=a2i h _ _ _ _ hlt h2 hj;omega
   ·have:=a2i h _ _ _ _ hlt hj h2;omega
def a9r {X:Type} {f:Nat→X→Int}:∀{l:List X} {k:Nat},a0j f k l=0→∀i x,l[i]?=some x→f (k+i) x=0:=by
 intro l
 induction l with
 |nil=>intro k _ i x hx;simp at hx
 |cons y l ih=>
  intro k h i x hx;unfold a0j at h;by_cases e:f k y=0
  ·rw[e]at h;simp only[yal,ybD]at h;cases i with
   |zero=>simp at hx;subst hx;exact e
   |succ i=>have:=ih h i x (by simpa using hx);rwa [show k+(i+1)=k+1+i by omega]
  ·have:(f k y==0)=false:=by simpa using e
   rw[this]at h;exact absurd h e
def a0v {b:Bool} {n m:Int} (h:(bif b then n else m)=0) (hn:n≠0):b=false:=by
 cases b with
 |false=>rfl
 |true=>exact absurd h hn
def c40 {l:List Loan} (h:o5 l=0):∀i x,l[i]?=some x→w7 l i (λy=>decide (x.Item≤y.Item))=false:=by
 intro i x hx;unfold o5 at h;have hb:=a0v h (by decide);rw[hb]at h;have:=a9r (k:=0) h i x hx;rw[yaI]at this;unfold a4q at this;exact a0v this (by decide)
def a9x {l:List Hold} (h:y5 l=0):a0j (a1g l) 0 l=0:=by
 unfold y5 at h;rw[a0v h (by decide)]at h;simp only[yaa]at h;by_cases e:a0j (a1g l) 0 l=0
 ·exact e
 ·have h2:(a0j (a1g l) 0 l==0)=false:=by simpa using e
  rw[h2]at h;exact h
def a0m {l:List Hold} (h:y5 l=0):∀i x,l[i]?=some x→w7 l i (λy=>decide (x.ID≤y.ID))=false:=by
 intro i x hx;have:=a9r (k:=0) (a9x h) i x hx;rw[yaI,a4y]at this;exact a0v this (by decide)
def a3c {l:List Hold} (h:y5 l=0) {x:Hold} (hx:x∈l):t7 x=0:=by
 obtain ⟨i,hi⟩:=yaw hx;have:=a9r (k:=0) (a9x h) i x hi;rw[yaI,a4y]at this;rw[a0v this (by decide)]at this;exact this
def b72 {x:Hold} (h:t7 x=0):x.State=1∨x.State=2∨x.State=3:=by
 unfold t7 at h;rw[a0v h (by decide)]at h;simp only[yaa]at h;have:=a0v h (by decide);simp only[yai,yaf]at this;omega
def f9d (c:Custody):Prop:=c.State=6∨c.To=0
def d6z {c:Custody} {m:Move} (h:((s8 c m).2==0)=true):f9d (s8 c m).1:=by
 unfold s8 at h ⊢;cases e1:(!(a9b c)||!(a9a m)) with
 |true=>rw[e1]at h;cases h
 |false=>
  rw[e1]at h;simp only[yaa]at h ⊢;cases e2:!(a64 c.State m.Kind) with
  |true=>rw[e2]at h;cases h
  |false=>
   rw[e2]at h;simp only[yaa]at h ⊢;cases e3:(m.Kind==3&&c.State==5&&!(m.Who==c.Who)) with
   |true=>rw[e3]at h;cases h
   |false=>
    rw[e3]at h;simp only[yaa]at h ⊢;cases e4:!(c2a c m) with
    |true=>rw[e4]at h;cases h
    |false=>
     simp only[yaa];cases (a0z m.Kind==2) with
     |true=>exact .inr rfl
     |false=>
      simp only[yaa];cases (a0z m.Kind==4||(a0z m.Kind==5||a0z m.Kind==8)) with
      |true=>exact .inr rfl
      |false=>
       simp only[yaa];cases e5:(a0z m.Kind==6) with
       |true=>exact .inl (by simpa using e5)
       |false=>
        simp only[yaa];cases (a0z m.Kind==9||a0z m.Kind==10) with
        |true=>exact .inr rfl
        |false=>exact .inr rfl
def d0y:∀{l:List Move} {i:Nat} {item:Int} {c d:Custody},f9d c→a0n i l item c=.inl d→f9d d:=by
 intro l
 induction l with
 |nil=>intro i item c d hc h;simp only[a0n]at h;cases h;exact hc
 |cons x l ih=>
  intro i item c d hc h;simp only[a0n]at h;cases e:x.Item==item with
  |false=>rw[e]at h;exact ih hc h
  |true=>
   rw[e]at h;simp only[yac]at h;cases e2:(s8 c x).2==0 with
   |true=>rw[e2]at h;exact ih (d6z e2) h
   |false=>rw[e2]at h;cases h
def a2c {a b:Custody}:u7 a b=true↔a=b:=by
 obtain ⟨a1,a2,a3,a4⟩:=a;obtain ⟨b1,b2,b3,b4⟩:=b;unfold u7;simp[yae]
 try (constructor<;>(intro h;simp_all))
def c7f {c:Circ} {x:Item} (h:a1e c x=true):f9d x.Custody:=by
 unfold a1e at h;simp only[yan,yai,yay]at h;obtain ⟨h1,h2⟩:=h;have e:=a2c.1 h2;rw[←e];unfold a00 at h1 ⊢;cases hb:(decide (x.Branch<1)||decide (4<x.Branch)) with
 |true=>exact .inr rfl
 |false=>
  rw[hb]at h1;simp only[yaa]at h1 ⊢;cases hr:a0n 0 c.Moves x.ID (b13 x.Branch) with
  |inl d=>exact d0y (.inr rfl) hr
  |inr p=>exact .inr rfl
end
section
def c9p (c:Circ) (i:Nat) (x:Item):a4z c i x=(!(!(a0f x)||w7 c.Items i (λy=>decide (x.ID≤y.ID)))&&a1e c x):=by
 unfold a4z a1e a0f;rw[ybj];simp only[yae,yan,yai,yaf,yay,a0a,yad];constructor
 ·rintro ⟨⟨h1,h2⟩,h3⟩;obtain ⟨⟨⟨⟨⟨⟨a1,a2⟩,a3⟩,a4⟩,a5⟩,a6⟩,a7⟩:=h1;obtain ⟨⟨⟨⟨⟨b1,b2⟩,b3⟩,b4⟩,b5⟩,b6⟩:=h2;refine ⟨⟨⟨⟨⟨⟨⟨⟨⟨?_,?_⟩,⟨?_,?_⟩⟩,⟨?_,?_⟩⟩,⟨?_,?_⟩⟩,⟨?_,?_⟩⟩,?_⟩,b6⟩,a3⟩,h3⟩<;>omega
 ·rintro ⟨⟨h1,a3⟩,h3⟩;obtain ⟨⟨⟨⟨⟨⟨⟨a1,a2⟩,⟨a4,a5⟩⟩,⟨a6,a7⟩⟩,⟨a8,a9⟩⟩,⟨b1,b2⟩⟩,b3⟩,b4⟩:=h1;refine ⟨⟨⟨⟨⟨⟨⟨⟨?_,?_⟩,a3⟩,?_⟩,?_⟩,?_⟩,?_⟩,⟨⟨⟨⟨⟨?_,?_⟩,?_⟩,?_⟩,?_⟩,b4⟩⟩,h3⟩<;>omega
def a7r (c:Circ):a6l c=a1h c:=by
 have key:a1v (a4z c) 0 c.Items=(a1v (λi x=>!(!(a0f x)||w7 c.Items i (λy=>decide (x.ID≤y.ID)))) 0 c.Items&&c.Items.all (a1e c)):=by
  have gen:∀(l:List Item) (k:Nat),a1v (a4z c) k l=(a1v (λi x=>!(!(a0f x)||w7 c.Items i (λy=>decide (x.ID≤y.ID)))) k l&&l.all (a1e c)):=by
   intro l
   induction l with
   |nil=>intro k;rfl
   |cons x l ih=>
    intro k;simp only[a1v,ybR];rw[ih,c9p];generalize (!(!(a0f x)||w7 c.Items k (λy=>decide (x.ID≤y.ID))))=b1;generalize a1v (λi x=>!(!(a0f x)||w7 c.Items i (λy=>decide (x.ID≤y.ID)))) (k+1) l=b2;cases b1<;>cases b2<;>cases a1e c x<;>cases l.all (a1e c)<;>rfl
  exact gen _ _
 unfold a6l a1h c1x;rw[key];generalize (!(decide (64<(c.Items.length:Int))||decide (2000<(c.Moves.length:Int))))=b1;generalize a1v (λi x=>!(!(a0f x)||w7 c.Items i (λy=>decide (x.ID≤y.ID)))) 0 c.Items=b2;generalize c.Moves.all (λm=>(c.Items.find? (λx=>x.ID==m.Item)).isSome)=b3;cases b1<;>cases b2<;>cases b3<;>cases c.Items.all (a1e c)<;>rfl
def a3e {c:Circ} (h:a1h c=true):∀i x,c.Items[i]?=some x→w7 c.Items i (λy=>decide (x.ID≤y.ID))=false:=by
 intro i x hx;unfold a1h at h;simp only[yae]at h;have:=(a4c.1 h.2.1) i x hx;rw[yaI]at this;simp only[yan,yai]at this;exact this.2
def a7s {c:Circ} (h:a1h c=true) {x:Item} (hx:x∈c.Items):a1e c x=true:=by
 unfold a1h at h;simp only[yae,yaj]at h;exact h.2.2.2 x hx
def b67 {c:Circ} (h:a3o c=true):o5 c.Loans=0∧y5 c.Holds=0:=by
 unfold a3o at h;simp only[yan,yai,yay,ya6]at h;exact ⟨h.1.1.1.2,h.1.1.2⟩
def d70 {l:List Loan} {n:Loan} (h:l.find? (λy=>y.Item==n.Item)=some n):a3u l n.Item=(n,true):=by
 unfold a3u;rw[h]
def c9t {c:Circ} (hi:a1h c=true) (hl:o5 c.Loans=0) (hk:∀n∈c.Loans,(a3g c.Patrons n.Patron).2=true) :
 a2e c=(c.Loans.all (λn=>a9s c n.Item)&&c.Items.all (a41 c)):=by
 rw[ybj];unfold a2e;simp only[yae,yaj];constructor
 ·rintro ⟨h1,h2⟩;refine ⟨λn hn=>?_,λx hx=>?_⟩
  ·have:=h1 n hn;unfold a3p at this;unfold a9s;cases hf:c.Items.find? (λx=>x.ID==n.Item) with
   |none=>rw[hf]at this;cases this
   |some y=>rfl
  ·have e:=h2 x hx;unfold a41;rw[e,yak,ybg];cases hf:(a3u c.Loans x.ID).2 with
   |false=>rfl
   |true=>
    unfold a3u at hf ⊢;cases hg:c.Loans.find? (λn=>n.Item==x.ID) with
    |none=>rw[hg]at hf;cases hf
    |some n=>
     have hm:=yaW hg;have hit:n.Item=x.ID:=by have:=ybs hg;simpa using this
     have:=h1 n hm;unfold a3p at this;have hs:=a27 (key:=λy:Item=>y.ID) (a3e hi) hx;rw[hit,hs]at this;simp only[yan,yai,yay,ya6]at this;simp[this.2]
 ·rintro ⟨h1,h2⟩;refine ⟨λn hn=>?_,λx hx=>?_⟩
  ·have hf:=h1 n hn;unfold a9s at hf;cases hg:c.Items.find? (λx=>x.ID==n.Item) with
   |none=>rw[hg]at hf;cases hf
   |some x=>
    have hm:=yaW hg;have hit:x.ID=n.Item:=by have:=ybs hg;simpa using this
    have:=h2 x hm;unfold a41 at this;have hs:=d70 (a27 (key:=λy:Loan=>y.Item) (c40 hl) hn);rw[hit,hs]at this;simp only[yan,yai,ya8,yay,ya6]at this;unfold a3p;rw[hg];show (!(!(a3g c.Patrons n.Patron).2||!(a3h x.Custody)||!(x.Custody.Who==n.Patron)))=true
    have e1:a3h x.Custody=true:=by have:=this.1;simpa using this.symm
    rw[hk n hn,e1,this.2];simp
  ·have:=h2 x hx;unfold a41 at this;simp only[yan,yai,yay]at this;exact this.1
def c9k {c:Circ} (hi:a1h c=true) {h:Hold} (hh:t7 h=0):a3n c h=((a3g c.Patrons h.Patron).2&&!(decide (c.NextHold≤h.ID))&&c4e c h):=by
 unfold a3n c4e;have e:(!(!(a3g c.Patrons h.Patron).2||decide (c.NextHold≤h.ID)))=((a3g c.Patrons h.Patron).2&&!(decide (c.NextHold≤h.ID))):=by cases (a3g c.Patrons h.Patron).2<;>rfl
 rw[e];congr 1;rcases b72 hh with hs|hs|hs
 ·simp[hs]
 ·have e1:(h.State==1)=false:=by rw[hs];rfl
  have e2:(h.State==2)=true:=by rw[hs];rfl
  have e3:(h.State==3)=false:=by rw[hs];rfl
  rw[e1,ybg,ybg];cases hg:c.Items.find? (λx=>x.ID==h.Got) with
  |none=>rfl
  |some y=>
   unfold d2u;simp only[e2,e3,ybw,yas,ybW,ya8,yb6,yac];congr 1;unfold u7;simp only[yal,ya8,ybW];cases y.Custody.State==6<;>cases y.Custody.To==h.Pickup<;>cases y.Custody.Who==h.Patron<;>rfl
 ·have e1:(h.State==1)=false:=by rw[hs];rfl
  have e2:(h.State==2)=false:=by rw[hs];rfl
  have e3:(h.State==3)=true:=by rw[hs];rfl
  rw[e1,ybg,ybg];cases hg:c.Items.find? (λx=>x.ID==h.Got) with
  |none=>rfl
  |some y=>
   have ha:=c7f (a7s hi (yaW hg));unfold d2u;simp only[e2,e3,ybw,yas,ybW,ya8,yb6,yaa];congr 1;unfold u7;simp only[ybW];cases h5:y.Custody.State==5 with
   |false=>simp
   |true=>
    have:y.Custody.To=0:=by
     rcases ha with h6|h6
     ·simp at h5;omega
     ·exact h6
    rw[this];cases y.Custody.Branch==h.Pickup<;>cases y.Custody.Who==h.Patron<;>rfl
def b96 {X:Type} {p q:X→Bool} {l:List X}:l.all (λx=>p x&&q x)=(l.all p&&l.all q):=by
 induction l with
 |nil=>rfl
 |cons x l ih=>simp only[ybR];rw[ih];cases p x<;>cases q x<;>cases l.all p<;>rfl
def b2x {X:Type} {p q:X→Bool} {l:List X} (h:∀x∈l,p x=q x):l.all p=l.all q:=by
 induction l with
 |nil=>rfl
 |cons x l ih=>simp only[ybR];rw[h x (yaK ..),ih (λy hy=>h y (yaN _ hy))]
def e8h (c:Circ):d6e c=a5g c:=by
 unfold d6e a5g;rw[a7r];have en:a4a c=(rng 0 109572 c.Today&&d5y c):=by
  unfold a4a d5y;rw[ybj];simp only[yae,yan,yai,yaf,yay,a0a];omega
 have ec:c.Charges.all (a01 c)=(c.Charges.all (λx=>(a3g c.Patrons x.Patron).2)&&c.Charges.all (λx=>!(decide (c.NextCharge≤x.ID)))):=by
  rw[←b96];exact b2x (λx _=>by unfold a01;rw[Bool.not_or,yb6])
 rw[en,ec];unfold d5d d2v;have ek:c.Loans.all (λn=>!(!((a3g c.Patrons n.Patron).2)||!(a9s c n.Item)))=(c.Loans.all (λn=>(a3g c.Patrons n.Patron).2)&&c.Loans.all (λn=>a9s c n.Item)):=by
  rw[←b96];exact b2x (λx _=>by rw[Bool.not_or,yb6,yb6])
 rw[ek];cases hi:a1h c with
 |false=>simp
 |true=>
  cases hl:a3o c with
  |false=>simp
  |true=>
   obtain ⟨l1,l2⟩:=b67 hl;have eh:a4l c=((c.Holds.all (λh=>(a3g c.Patrons h.Patron).2)&&c.Holds.all (λx=>!(decide (c.NextHold≤x.ID)))&&c.Holds.all (c4e c))&&c.Items.all (a1p c)):=by
    unfold a4l;congr 1;rw[←b96,←b96];exact b2x (λx hx=>c9k hi (a3c l2 hx))
   rw[eh];cases hp:c.Loans.all (λn=>(a3g c.Patrons n.Patron).2) with
   |true=>
    rw[c9t hi l1 (λn hn=>by rw[yaj]at hp;exact hp n hn)];simp only[ya8,ybW];rw[ybj];simp only[yae];constructor
    ·rintro ⟨⟨⟨⟨a1,a2,a3,a4,a5⟩,a6,a7,a8⟩,a9⟩,b1,b2⟩;exact ⟨⟨a1,a3⟩,a2,⟨a8,a5⟩,⟨a6,a9⟩,⟨⟨a7,a4⟩,b1⟩,b2⟩
    ·rintro ⟨⟨a1,a3⟩,a2,⟨a8,a5⟩,⟨a6,a9⟩,⟨⟨a7,a4⟩,b1⟩,b2⟩;exact ⟨⟨⟨⟨a1,a2,a3,a4,a5⟩,a6,a7,a8⟩,a9⟩,b1,b2⟩
   |false=>
    have:a2e c=false:=by
     cases hg:a2e c with
     |false=>rfl
     |true=>
      exfalso;have:c.Loans.all (λn=>(a3g c.Patrons n.Patron).2)=true:=by
       rw[yaj];intro n hn;unfold a2e at hg;simp only[yae,yaj]at hg;have:=hg.1 n hn;unfold a3p at this;cases hf:c.Items.find? (λx=>x.ID==n.Item) with
       |none=>rw[hf]at this;cases this
       |some x=>
        rw[hf]at this;simp only[yan,yai,yay]at this;exact this.1.1
      rw[this]at hp;cases hp
    rw[this];simp
def i52 {c:Circ} (hs:Short c):qfy c=some (a5g c):=by
 rw[h50 hs,e8h]
end
section
def a2x {X:Type} (l:List X):l.all (λ_=>true)=true:=by rw[yaj];intros;rfl
def a0s (x:Custody):u7 x x=true:=by simp[u7]
def c06 (x:Item):c05 x x=true:=by simp[c05,a0s]
def b3v (x:Patron):b0n x x=true:=by simp[b0n,a0s]
def c08 (x:Loan):c07 x x=true:=by simp[c07,a0s]
def c04 (x:Hold):c03 x x=true:=by simp[c03,a0s]
def b3u (x:Charge):b0m x x=true:=by simp[b0m,a0s]
def c1c (x:Rule):c1b x x=true:=by simp[c1b,a0s]
def c1a (x:Move):c09 x x=true:=by simp[c09,a0s]
def d9c {c:Circ} (hs:Short c):c6 d0e (0,c,c,())=some (.inl (c,c,())):=by
 have h:=m0 (step:=d0e) (λi=>((i:Int),c,c,())) c.Items (λ_ _=>true) (.inr (false,())) (.inl (c,c,())) hs.items
  (by simp only[d0e,dge,yaa])
  (λi x hx=>by
   have hi:=(zL hx)
   have:=hs.items;simp only[d0e,dlt hi,d9,hx,yac,c06,yak,yaa,wS i])
 rw[show c6 d0e (0,c,c,())=_ from h,o6];rw[a2x];rfl
def c98 {c:Circ} (hs:Short c):c6 b5r (0,c,c,())=some (.inl (c,c,())):=by
 have h:=m0 (step:=b5r) (λi=>((i:Int),c,c,())) c.Patrons (λ_ _=>true) (.inr (false,())) (.inl (c,c,())) hs.patrons
  (by simp only[b5r,dge,yaa])
  (λi x hx=>by
   have hi:=(zL hx)
   have:=hs.patrons;simp only[b5r,dlt hi,d9,hx,yac,b3v,yak,yaa,wS i])
 rw[show c6 b5r (0,c,c,())=_ from h,o6];rw[a2x];rfl
def c99 {c:Circ} (hs:Short c):c6 b5s (0,c,c,())=some (.inl (c,c,())):=by
 have h:=m0 (step:=b5s) (λi=>((i:Int),c,c,())) c.Loans (λ_ _=>true) (.inr (false,())) (.inl (c,c,())) hs.loans
  (by simp only[b5s,dge,yaa])
  (λi x hx=>by
   have hi:=(zL hx)
   have:=hs.loans;simp only[b5s,dlt hi,d9,hx,yac,c08,yak,yaa,wS i])
 rw[show c6 b5s (0,c,c,())=_ from h,o6];rw[a2x];rfl
def d0a {c:Circ} (hs:Short c):c6 b5t (0,c,c,())=some (.inl (c,c,())):=by
 have h:=m0 (step:=b5t) (λi=>((i:Int),c,c,())) c.Holds (λ_ _=>true) (.inr (false,())) (.inl (c,c,())) hs.holds
  (by simp only[b5t,dge,yaa])
  (λi x hx=>by
   have hi:=(zL hx)
   have:=hs.holds;simp only[b5t,dlt hi,d9,hx,yac,c04,yak,yaa,wS i])
 rw[show c6 b5t (0,c,c,())=_ from h,o6];rw[a2x];rfl
def d0b {c:Circ} (hs:Short c):c6 b5u (0,c,c,())=some (.inl (c,c,())):=by
 have h:=m0 (step:=b5u) (λi=>((i:Int),c,c,())) c.Charges (λ_ _=>true) (.inr (false,())) (.inl (c,c,())) hs.charges
  (by simp only[b5u,dge,yaa])
  (λi x hx=>by
   have hi:=(zL hx)
   have:=hs.charges;simp only[b5u,dlt hi,d9,hx,yac,b3u,yak,yaa,wS i])
 rw[show c6 b5u (0,c,c,())=_ from h,o6];rw[a2x];rfl
def d0c {c:Circ} (hs:Short c):c6 b5v (0,c,c,())=some (.inl (c,c,())):=by
 have h:=m0 (step:=b5v) (λi=>((i:Int),c,c,())) c.Rules (λ_ _=>true) (.inr (false,())) (.inl (c,c,())) hs.rules
  (by simp only[b5v,dge,yaa])
  (λi x hx=>by
   have hi:=(zL hx)
   have:=hs.rules;simp only[b5v,dlt hi,d9,hx,yac,c1c,yak,yaa,wS i])
 rw[show c6 b5v (0,c,c,())=_ from h,o6];rw[a2x];rfl
def d0d {c:Circ} (hs:Short c):c6 b5w (0,c,c,())=some (.inl (c,c,())):=by
 have h:=m0 (step:=b5w) (λi=>((i:Int),c,c,())) c.Moves (λ_ _=>true) (.inr (false,())) (.inl (c,c,())) hs.moves
  (by simp only[b5w,dge,yaa])
  (λi x hx=>by
   have hi:=(zL hx)
   have:=hs.moves;simp only[b5w,dlt hi,d9,hx,yac,c1a,yak,yaa,wS i])
 rw[show c6 b5w (0,c,c,())=_ from h,o6];rw[a2x];rfl
def c60 {c:Circ} (hs:Short c):c6 a2p (0,0,c,c,())=some (.inl (0,c,c,())):=by
 have st:∀k:Int,a2p (0,k,c,c,())=(bif decide (k<(c.Cals.x0.Closed.length:Int)) then (match o0 c.Cals.x0.Closed k with|some x=>(match o0 c.Cals.x0.Closed k with|some y=>(bif !(x==y) then some (.inr (.inr (false,()))) else some (.inl (0,wr .i64 (k+1),c,c,())))|none=>none)|none=>none) else some (.inr (.inl (0,c,c,())))):=λk=>rfl
 have h:=m0 (step:=a2p) (λk=>(0,(k:Int),c,c,())) c.Cals.x0.Closed (λ_ _=>true) (.inr (false,())) (.inl (0,c,c,())) hs.cal0
  (by rw[st];simp only[dge,yaa])
  (λk x hx=>by
   have hi:=(zL hx)
   have:=hs.cal0;rw[st];simp only[dlt hi,d9,hx,yac,yal,yak,yaa,wS k])
 rw[show c6 a2p (0,0,c,c,())=_ from h,o6];rw[a2x];rfl
def e67 {c:Circ} (hs:Short c):a67 (0,c,c,())=some (.inl (1,c,c,())):=by
 have st:a67 (0,c,c,())=(bif !(c.Cals.x0.Week==c.Cals.x0.Week) then some (.inr (.inr (false,()))) else bif !((c.Cals.x0.Closed.length:Int)==(c.Cals.x0.Closed.length:Int)) then some (.inr (.inr (false,()))) else
  match c6 a2p (0,0,c,c,()) with
  |some (.inl (i,a,b,_))=>some (.inl (wr .i64 (i+1),a,b,()))
  |some (.inr (v,_))=>some (.inr (.inr (v,())))
  |none=>none):=by
  show (bif !(c.Cals.x0.Week==c.Cals.x0.Week) then _ else _)=_
  cases (!(c.Cals.x0.Week==c.Cals.x0.Week))<;>rfl
 rw[st,c60 hs];simp only[yal,yak,yaa]
 try rfl
def c61 {c:Circ} (hs:Short c):c6 a2p (1,0,c,c,())=some (.inl (1,c,c,())):=by
 have st:∀k:Int,a2p (1,k,c,c,())=(bif decide (k<(c.Cals.x1.Closed.length:Int)) then (match o0 c.Cals.x1.Closed k with|some x=>(match o0 c.Cals.x1.Closed k with|some y=>(bif !(x==y) then some (.inr (.inr (false,()))) else some (.inl (1,wr .i64 (k+1),c,c,())))|none=>none)|none=>none) else some (.inr (.inl (1,c,c,())))):=λk=>rfl
 have h:=m0 (step:=a2p) (λk=>(1,(k:Int),c,c,())) c.Cals.x1.Closed (λ_ _=>true) (.inr (false,())) (.inl (1,c,c,())) hs.cal1
  (by rw[st];simp only[dge,yaa])
  (λk x hx=>by
   have hi:=(zL hx)
   have:=hs.cal1;rw[st];simp only[dlt hi,d9,hx,yac,yal,yak,yaa,wS k])
 rw[show c6 a2p (1,0,c,c,())=_ from h,o6];rw[a2x];rfl
def e68 {c:Circ} (hs:Short c):a67 (1,c,c,())=some (.inl (2,c,c,())):=by
 have st:a67 (1,c,c,())=(bif !(c.Cals.x1.Week==c.Cals.x1.Week) then some (.inr (.inr (false,()))) else bif !((c.Cals.x1.Closed.length:Int)==(c.Cals.x1.Closed.length:Int)) then some (.inr (.inr (false,()))) else
  match c6 a2p (1,0,c,c,()) with
  |some (.inl (i,a,b,_))=>some (.inl (wr .i64 (i+1),a,b,()))
  |some (.inr (v,_))=>some (.inr (.inr (v,())))
  |none=>none):=by
  show (bif !(c.Cals.x1.Week==c.Cals.x1.Week) then _ else _)=_
  cases (!(c.Cals.x1.Week==c.Cals.x1.Week))<;>rfl
 rw[st,c61 hs];simp only[yal,yak,yaa]
 try rfl
def c62 {c:Circ} (hs:Short c):c6 a2p (2,0,c,c,())=some (.inl (2,c,c,())):=by
 have st:∀k:Int,a2p (2,k,c,c,())=(bif decide (k<(c.Cals.x2.Closed.length:Int)) then (match o0 c.Cals.x2.Closed k with|some x=>(match o0 c.Cals.x2.Closed k with|some y=>(bif !(x==y) then some (.inr (.inr (false,()))) else some (.inl (2,wr .i64 (k+1),c,c,())))|none=>none)|none=>none) else some (.inr (.inl (2,c,c,())))):=λk=>rfl
 have h:=m0 (step:=a2p) (λk=>(2,(k:Int),c,c,())) c.Cals.x2.Closed (λ_ _=>true) (.inr (false,())) (.inl (2,c,c,())) hs.cal2
  (by rw[st];simp only[dge,yaa])
  (λk x hx=>by
   have hi:=(zL hx)
   have:=hs.cal2;rw[st];simp only[dlt hi,d9,hx,yac,yal,yak,yaa,wS k])
 rw[show c6 a2p (2,0,c,c,())=_ from h,o6];rw[a2x];rfl
def e69 {c:Circ} (hs:Short c):a67 (2,c,c,())=some (.inl (3,c,c,())):=by
 have st:a67 (2,c,c,())=(bif !(c.Cals.x2.Week==c.Cals.x2.Week) then some (.inr (.inr (false,()))) else bif !((c.Cals.x2.Closed.length:Int)==(c.Cals.x2.Closed.length:Int)) then some (.inr (.inr (false,()))) else
  match c6 a2p (2,0,c,c,()) with
  |some (.inl (i,a,b,_))=>some (.inl (wr .i64 (i+1),a,b,()))
  |some (.inr (v,_))=>some (.inr (.inr (v,())))
  |none=>none):=by
  show (bif !(c.Cals.x2.Week==c.Cals.x2.Week) then _ else _)=_
  cases (!(c.Cals.x2.Week==c.Cals.x2.Week))<;>rfl
 rw[st,c62 hs];simp only[yal,yak,yaa]
 try rfl
def c63 {c:Circ} (hs:Short c):c6 a2p (3,0,c,c,())=some (.inl (3,c,c,())):=by
 have st:∀k:Int,a2p (3,k,c,c,())=(bif decide (k<(c.Cals.x3.Closed.length:Int)) then (match o0 c.Cals.x3.Closed k with|some x=>(match o0 c.Cals.x3.Closed k with|some y=>(bif !(x==y) then some (.inr (.inr (false,()))) else some (.inl (3,wr .i64 (k+1),c,c,())))|none=>none)|none=>none) else some (.inr (.inl (3,c,c,())))):=λk=>rfl
 have h:=m0 (step:=a2p) (λk=>(3,(k:Int),c,c,())) c.Cals.x3.Closed (λ_ _=>true) (.inr (false,())) (.inl (3,c,c,())) hs.cal3
  (by rw[st];simp only[dge,yaa])
  (λk x hx=>by
   have hi:=(zL hx)
   have:=hs.cal3;rw[st];simp only[dlt hi,d9,hx,yac,yal,yak,yaa,wS k])
 rw[show c6 a2p (3,0,c,c,())=_ from h,o6];rw[a2x];rfl
def e7a {c:Circ} (hs:Short c):a67 (3,c,c,())=some (.inl (4,c,c,())):=by
 have st:a67 (3,c,c,())=(bif !(c.Cals.x3.Week==c.Cals.x3.Week) then some (.inr (.inr (false,()))) else bif !((c.Cals.x3.Closed.length:Int)==(c.Cals.x3.Closed.length:Int)) then some (.inr (.inr (false,()))) else
  match c6 a2p (3,0,c,c,()) with
  |some (.inl (i,a,b,_))=>some (.inl (wr .i64 (i+1),a,b,()))
  |some (.inr (v,_))=>some (.inr (.inr (v,())))
  |none=>none):=by
  show (bif !(c.Cals.x3.Week==c.Cals.x3.Week) then _ else _)=_
  cases (!(c.Cals.x3.Week==c.Cals.x3.Week))<;>rfl
 rw[st,c63 hs];simp only[yal,yak,yaa]
 try rfl
def f9m {c:Circ} (hs:Short c):qaa c c=some true:=by
 have s4:a67 (4,c,c,())=some (.inr (.inl ())):=rfl;have h:c6 a67 (0,c,c,())=some (.inl ()):=by
  refine o8 5 (by rw[o4];omega) ?_;simp only[o9,e67 hs,e68 hs,e69 hs,e7a hs,s4]
 unfold qaa;rw[h]
def h5v {c:Circ} (hs:Short c):qd c c=some true:=by
 unfold qd;simp -zeta only[a0x,yal,yak,Bool.or_false];dsimp only;simp only[d9c hs,c98 hs,c99 hs,d0a hs,d0b hs,d0c hs,d0d hs,f9m hs,Bool.or_false,yaa]
end
section
def b1i {X:Type} (p:X→Bool) (x:X):List X→List X
 | []=>[x]
 |y::l=>bif p y then x::y::l else y::b1i p x l
def b31 {X:Type} {p:X→Bool} {x:X}:∀{l:List X},l.findIdx? p=none→b1i p x l=l++[x]:=by
 intro l
 induction l with
 |nil=>intros;rfl
 |cons y l ih=>
  intro h;rw[ybI]at h;cases hp:p y with
  |true=>rw[hp]at h;cases h
  |false=>
   rw[hp]at h;simp only[yaz,ybd,Option.map_eq_none_iff]at h;simp only[b1i,hp,yaa,ih h,ybA]
def b32 {X:Type} {p:X→Bool} {x:X}:∀{l:List X} {k:Nat},l.findIdx? p=some k→b1i p x l=l.take k++x::l.drop k∧k≤l.length:=by
 intro l
 induction l with
 |nil=>intro k h;cases h
 |cons y l ih=>
  intro k h;rw[ybI]at h;cases hp:p y with
  |true=>rw[hp]at h;simp at h;subst h;simp[b1i,hp]
  |false=>
   rw[hp]at h;simp only[yaz,ybd,yaS]at h;obtain ⟨j,hj,rfl⟩:=h;obtain ⟨e1,e2⟩:=ih hj;exact ⟨by simp only[b1i,hp,yaa,e1,List.take_succ_cons,List.drop_succ_cons,ybA],by simp only[yaQ];omega⟩
def a8z {X:Type} {p:X→Bool} {x:X}:∀{l:List X},(b1i p x l).length=l.length+1:=by
 intro l
 induction l with
 |nil=>rfl
 |cons y l ih=>simp only[b1i];cases p y<;>simp[ih]
def f59 {X:Type} {p:X→Bool} {x z:X}:∀{l:List X},z∈b1i p x l→z=x∨z∈l:=by
 intro l
 induction l with
 |nil=>intro h;simp[b1i]at h;exact .inl h
 |cons y l ih=>
  intro h;simp only[b1i]at h;cases hp:p y with
  |true=>rw[hp]at h;simpa using h
  |false=>
   rw[hp]at h;simp only[yaa,yaM]at h;rcases h with rfl|h
   ·exact .inr (yaK ..)
   ·rcases ih h with e|e
    ·exact .inl e
    ·exact .inr (yaN _ e)
def c9n {X:Type} {p:X→Bool} {x:X} {l:List X} (hl:l.length<1000000000):b0q l (bif decide (a68 p l<0) then (l.length:Int) else a68 p l) [x]=some (b1i p x l):=by
 unfold b0q a68;have h3:decide (l.length+1≤1073741824)=true:=by rw[yad];omega
 cases h:l.findIdx? p with
 |none=>
  have h1:decide ((0:Int)≤(l.length:Int))=true:=by rw[yad];omega
  simp only[show decide ((-1:Int)<0)=true from rfl,yac,h1,Int.le_refl,decide_true,h3,ybo,yaB,List.take_length,List.drop_length,b31 h]
 |some k=>
  obtain ⟨e1,e2⟩:=b32 (x:=x) h;have h0:decide ((k:Int)<0)=false:=by rw[yaf];omega
  have h1:decide ((0:Int)≤(k:Int))=true:=by rw[yad];omega
  have h2:decide ((k:Int)≤(l.length:Int))=true:=by rw[yad];omega
  simp only[h0,yaa,h1,h2,h3,ybo,yaB,yac,e1]
def a2d {n m:Nat} (h:n+m≤1000000100):decide (n+m≤LIM)=true:=by rw[yad];unfold LIM;omega
def a5q {X:Type} {s:List X} (h:s.length<1000000000):decide (([]:List X).length+s.length≤LIM)=true:=a2d (by simp;omega)
def z8:Circ:=⟨0,[],[],[],[],[],[],⟨⟨0,[]⟩,⟨0,[]⟩,⟨0,[]⟩,⟨0,[]⟩⟩,[],0,0,false⟩
def c6t:Short z8:=by
 constructor<;>first|(show (0:Nat)<_;decide)|(intro x hx;cases hx)
end
section
def g0c (x:Charge):Prop:=0≤x.Paid∧x.Paid<x.Amount∧x.Amount≤100000000
def b0i {l:List Charge} (h:p8 l=0):l.length≤128∧∀x∈l,g0c x:=by
 unfold p8 at h;rw[Bool.cond_eq_ite]at h;split at h
 ·omega
 ·rename_i hlen;simp only[yad]at hlen;refine ⟨by omega,λx hx=>?_⟩;obtain ⟨i,hi⟩:=yaw hx;have:=a6h.1 h i x hi;unfold a1w at this;simp only[Bool.cond_eq_ite]at this;split at this
  ·omega
  ·split at this
   ·omega
   ·split at this
    ·omega
    ·split at this
     ·omega
     ·rename_i h4;simp only[ybr,yad,not_or]at h4;unfold g0c;omega
def a8s (p:Int):List Charge→Int
 | []=>0
 |x::l=>(bif x.Patron==p then x.Amount-x.Paid else 0)+a8s p l
def i4u {l:List Charge} {p:Int} (hl:l.length≤1000) (hc:∀x∈l,g0c x):qbe l p=some (a8s p l):=by
 have h:=b6s (step:=b8z) (λi (s:Int)=>(p,s,l,(l.length:Int),(i:Int),())) l (λx s=>bif x.Patron==p then wr .i64 (s+wr .i64 (x.Amount-x.Paid)) else s) (λs=>(s,())) (by omega)
  (λs=>by simp only[b8z,dge,yaa])
  (λi x s hx=>by
   have hi:=(zL hx)
   simp only[b8z,dlt hi,yac,d9,hx,wS i];cases x.Patron==p<;>rfl) 0
 unfold qbe;rw[show c6 b8z (p,0,l,(l.length:Int),0,())=_ from h];have key:∀(l:List Charge) (s:Int),(∀x∈l,g0c x)→0≤s→s+100000000*(l.length:Int)≤1000000000000→l.foldl (λs x=>bif x.Patron==p then wr .i64 (s+wr .i64 (x.Amount-x.Paid)) else s) s=s+a8s p l:=by
  intro l
  induction l with
  |nil=>intro s _ _ _;simp[a8s]
  |cons x l ih=>
   intro s h h0 hb;have h1:=h x (by simp);unfold g0c at h1;simp only[yaQ]at hb;simp only[ybp,a8s];cases x.Patron==p with
   |true=>
    simp only[yac];rw[a0l (n:=x.Amount-x.Paid) (by omega) (by omega),a0l (by omega) (by omega),ih _ (λy hy=>h y (by simp[hy])) (by omega) (by omega)];omega
   |false=>
    simp only[yaa];rw[ih _ (λy hy=>h y (by simp[hy])) h0 (by omega)];omega
 simp only;rw[key l 0 hc (by omega) (by omega)];simp
end
section
def i47 {l:List Charge} {p:Int} (hl:l.length≤1000) (hc:∀x∈l,g0c x):qcc l p=some (a8s p l):=by
 have h:=b6s (step:=b9e) (λi (s:Int)=>(l,p,s,(i:Int),())) l (λx s=>bif x.Patron==p then wr .i64 ((wr .i64 (s+x.Amount))-x.Paid) else s) (λs=>(s,())) (by omega)
  (λs=>by simp only[b9e,dge,yaa])
  (λi x s hx=>by
   have hi:=(zL hx)
   simp only[b9e,dlt hi,yac,d9,hx,wS i];cases x.Patron==p<;>rfl) 0
 unfold qcc;rw[show c6 b9e (l,p,0,0,())=_ from h];have key:∀(l:List Charge) (s:Int),(∀x∈l,g0c x)→0≤s→s+100000000*(l.length:Int)≤1000000000000→l.foldl (λs x=>bif x.Patron==p then wr .i64 ((wr .i64 (s+x.Amount))-x.Paid) else s) s=s+a8s p l:=by
  intro l
  induction l with
  |nil=>intro s _ _ _;simp[a8s]
  |cons x l ih=>
   intro s h h0 hb;have h1:=h x (by simp);unfold g0c at h1;simp only[yaQ]at hb;simp only[ybp,a8s];cases x.Patron==p with
   |true=>
    simp only[yac];rw[a0l (n:=s+x.Amount) (by omega) (by omega),a0l (by omega) (by omega),ih _ (λy hy=>h y (by simp[hy])) (by omega) (by omega)];omega
   |false=>
    simp only[yaa];rw[ih _ (λy hy=>h y (by simp[hy])) h0 (by omega)];omega
 simp only;rw[key l 0 hc (by omega) (by omega)];simp
def g2z {X:Type} (p:X→Bool):List X→Nat
 | []=>0
 |x::l=>(bif p x then 1 else 0)+g2z p l
def d2i {X:Type} {p:X→Bool}:∀{l:List X} {n:Nat},l.foldl (λn x=>bif p x then n+1 else n) n=n+g2z p l:=by
 intro l
 induction l with
 |nil=>intro n;rfl
 |cons x l ih=>intro n;rw[ybp,ih];simp only[g2z];cases p x<;>simp<;>omega
def c8p {X:Type} {p q:X→Bool}:∀{l:List X},g2z q (l.filter p)=g2z (λx=>p x&&q x) l:=by
 intro l
 induction l with
 |nil=>rfl
 |cons x l ih=>simp only[ybq,g2z];cases p x with|true=>simp[g2z,ih]|false=>simp[ih]
def g5a {l:List Loan} {p:Int} (hl:l.length<1000000000):qbg l p=some (l.filter (λx=>x.Patron==p)):=by
 have h:=u0 (step:=b81) (λ(i:Nat) (s:List Loan)=>s.length≤i) (λi s=>(p,l,(l.length:Int),(i:Int),s,())) l
  (λi y s=>.inl (bif y.Patron==p then s++[y] else s)) (λs=>(s,())) (by rw[o4];omega)
  (λs _=>by simp only[b81,dge,yaa])
  (λi y s hx hi=>by
   have hlt:=(zL hx)
   have l1:decide (s.length+([y]:List Loan).length≤LIM)=true:=a2d (by simp;omega);refine ⟨?_,λs' hs'=>?_⟩
   ·simp only[b81,dlt hlt,d9,hx,yac,l1,wS i];cases y.Patron==p<;>rfl
   ·cases hs'
    cases y.Patron==p<;>simp<;>omega) [] (by simp)
 rw[a0k]at h;unfold qbg;rw[show c6 b81 (p,l,(l.length:Int),0,[],())=_ from h];have key:∀(l o:List Loan),l.foldl (λs y=>bif y.Patron==p then s++[y] else s) o=o++l.filter (λx=>x.Patron==p):=by
  intro l
  induction l with
  |nil=>intro o;simp
  |cons x l ih=>intro o;rw[ybp,ih,ybq];cases x.Patron==p<;>simp
 simp only;rw[key]
 try rfl
def c1k (p day:Int) (l:List Loan):Int:=(g2z (λx=>x.Patron==p&&decide (x.Due<day)) l:Int)
def i4s {l:List Loan} {p day:Int} (hl:l.length<1000000000):qb5 l p day=some (c1k p day l):=by
 unfold qb5 c1k;rw[g5a hl,←c8p];have hf:(l.filter (λx=>x.Patron==p)).length<1000000000:=by have:=yaV (λx:Loan=>x.Patron==p) l;omega
 generalize l.filter (λx=>x.Patron==p)=m at hf ⊢;have h:=u0 (step:=b8u) (λ(i:Nat) (s:Nat)=>s≤i) (λi s=>(day,(s:Int),m,(m.length:Int),(i:Int),())) m
  (λi y s=>.inl (bif decide (y.Due<day) then s+1 else s)) (λs=>((s:Int),())) (by rw[o4];omega)
  (λs _=>by simp only[b8u,dge,yaa])
  (λi y s hx hi=>by
   have hlt:=(zL hx)
   refine ⟨?_,λs' hs'=>?_⟩
   ·simp only[b8u,dlt hlt,d9,hx,yac,wS i,wS s];cases decide (y.Due<day)<;>rfl
   ·cases hs'
    cases decide (y.Due<day)<;>simp<;>omega) 0 (by omega)
 rw[a0k]at h;simp only;rw[show c6 b8u (day,0,m,(m.length:Int),0,())=_ from h,d2i,yaI]
def i45 {l:List Loan} {p day:Int} (hl:l.length<1000000000):qcb l p day=some (c1k p day l):=by
 unfold qcb c1k;have h:=u0 (step:=b9d) (λ(i:Nat) (s:Nat)=>s≤i) (λi s=>(l,p,day,(s:Int),(i:Int),())) l
  (λi y s=>.inl (bif y.Patron==p&&decide (y.Due<day) then s+1 else s)) (λs=>((s:Int),())) (by rw[o4];omega)
  (λs _=>by simp only[b9d,dge,yaa])
  (λi y s hx hi=>by
   have hlt:=(zL hx)
   refine ⟨?_,λs' hs'=>?_⟩
   ·simp -zeta only[b9d,dlt hlt,d9,hx,yac,s9,wS i,wS s];dsimp only;cases (y.Patron==p&&decide (y.Due<day))<;>rfl
   ·cases hs'
    cases (y.Patron==p&&decide (y.Due<day))<;>simp<;>omega) 0 (by omega)
 rw[a0k]at h;rw[show c6 b9d (l,p,day,0,0,())=_ from h,d2i,yaI]
def a43 (p:Patron) (day a8s late:Int):List Int:=(bif p.Stopped then [1] else [])++((bif decide (p.Until<day) then [2] else [])++((bif decide (1000<a8s) then [3] else [])++(bif decide (2<late) then [4] else [])))
def i55 (p:Patron) (day a8s late:Int):qgg p day a8s late=some (a43 p day a8s late):=by
 unfold qgg a43;cases p.Stopped<;>cases decide (p.Until<day)<;>cases decide (1000<a8s)<;>cases decide (2<late)<;>rfl
def i4n (p:Patron) (day a8s late:Int):qap p day a8s late=some (a43 p day a8s late):=by
 unfold qap a43;generalize p.Stopped=b1;generalize decide (p.Until<day)=b2;generalize decide (1000<a8s)=b3;generalize decide (2<late)=b4;have h:c6 e7b ((([b1,b2,b3,b4]).length:Int),0,([]:List Int),[b1,b2,b3,b4],())=some (((bif b1 then [1] else [])++((bif b2 then [2] else [])++((bif b3 then [3] else [])++(bif b4 then [4] else [])))),()):=by
  refine o8 5 (by rw[o4];omega) ?_;cases b1<;>cases b2<;>cases b3<;>cases b4<;>rfl
 rw[h]
def g5k {c:Circ} {p:Patron} (hs:Short c) (hc:p8 c.Charges=0):qd9 c p=some (decide (0<((a43 p c.Today (a8s p.ID c.Charges) (c1k p.ID c.Today c.Loans)).length:Int))):=by
 obtain ⟨h1,h2⟩:=b0i hc;unfold qd9;rw[i4u (by omega) h2,i4s hs.loans];dsimp only;rw[i4n]
def g5t {c:Circ} {id:Int} (hs:Short c) (hc:p8 c.Charges=0):qeq c id=some (decide (0<((a43 (a3g c.Patrons id).1 c.Today (a8s id c.Charges) (c1k id c.Today c.Loans)).length:Int))):=by
 obtain ⟨h1,h2⟩:=b0i hc;unfold qeq;rw[a5v hs.patrons,i47 (by omega) h2,i45 hs.loans];dsimp only;rw[i55]
end
section
def a33 (r:Rule):Int:=(bif !(r.Patron==0) then 4 else 0)+((bif !(r.Item==0) then 2 else 0)+(bif !(r.Branch==0) then 1 else 0))
def i5m (r:Rule):qe5 r=some (a33 r):=by
 unfold qe5 a33;cases r.Patron==0<;>cases r.Item==0<;>cases r.Branch==0<;>rfl
def i4w (r:Rule):qbj r=some (a33 r):=by
 unfold qbj;have st:∀(a b c n:Int),(∀(m:Int),b1l (m,3,0,[a,b,c],())=some (.inl (bif !(a==0) then wr .i64 ((wr .i64 (m*2))+1) else wr .i64 (m*2),3,1,[a,b,c],())))∧
  (∀(m:Int),b1l (m,3,1,[a,b,c],())=some (.inl (bif !(b==0) then wr .i64 ((wr .i64 (m*2))+1) else wr .i64 (m*2),3,2,[a,b,c],())))∧
  (∀(m:Int),b1l (m,3,2,[a,b,c],())=some (.inl (bif !(c==0) then wr .i64 ((wr .i64 (m*2))+1) else wr .i64 (m*2),3,3,[a,b,c],()))):=λa b c n=>
  ⟨λm=>by show (bif !(a==0) then _ else _)=_;cases a==0<;>rfl,λm=>by show (bif !(b==0) then _ else _)=_;cases b==0<;>rfl,λm=>by show (bif !(c==0) then _ else _)=_;cases c==0<;>rfl⟩
 obtain ⟨s0,s1,s2⟩:=st r.Patron r.Item r.Branch 0;have s3:∀m:Int,b1l (m,3,3,[r.Patron,r.Item,r.Branch],())=some (.inr (m,())):=λm=>rfl
 have h:c6 b1l (0,(([r.Patron,r.Item,r.Branch]).length:Int),0,[r.Patron,r.Item,r.Branch],())=some (a33 r,()):=by
  refine o8 4 (by rw[o4];omega) ?_;show o9 b1l 4 (0,3,0,[r.Patron,r.Item,r.Branch],())=_
  simp only[o9,s0,s1,s2,s3];unfold a33;cases r.Patron==0<;>cases r.Item==0<;>cases r.Branch==0<;>rfl
 rw[h]
def b63 (r:Rule) (p i b:Int):Bool:=(r.Patron==0||r.Patron==p)&&(r.Item==0||r.Item==i)&&(r.Branch==0||r.Branch==b)
def g5y (r:Rule) (p i b:Int):qf5 r p i b=some (b63 r p i b):=by
 unfold qf5 b63;simp -zeta only[a0x,s9]
 try rfl
def i5l (a b:Int):qe1 a b=some (a==0||a==b):=by
 unfold qe1;cases a==0<;>rfl
def g5h (r:Rule) (p i b:Int):qco r p i b=some (b63 r p i b):=by
 unfold qco b63;simp -zeta only[i5l,a0x,s9]
 try dsimp only
def wB (l:List Rule) (b:Int):Int:=match o0 l b with|some y=>a33 y|none=>0
def c3a (l:List Rule) (p it br:Int) (i:Nat) (x:Rule) (b:Int):Int:=bif b63 x p it br&&(decide (b<0)||decide (wB l b<a33 x)) then (i:Int) else b
def f2y (l:List Rule) (p it br:Int):Int:=a3s (λi x b=>.inl (c3a l p it br i x b)) (λb=>b) 0 l (-1)
def a7e (l:List Rule) (b:Int):Prop:=b<0∨∃k:Nat,b=(k:Int)∧k<l.length
def c3b {l:List Rule} {b:Int} (h:a7e l b) (hb:decide (b<0)=false):∃y,o0 l b=some y∧wB l b=a33 y:=by
 rcases h with h|⟨k,rfl,hk⟩
 ·rw[yaf]at hb;omega
 ·have:o0 l (k:Int)=some l[k]:=by rw[d9,yab hk]
  exact ⟨_,this,by unfold wB;rw[this]⟩
def b25 {l:List Rule} {p it br:Int} {i:Nat} {x:Rule} {b:Int} (h:a7e l b) (hi:i<l.length):a7e l (c3a l p it br i x b):=by
 unfold c3a;cases b63 x p it br&&(decide (b<0)||decide (wB l b<a33 x)) with
 |true=>exact .inr ⟨i,rfl,hi⟩
 |false=>exact h
def c7q {X σ β γ:Type} {f:Nat→X→σ→σ} {g:σ→β} (k:β→γ):∀{l:List X} {i:Nat} {s:σ},k (a3s (λi x s=>.inl (f i x s)) g i l s)=a3s (λi x s=>.inl (f i x s)) (λs=>k (g s)) i l s:=by
 intro l
 induction l with
 |nil=>intros;rfl
 |cons x l ih=>intro i s;simp only[a3s];exact ih
def i4q {l:List Rule} {p it br:Int} (hl:l.length<1000000000):qaz l p it br=some (f2y l p it br):=by
 have h:=u0 (step:=b5g) (λ(i:Nat) (b:Int)=>a7e l b) (λi b=>(l,p,it,br,b,l,(l.length:Int),(i:Int),())) l
  (λi x b=>.inl (c3a l p it br i x b)) (λb=>(b,())) (by rw[o4];omega)
  (λb _=>by simp only[b5g,dge,yaa])
  (λi x b hx hi=>by
   have hlt:=(zL hx)
   refine ⟨?_,λs' hs'=>by cases hs';exact b25 hi hlt⟩;unfold c3a;cases hb:decide (b<0) with
   |true=>
    simp only[b5g,dlt hlt,d9,hx,yac,g5h,hb,wS i];cases b63 x p it br<;>rfl
   |false=>
    obtain ⟨y,h1,h2⟩:=c3b hi hb;simp only[b5g,dlt hlt,d9,hx,yac,yaa,g5h,i4w,h1,h2,hb,wS i];cases b63 x p it br<;>cases decide (a33 y<a33 x)<;>rfl) (-1) (.inl (by omega))
 unfold qaz;rw[show c6 b5g (l,p,it,br,(-1),l,(l.length:Int),0,())=_ from h,←c7q (g:=λb=>b) (λb:Int=>(b,()))]
 try rfl
def g48 {l:List Rule} {p it br:Int} (hl:l.length<1000000000):qb2 l p it br=some (f2y l p it br):=by
 have h:=u0 (step:=b5i) (λ(i:Nat) (b:Int)=>a7e l b) (λi b=>(l,p,it,br,b,(i:Int),())) l
  (λi x b=>.inl (c3a l p it br i x b)) (λb=>(b,())) (by rw[o4];omega)
  (λb _=>by simp only[b5i,dge,yaa])
  (λi x b hx hi=>by
   have hlt:=(zL hx)
   refine ⟨?_,λs' hs'=>by cases hs';exact b25 hi hlt⟩;unfold c3a;cases hb:decide (b<0) with
   |true=>
    simp only[b5i,dlt hlt,d9,hx,yac,g5y,hb,wS i];cases b63 x p it br<;>rfl
   |false=>
    obtain ⟨y,h1,h2⟩:=c3b hi hb;simp only[b5i,dlt hlt,d9,hx,yac,yaa,g5y,i5m,h1,h2,hb,wS i];cases b63 x p it br<;>cases decide (a33 y<a33 x)<;>rfl) (-1) (.inl (by omega))
 unfold qb2;rw[show c6 b5i (l,p,it,br,(-1),0,())=_ from h,←c7q (g:=λb=>b) (λb:Int=>(b,()))]
 try rfl
def h5w {l:List Rule} {p it br:Int} (hl:l.length<1000000000):qdt l p it br=qgp l p it br:=by
 unfold qdt qgp;rw[i4q hl,g48 hl]
 try rfl
def c18 {c:Circ} {p:Int} {x:Item} (hs:Short c):qc1 c p x=qdd c p x:=by
 unfold qc1 qdd;rw[d53 hs.patrons,a5v hs.patrons];dsimp only;rw[h5w hs.rules]
 try rfl
def f17 (c:Circ) (b:Int):Calendar:=bif b==1 then c.Cals.x0 else bif b==2 then c.Cals.x1 else bif b==3 then c.Cals.x2 else c.Cals.x3
def b7y {n:Int} (h:rng 1 4 n=true):n=1∨n=2∨n=3∨n=4:=by
 have:=a0a.1 h;omega
def e7y {c:Circ} {b:Int} (h:rng 1 4 b=true):qm c b=some (f17 c b):=by
 rcases b7y h with h|h|h|h<;>subst h<;>rfl
def c67 {c:Circ} {b:Int} (h:rng 1 4 b=true):qc2 c b=some (f17 c b):=by
 rcases b7y h with h|h|h|h<;>subst h<;>rfl
end
section
def a0y (week:Int) (i:Nat):Bool:=(wr .i64 (BitVec.ofInt 64 (week.fdiv (2 ^ (min i 64))) &&& BitVec.ofInt 64 1).toNat)==0
def g47 (c:Calendar):qay c=some ⟨a0y c.Week 0,a0y c.Week 1,a0y c.Week 2,a0y c.Week 3,a0y c.Week 4,a0y c.Week 5,a0y c.Week 6⟩:=by
 have h:c6 e7c (0,c,(⟨false,false,false,false,false,false,false⟩:V7 Bool),(⟨false,false,false,false,false,false,false⟩:V7 Bool),())=some ((⟨false,false,false,false,false,false,false⟩:V7 Bool),(⟨a0y c.Week 0,a0y c.Week 1,a0y c.Week 2,a0y c.Week 3,a0y c.Week 4,a0y c.Week 5,a0y c.Week 6⟩:V7 Bool),()):=by
  refine o8 8 (by rw[o4];omega) ?_
  try rfl
 unfold qay;rw[h]
def g07:Int→Nat→Int
 |n,0=>n
 |n,k+1=>g07 (wr .i64 (n.tdiv 2)) k
def e78 {day n:Int} {c:Calendar}:∀(k:Nat) (i:Nat) (n:Int),i+k<100→o9 d9r (k+1) (day,n,((i+k:Nat):Int),(i:Int),c,())=some (day,g07 n k,c,()):=by
 intro k
 induction k with
 |zero=>
  intro i n hi;have:decide ((i:Int)<((i+0:Nat):Int))=false:=by rw[yaf];omega
  simp only[o9,d9r,this,yaa,g07]
 |succ k ih=>
  intro i n hi;have:decide ((i:Int)<((i+(k+1):Nat):Int))=true:=by rw[yad];omega
  rw[o9];simp only[d9r,this,yac,wS i,g07];have:=ih (i+1) (wr .i64 (n.tdiv 2)) (by omega);rw[show i+1+k=i+(k+1) by omega]at this;exact this
def d99:((List.range 127).all λn=>(List.range 7).all λw=>a0y (n:Int) w==!((g07 (n:Int) w).tmod 2==1))=true:=kr
def f1y {week:Int} {w:Nat} (h1:0≤week) (h2:week≤126) (hw:w<7):a0y week w=!((g07 week w).tmod 2==1):=by
 obtain ⟨n,rfl⟩:∃n:Nat,week=(n:Int):=⟨week.toNat,by omega⟩
 have h:=d99;rw[yaj]at h;have h3:=h n (ybE.2 (by omega));rw[yaj]at h3;have h4:=h3 w (ybE.2 hw);simpa using h4
def lbS (t:Int) (l:List Int):Nat:=(l.takeWhile (λx=>decide (x<t))).length
def i74 {t:Int} {l:List Int}:lbS t l≤l.length:=by
 unfold lbS;have:=(List.takeWhile_prefix (λx=>decide (x<t)) (l:=l)).length_le;exact this
def c4l {t:Int}:∀{l:List Int} {k:Nat} {x:Int},k<lbS t l→l[k]?=some x→x<t:=by
 intro l
 induction l with
 |nil=>intro k x h;simp[lbS]at h
 |cons y l ih=>
  intro k x h hx;unfold lbS at h ih;rw[List.takeWhile_cons]at h;by_cases hy:y<t
  ·simp only[hy,decide_true,ybD,yaQ]at h;cases k with
   |zero=>simp at hx;omega
   |succ k=>exact ih (k:=k) (by omega) (by simpa using hx)
  ·simp[hy]at h
def i36 {t:Int}:∀{l:List Int} {x:Int},l[lbS t l]?=some x→¬x<t:=by
 intro l
 induction l with
 |nil=>intro x h;simp[lbS]at h
 |cons y l ih=>
  intro x hx;unfold lbS at hx ih;rw[List.takeWhile_cons]at hx;by_cases hy:y<t
  ·simp only[hy,decide_true,ybD,yaQ,yaL]at hx;exact ih hx
  ·simp[hy]at hx;omega
def g4y {t:Int} {l:List Int} (hsort:∀(j i:Nat) (x y:Int),i<j→l[i]?=some x→l[j]?=some y→x<y) {k:Nat} {x:Int} (hx:l[k]?=some x):decide (x<t)=decide (k<lbS t l):=by
 rw[decide_eq_decide];constructor
 ·intro h;by_cases hk:k<lbS t l
  ·exact hk
  ·exfalso;have hlt:lbS t l<l.length:=by have:=(zL hx);omega
   have hz:l[lbS t l]?=some l[lbS t l]:=yab hlt;have:=i36 hz;by_cases e:lbS t l=k
   ·subst e;rw[hz]at hx;cases hx;exact this h
   ·have:=hsort k (lbS t l) _ _ (by omega) hz hx;omega
 ·intro h;exact c4l h hx
def c6s {i j:Nat} (h:i+j<2000000000):wr .i64 ((wr .u64 (wr .i64 ((i:Int)+(j:Int)))).fdiv (2 ^ 1))=(((i+j) / 2:Nat):Int):=by
 rw[a0l (n:=(i:Int)+(j:Int)) (by omega) (by omega)];have:wr .u64 ((i:Int)+(j:Int))=(i:Int)+(j:Int):=by
  unfold wr;simp[IntKind.wrap,IntKind.bits,IntKind.signed];omega
 rw[this,Int.fdiv_eq_ediv_of_nonneg _ (by omega)];have e:((i:Int)+(j:Int)) / 2 ^ 1=(((i+j) / 2:Nat):Int):=by omega
 rw[e,a0l (by omega) (by omega)]
def i5z (x y:Int):qfs x y=some (decide (x<y)):=by
 have e:∀z:Int,qfm z=some false:=λz=>by unfold qfm;simp
 unfold qfs;rw[e]
 try rfl
def d9x {l:List Int} {t:Int} (hl:l.length<1000000000) (hsort:∀(j i:Nat) (x y:Int),i<j→l[i]?=some x→l[j]?=some y→x<y) :
 c6 b8h (l,t,(l.length:Int),0,(l.length:Int),())=some (l,t,(l.length:Int),(lbS t l:Int),()):=by
 refine f1z (step:=b8h) (λa=>∃i j:Nat,a=(l,t,(l.length:Int),(i:Int),(j:Int),())∧i≤lbS t l∧lbS t l≤j∧j≤l.length) (λa=>(a.2.2.2.2.1-a.2.2.2.1).toNat) (λ_=>(l,t,(l.length:Int),(lbS t l:Int),())) ?_ ⟨0,l.length,rfl,by omega,i74,by omega⟩ (by rw[o4];show ((l.length:Int)-0).toNat<_;omega);rintro a ⟨i,j,rfl,h1,h2,h3⟩;by_cases hij:i<j
 ·left;have d:decide ((i:Int)<(j:Int))=true:=by rw[yad];omega
  have hm:(i+j) / 2<l.length:=by omega
  have hx:l[(i+j) / 2]?=some l[(i+j) / 2]:=yab hm;have hlb:=g4y (t:=t) hsort hx;simp only[b8h,d,yac,c6s (show i+j<2000000000 by omega),d9,hx,i5z,hlb];by_cases hk:(i+j) / 2<lbS t l
  ·rw[show decide ((i+j) / 2<lbS t l)=true by rw[yad];exact hk];simp only[yac,a0c (show (i+j) / 2<9223372036854775807 by omega)];exact ⟨_,rfl,⟨(i+j) / 2+1,j,rfl,by omega,h2,h3⟩,by simp only;omega,trivial⟩
  ·rw[show decide ((i+j) / 2<lbS t l)=false by rw[yaf];exact hk];simp only[yaa];exact ⟨_,rfl,⟨i,(i+j) / 2,rfl,h1,by omega,by omega⟩,by simp only;omega,trivial⟩
 ·right;have d:decide ((i:Int)<(j:Int))=false:=by rw[yaf];omega
  have hi:i=lbS t l:=by omega
  subst hi;simp only[b8h,d,yaa]
def e8n {l:List Int} {t:Int} (hl:l.length<1000000000) (hsort:∀(j i:Nat) (x y:Int),i<j→l[i]?=some x→l[j]?=some y→x<y) :
 qa0 l t=some ((lbS t l:Int),l.any (λx=>x==t)):=by
 unfold qa0;rw[d9x hl hsort];by_cases hk:lbS t l<l.length
 ·have d:decide ((lbS t l:Int)<(l.length:Int))=true:=by rw[yad];omega
  have hx:l[lbS t l]?=some l[lbS t l]:=yab hk;have hn:qew l[lbS t l]=some false:=by unfold qew;simp
  simp only[d,yac,d9,hx,hn,yaa];have e:(l[lbS t l]==t)=l.any (λx=>x==t):=by
   rw[ybj,List.any_eq_true];constructor
   ·intro h;exact ⟨_,ybB hk,h⟩
   ·rintro ⟨x,hm,he⟩;have he':x=t:=by simpa using he
    obtain ⟨i,hi⟩:=yaw hm;have h1:=g4y (t:=t) hsort hi;have h2:=i36 hx;rw[decide_eq_decide]at h1;by_cases e:i=lbS t l
    ·rw[e,hx]at hi;cases hi;exact he
    ·have:lbS t l<i:=by omega
     have:=hsort _ _ _ _ this hx hi;omega
  rw[←e];cases l[lbS t l]==t<;>rfl
 ·have d:decide ((lbS t l:Int)<(l.length:Int))=false:=by rw[yaf];omega
  have e:l.any (λx=>x==t)=false:=by
   rw[ybL];intro x hm he;have he':x=t:=by simpa using he
   obtain ⟨i,hi⟩:=yaw hm;have:=(zL hi)
   have:=c4l (t:=t) (show i<lbS t l by omega) hi;omega
  simp only[d,yaa,e]
end
section
def b3z {l:List Int} (h:f2b l=true):∀(j i:Nat) (x y:Int),i<j→l[i]?=some x→l[j]?=some y→x<y:=by
 have h2:∀i x,l[i]?=some x→w7 l i (λy=>decide (x≤y))=false:=by
  intro i x hx;have:=(a4c.1 h) i x hx;rw[yaI]at this;simpa using this
 exact a2i (key:=λx:Int=>x) h2
structure CalOk (c:Calendar):Prop where
 w1:0≤c.Week
 w2:c.Week≤126
 len:c.Closed.length<1000000000
 inc:f2b c.Closed=true
def f21 {c:Calendar} (h:(a0o c==0)=true):CalOk c:=by
 have h:a0o c=0:=by simpa using h
 unfold a0o at h;have h1:=a0v h (by decide);rw[h1]at h;simp only[yaa]at h;have h2:=a0v h (by decide);rw[h2]at h;simp only[yaa]at h;simp only[yai,yaf]at h1 h2;cases h3:c.Closed.all (λx=>!(decide (x<0)||decide (109572<x))) with
 |false=>rw[h3]at h;cases h
 |true=>
  rw[h3]at h;cases h4:f2b c.Closed with
  |false=>rw[h4]at h;cases h
  |true=>exact ⟨by omega,by omega,by omega,h4⟩
def a69 (c:Calendar) (d:Int):Bool:=rng 0 109572 d&&(!(c.Closed.any (λx=>x==d))&&a0y c.Week (d.tmod 7).toNat)
def h9y {d:Int} (h:0≤d):0≤d.tmod 7∧d.tmod 7<7:=by
 rw[Int.tmod_eq_emod_of_nonneg h];omega
def d54 {c:Calendar} (hc:CalOk c) (d:Int):qct c d=some (a69 c d):=by
 unfold qct a69;rw[e7n];dsimp only;cases hr:rng 0 109572 d with
 |false=>rfl
 |true=>
  simp -zeta only[yak,yaa,ya8];rw[e8n hc.len (b3z hc.inc)];dsimp only;cases c.Closed.any (λx=>x==d) with
  |true=>rfl
  |false=>
   have hk:qdr d=some (d.tmod 7):=by
    have e:qgi d=some (rng 0 109572 d):=by
     unfold qgi;simp -zeta only[s9]
     try rfl
    unfold qdr;rw[e,hr]
    try rfl
   simp only[yas,yac,g47,hk,ya8];obtain ⟨h1,h2⟩:=h9y (a0a.1 hr).1;generalize d.tmod 7=w at h1 h2;have:w=0∨w=1∨w=2∨w=3∨w=4∨w=5∨w=6:=by omega
   rcases this with h|h|h|h|h|h|h<;>subst h<;>rfl
def d9q {c:Calendar} {d:Int} (hl:c.Closed.length<1000000000):c6 b52 (d,0,c,())=some (bif c.Closed.all (λx=>!(x==d)) then .inl () else .inr (false,())):=by
 have h:=m0 (step:=b52) (λi=>(d,(i:Int),c,())) c.Closed (λ_ x=>!(x==d)) (.inr (false,())) (.inl ()) hl
  (by simp only[b52,dge,yaa])
  (λi x hx=>by
   have hi:=(zL hx)
   simp only[b52,dlt hi,d9,hx,yac,wS i];cases x==d<;>rfl)
 rw[show c6 b52 (d,0,c,())=_ from h,o6]
def d0r {c:Calendar} (hc:CalOk c) (d:Int):qy c d=some (a69 c d):=by
 unfold qy a69;simp -zeta only[a0x];dsimp only;rw[←a3q];cases hr:rng 0 109572 d with
 |false=>rfl
 |true=>
  have hk:qfv d=some (d.tmod 7):=by
   have e:qgq d=some (rng 0 109572 d):=by
    unfold qgq;simp -zeta only[s9]
    try rfl
   unfold qfv;rw[e,hr]
   try rfl
  simp only[yak,yaa,ya8,hk];obtain ⟨h1,h2⟩:=h9y (a0a.1 hr).1;generalize d.tmod 7=w at h1 h2;obtain ⟨n,rfl⟩:∃n:Nat,w=(n:Int):=⟨w.toNat,by omega⟩
  have hn:n<7:=by omega
  have hw:c6 d9r (d,c.Week,(n:Int),0,c,())=some (d,g07 c.Week n,c,()):=by
   have:=e78 (day:=d) (n:=0) (c:=c) n 0 c.Week (by omega);rw[yaI]at this;exact o8 (n+1) (by rw[o4];omega) this
  simp only[hw,yaB,f1y hc.w1 hc.w2 hn,d9q hc.len];cases (g07 c.Week n).tmod 2==1 with
  |true=>simp
  |false=>
   simp only[yaa,yas,ybW,b97,yb6];cases c.Closed.all (λx=>!(x==d))<;>rfl
def b1s {α β:Type} {s1 s2:α→Option (α⊕β)} (Inv:α→Prop) (h:∀a,Inv a→s1 a=s2 a) (hi:∀a b,Inv a→s1 a=some (.inl b)→Inv b) {a:α} (ha:Inv a):c6 s1 a=c6 s2 a:=by
 have key:∀n a,Inv a→o9 s1 n a=o9 s2 n a:=by
  intro n
  induction n with
  |zero=>intro a _;rfl
  |succ n ih=>
   intro a ha;simp only[o9];rw[←h a ha];cases hs:s1 a with
   |none=>rfl
   |some x=>
    cases x with
    |inl b=>exact ih b (hi a b ha hs)
    |inr b=>rfl
 exact key c2q a ha
def e76 {c:Calendar} (hc:CalOk c) (d:Int):qw c d=qa6 c d:=by
 have h:∀d0:Int,c6 e75 (d0,c,())=c6 a97 (d0,c,()):=λd0=>by
  refine b1s (λa=>a.2.1=c) ?_ ?_ rfl
  ·rintro ⟨d,c',_⟩ (rfl:c'=c);simp only[e75,a97,d54 hc,d0r hc]
  ·rintro ⟨d,c',_⟩ b (rfl:c'=c) hb;simp only[e75,d54 hc]at hb;cases hq:decide (d≤109572) with
   |false=>rw[hq]at hb;cases hb
   |true=>
    rw[hq]at hb;simp only[yac]at hb;cases ho:a69 c' d with
    |true=>rw[ho]at hb;cases hb
    |false=>rw[ho]at hb;cases hb;rfl
 unfold qw qa6;rw[h]
 try rfl
def h5u {c:Calendar} (hc:CalOk c) (d:Int):qbu c d=qb0 c d:=by
 have h:∀d0:Int,c6 c66 (d0,c,())=c6 b8t (d0,c,()):=λd0=>by
  refine b1s (λa=>a.2.1=c) ?_ ?_ rfl
  ·rintro ⟨d,c',_⟩ (rfl:c'=c);simp only[c66,b8t,d54 hc,d0r hc]
  ·rintro ⟨d,c',_⟩ b (rfl:c'=c) hb;simp only[c66,d54 hc]at hb;cases hq:decide (0≤d) with
   |false=>rw[hq]at hb;cases hb
   |true=>
    rw[hq]at hb;simp only[yac]at hb;cases ho:a69 c' d with
    |true=>rw[ho]at hb;cases hb
    |false=>rw[ho]at hb;cases hb;rfl
 unfold qbu qb0;rw[h]
 try rfl
end
section
def e0a {α β:Type} {step:α→Option (α⊕β)} (Inv:α→Prop) (hi:∀a b,Inv a→step a=some (.inl b)→Inv b) {a:α} (ha:Inv a) {r:β} (h:c6 step a=some r):∃b,Inv b∧step b=some (.inr r):=by
 have key:∀n a,Inv a→o9 step n a=some r→∃b,Inv b∧step b=some (.inr r):=by
  intro n
  induction n with
  |zero=>intro a _ h;cases h
  |succ n ih=>
   intro a ha h;simp only[o9]at h;cases hs:step a with
   |none=>rw[hs]at h;cases h
   |some x=>
    rw[hs]at h;cases x with
    |inl b=>exact ih b (hi a b ha hs) h
    |inr b=>cases h;exact ⟨a,ha,hs⟩
 exact key c2q a ha h
def h5b {c:Calendar} (hc:CalOk c) {s d:Int} (hs:s≤109573) (h:qa6 c s=some (d,0)):s≤d:=by
 unfold qa6 at h;cases hw:c6 a97 ((if s<0 then 0 else s),c,()) with
 |none=>rw[hw]at h;cases h
 |some r=>
  rw[hw]at h;obtain ⟨b,hb,hstep⟩:=e0a (λa=>s≤a.1∧0≤a.1∧a.1≤109573∧a.2.1=c) (by
   rintro ⟨d,c',_⟩ b ⟨h1,h2,h3,(rfl:c'=c)⟩ hb;simp only[a97,d0r hc]at hb;cases hq:decide (d≤109572) with
   |false=>rw[hq]at hb;cases hb
   |true=>
    rw[yad]at hq;rw[show decide (d≤109572)=true by rw[yad];exact hq]at hb;simp only[yac]at hb;cases ho:a69 c' d with
    |true=>rw[ho]at hb;cases hb
    |false=>
     rw[ho]at hb;simp only[yaa]at hb;simp only at h1 h2;rw[a0l (by omega) (by omega)]at hb;cases hb
     exact ⟨by show s≤d+1;omega,by show 0≤d+1;omega,by show d+1≤109573;omega,rfl⟩) (a:=((if s<0 then 0 else s),c,())) ⟨by show s≤if s<0 then 0 else s;split<;>omega,by show 0≤if s<0 then 0 else s;split<;>omega,by show (if s<0 then 0 else s)≤109573;split<;>omega,rfl⟩ hw
  obtain ⟨d',c',_⟩:=b;obtain ⟨h1,h2,h3,(rfl:c'=c)⟩:=hb;simp only[a97,d0r hc]at hstep;cases hq:decide (d'≤109572) with
  |false=>rw[hq]at hstep;cases hstep;cases h
  |true=>
   rw[hq]at hstep;simp only[yac]at hstep;cases ho:a69 c' d' with
   |true=>rw[ho]at hstep;cases hstep;cases h;exact h1
   |false=>rw[ho]at hstep;cases hstep
def d0f {r:Rule} {c:Calendar} (hc:CalOk c) (hr:a5w r=true) (day u:Int):qe6 r c day u=qfc r c day u:=by
 have hd:0≤r.Days∧r.Days≤365:=by
  unfold a5w at hr;simp only[yae,a0a]at hr;omega
 unfold qe6 qfc;simp -zeta only[g5e,e7h,a0x,s9];cases h1:rng 0 109572 day with
 |false=>rfl
 |true=>
  cases h2:rng 0 109572 u with
  |false=>rfl
  |true=>
   have hday:=a0a.1 h1;have hu:=a0a.1 h2;dsimp only;simp only[yak,Bool.or_self,yaa];cases h3:r.Days==0 with
   |true=>simp only[Bool.true_or,yac];cases decide (0<r.Fixed)<;>rfl
   |false=>
    have hd1:r.Days≠0:=by simpa using h3
    simp only[ybg,yaa];have core:∀last:Int,last≤109572→
     (bif decide (last≤day) then (some (0,15):Option (Int×Int)) else match qw c (if last<wr .i64 (day+r.Days) then last else wr .i64 (day+r.Days)) with
      |some (r7,r8)=>(bif (r8==0&&decide (r7≤last)) then some (r7,0) else match qbu c last with
       |some (r11,r12)=>(bif (!(r12==0)||decide (r11≤day)) then some (0,15) else some (r11,0))
       |none=>none)
      |none=>none) =
     (bif decide (last≤day) then (some (0,15):Option (Int×Int)) else match qa6 c (if last<wr .i64 (day+r.Days) then last else wr .i64 (day+r.Days)) with
      |some (r6,r7)=>(bif (!(r7==0)||decide (last<r6)) then (match qb0 c last with
       |some (r10,r11)=>(bif (!(r11==0)||decide (r10≤day)) then some (0,15) else some (r10,0))
       |none=>none) else (bif (!(r7==0)||decide (r6≤day)) then some (0,15) else some (r6,0)))
      |none=>none):=by
     intro last hlast;cases h4:decide (last≤day) with
     |true=>rfl
     |false=>
      rw[yaf]at h4;simp only[yaa,e76 hc,h5u hc];rw[a0l (n:=day+r.Days) (by omega) (by omega)];cases hn:qa6 c (if last<day+r.Days then last else day+r.Days) with
      |none=>rfl
      |some p=>
       obtain ⟨d,e⟩:=p;dsimp only;by_cases he:e=0
       ·subst he;have hge:=h5b hc (by split<;>omega) hn;have hgt:¬d≤day:=by split at hge<;>omega
        have e1:decide (d≤day)=false:=by rw[yaf];exact hgt
        have e2:decide (last<d)=!(decide (d≤last)):=by
         rw[ybj];simp
        rw[e1,e2];cases decide (d≤last)<;>rfl
       ·have e1:(e==0)=false:=by simpa using he
        rw[e1]
        try rfl
    cases decide (0<r.Fixed) with
    |true=>exact core _ (by split<;>omega)
    |false=>exact core _ (by omega)
end
section
def h5x {r:Rule} {c:Calendar} (hc:CalOk c) (hr:a5w r=true) (n:Loan) (day u:Int):qeo r c n day u=qf2 r c n day u:=by
 unfold qeo qf2;rw[d0f hc hr]
 try rfl
def a6x {l:List Loan} {item:Int} (hl:l.length<1000000000):qch (λ(g:Unit×Int×Unit) x0=>qcx x0 g.2.1) l ((),(item,())) =
 some (match l.find? (λn=>n.Item==item) with|some x=>(x,a68 (λn=>n.Item==item) l)|none=>((⟨0,0,0,0,0,false⟩:Loan),-1)):=by
 unfold qch;rw[e7q (p:=λ(g:Unit×Int×Unit) x0=>qcx x0 g.2.1) (g:=((),(item,()))) (λx=>x.Item==item) hl (λx _=>rfl)];rcases p7 (λx:Loan=>x.Item==item) l with ⟨h1,h2⟩|⟨i,x,h1,h2,h3,h4⟩
 ·simp only[h1,h2,a59,yac]
 ·simp only[h1,h4,a4i,yaa,d9,h2]
def e7k {l:List Loan} (hl:l.length<1000000000):qcy l=some (bif !(o5 l==0) then ([],o5 l) else (l,0)):=by
 unfold qcy;rw[g44 hl];cases h:o5 l==0<;>simp[h]
def g5u {l:List Loan} (hl:l.length<1000000000):qer l=some (bif !(o5 l==0) then ([],o5 l) else (l,0)):=by
 unfold qer;rw[g49 hl];cases h:o5 l==0<;>simp[h]
def c4y {l:List Loan} {i:Nat} {x y:Loan} (hl:l.length<1000000000) (h:l[i]?=some x):qey l (i:Int) y=some (l.set i y):=by
 unfold qey qcp;rw[a5q hl];simp only[yac,yaU,d9,h,yaB]
def i6z (l:List Loan) (i:Nat) (y:Loan):List Loan×Int:=bif !(o5 (l.set i y)==0) then ([],o5 (l.set i y)) else (l.set i y,0)
def a7x (l:List Loan) (item due:Int):List Loan×Int:=
 match l.find? (λn=>n.Item==item) with
 |some x=>bif x.Recalled then ([],12) else i6z l (a68 (λn=>n.Item==item) l).toNat ⟨x.Item,x.Patron,x.Out,due,wr .i64 (x.Renewals+1),x.Recalled⟩
 |none=>([],9)
def i56 {l:List Loan} {item due:Int} (hl:l.length<1000000000):qgh l item due=some (a7x l item due):=by
 unfold qgh a7x qan;dsimp only;rw[a6x hl];rcases p7 (λx:Loan=>x.Item==item) l with ⟨h1,h2⟩|⟨i,x,h1,h2,h3,h4⟩
 ·simp only[h2,a59,yac]
 ·simp only[h4,h1,a4i,yaa];cases x.Recalled with
  |true=>rfl
  |false=>
   have hk:∀y:Loan,qcy (l.set i y)=some (bif !(o5 (l.set i y)==0) then ([],o5 (l.set i y)) else (l.set i y,0)):=λy=>e7k (by rw[List.length_set];exact hl)
   simp only[yaa,c4y hl h2,hk,yaB,i6z]
def g5v {l:List Loan} {item due:Int} (hl:l.length<1000000000):qf0 l item due=some (a7x l item due):=by
 unfold qf0 a7x;rw[d50 hl];rcases p7 (λx:Loan=>x.Item==item) l with ⟨h1,h2⟩|⟨i,x,h1,h2,h3,h4⟩
 ·simp only[h1,h2,a59,yac]
 ·have hlt:=(zL h2)
  have hset:∀y:Loan,(l.set i y)[i]?=some y:=λy=>by rw[ybx hlt]
  simp only[h4,h1,a4i,yaa,d9,h2,yaU,yaB,hset,List.set_set,a5q hl,yac];cases x.Recalled with
  |true=>rfl
  |false=>
   have hk:∀y:Loan,qer (l.set i y)=some (bif !(o5 (l.set i y)==0) then ([],o5 (l.set i y)) else (l.set i y,0)):=λy=>g5u (by rw[List.length_set];exact hl)
   simp only[yaa,hk,i6z]
def j6 (c:Circ) (l:List Loan):Circ:=⟨c.Today,c.Items,c.Patrons,l,c.Holds,c.Charges,c.Rules,c.Cals,c.Moves,c.NextHold,c.NextCharge,c.Local⟩
def a9n (c:Circ) (l:List Loan):qdg l 0 ⟨c,0⟩=some ((),⟨j6 c l,0⟩):=rfl
def a8p (c:Circ) (l:List Loan) (e:Int) (he:e≠0):qdg l e ⟨c,0⟩=some ((),⟨j6 c c.Loans,e⟩):=by
 have h:(e==0)=false:=by simpa using he
 unfold qdg qz;simp only[h,yas,yac,yal,yaa]
 try rfl
def a6c (c:Circ) (x:Item):Bool:=c.Holds.any (λh=>h.State==1&&decide (h.Asleep≤c.Today)&&(h.Record==x.Record&&(h.Item==0||h.Item==x.ID)))
def i5e (h:Hold) (c:Circ) (x:Item):qda h c x=some (h.State==1&&decide (h.Asleep≤c.Today)&&(h.Record==x.Record&&(h.Item==0||h.Item==x.ID))):=by
 unfold qda qdy;simp -zeta only[a0x,s9];dsimp only;simp -zeta only[a0x,s9]
def g5q (h:Hold) (x:Item):qef h x=some (h.Record==x.Record&&(h.Item==0||h.Item==x.ID)):=by
 unfold qef;simp -zeta only[a0x,s9]
 try rfl
def b5h {c:Circ} {item:Int} {n:Loan} {x:Item} (hs:Short c):c6 a60 (item,0,c,z8,n,x,())=some (bif a6c c x then .inr (0,16,z8,()) else .inl (item,c,z8,n,x,())):=by
 have h:=m0 (step:=a60) (λi=>(item,(i:Int),c,z8,n,x,())) c.Holds (λ_ h=>!(h.State==1&&decide (h.Asleep≤c.Today)&&(h.Record==x.Record&&(h.Item==0||h.Item==x.ID)))) (.inr (0,16,z8,())) (.inl (item,c,z8,n,x,())) hs.holds
  (by simp only[a60,dge,yaa])
  (λi h hx=>by
   have hi:=(zL hx)
   have:=hs.holds;simp -zeta only[a60,dlt hi,d9,hx,yac,g5q,s9,wS i];dsimp only;cases (h.State==1&&decide (h.Asleep≤c.Today)&&(h.Record==x.Record&&(h.Item==0||h.Item==x.ID)))<;>rfl)
 rw[show c6 a60 (item,0,c,z8,n,x,())=_ from h,o6];unfold a6c;rw[b97];cases c.Holds.all (λh=>!(h.State==1&&decide (h.Asleep≤c.Today)&&(h.Record==x.Record&&(h.Item==0||h.Item==x.ID))))<;>rfl
end
section
structure FitP (c:Circ):Prop where
 charges:p8 c.Charges=0
 loans:o5 c.Loans=0
 holds:y5 c.Holds=0
 rules:a2y c.Rules=0
 patrons:a1a c.Patrons=0
 cal0:CalOk c.Cals.x0
 cal1:CalOk c.Cals.x1
 cal2:CalOk c.Cals.x2
 cal3:CalOk c.Cals.x3
 items:a1h c=true
 loanG:∀n∈c.Loans,a3p c n=true
 itemG:∀x∈c.Items,(a3u c.Loans x.ID).2=a3h x.Custody
 holdG:∀h∈c.Holds,a3n c h=true
 readyG:∀x∈c.Items,a1p c x=true
 nums:a4a c=true
def i82 {c:Circ} (h:a5g c=true):FitP c:=by
 unfold a5g at h;rw[a7r]at h;simp only[yae]at h;obtain ⟨h1,h2,h3,h4,h5,h6,h7⟩:=h;unfold a3o at h2;simp only[yan,yai,yay,ya6]at h2;unfold a3k at h3;simp only[yae]at h3;unfold a2e at h6;unfold a4l at h7;simp only[yae,yaj,ya6]at h6 h7;exact ⟨h2.1.2,h2.1.1.1.2,h2.1.1.2,h2.2,h2.1.1.1.1,f21 h3.1,f21 h3.2.1,f21 h3.2.2.1,f21 h3.2.2.2,h5,h6.1,h6.2,h7.1,h7.2,h1⟩
def a8v {c:Circ} (h:FitP c) (b:Int):CalOk (f17 c b):=by
 unfold f17;cases b==1 with
 |true=>exact h.cal0
 |false=>
  cases b==2 with
  |true=>exact h.cal1
  |false=>
   cases b==3 with
   |true=>exact h.cal2
   |false=>exact h.cal3
def c2c {c:Circ} (h:FitP c) {r:Rule} (hr:r∈c.Rules):a5w r=true:=by
 have h:=h.rules;unfold a2y at h;rw[a0v h (by decide)]at h;obtain ⟨i,hi⟩:=yaw hr;have:=a9r (k:=0) h i r hi;rw[yaI]at this;unfold a4s at this;have:=a0v this (by decide);simpa using this
def a6u (c:Custody):Prop:=rng 1 4 c.Branch=true
def c7m {c:Custody} (h:a9b c=true):a6u c:=by
 unfold a9b at h;unfold a6u;cases hq:(decide (c.State<1)||decide (12<c.State)||decide (c.Branch<1)||decide (4<c.Branch)) with
 |true=>rw[hq]at h;cases h
 |false=>
  simp only[yai,yaf]at hq;rw[a0a];omega
def c2m {m:Move} (h:a9a m=true):rng 1 4 m.Branch=true:=by
 unfold a9a at h;simp only[yae,yad]at h;rw[a0a];omega
def a9i {c:Custody} {m:Move} (h:((s8 c m).2==0)=true):a6u (s8 c m).1:=by
 unfold s8 at h ⊢;cases e1:(!(a9b c)||!(a9a m)) with
 |true=>rw[e1]at h;cases h
 |false=>
  have e0:=e1;simp only[yai,yay]at e0;have b1:=c7m e0.1;have b2:=c2m e0.2;rw[e1]at h;simp only[yaa]at h ⊢;cases e2:!(a64 c.State m.Kind) with
  |true=>rw[e2]at h;cases h
  |false=>
   rw[e2]at h;simp only[yaa]at h ⊢;cases e3:(m.Kind==3&&c.State==5&&!(m.Who==c.Who)) with
   |true=>rw[e3]at h;cases h
   |false=>
    rw[e3]at h;simp only[yaa]at h ⊢;cases e4:!(c2a c m) with
    |true=>rw[e4]at h;cases h
    |false=>
     simp only[yaa];cases (a0z m.Kind==2) with
     |true=>exact b2
     |false=>
      simp only[yaa];cases (a0z m.Kind==4||(a0z m.Kind==5||a0z m.Kind==8)) with
      |true=>exact b1
      |false=>
       simp only[yaa];cases e5:(a0z m.Kind==6) with
       |true=>exact b1
       |false=>
        simp only[yaa];cases (a0z m.Kind==9||a0z m.Kind==10) with
        |true=>exact b1
        |false=>exact b1
def b7f:∀{l:List Move} {i:Nat} {item:Int} {c d:Custody},a6u c→a0n i l item c=.inl d→a6u d:=by
 intro l
 induction l with
 |nil=>intro i item c d hc h;simp only[a0n]at h;cases h;exact hc
 |cons x l ih=>
  intro i item c d hc h;simp only[a0n]at h;cases e:x.Item==item with
  |false=>rw[e]at h;exact ih hc h
  |true=>
   rw[e]at h;simp only[yac]at h;cases e2:(s8 c x).2==0 with
   |true=>rw[e2]at h;exact ih (a9i e2) h
   |false=>rw[e2]at h;cases h
def b57 {c:Circ} {x:Item} (h:a1e c x=true):a6u x.Custody:=by
 unfold a1e at h;simp only[yan,yai,yay,ya6]at h;obtain ⟨h1,h2⟩:=h;have e:=a2c.1 h2;rw[←e];unfold a00 at h1 ⊢;cases hb:(decide (x.Branch<1)||decide (4<x.Branch)) with
 |true=>rw[hb]at h1;cases h1
 |false=>
  rw[hb]at h1;simp only[yaa]at h1 ⊢;have hb2:a6u (b13 x.Branch):=by
   simp only[yai,yaf]at hb;show rng 1 4 x.Branch=true
   rw[a0a];omega
  cases hr:a0n 0 c.Moves x.ID (b13 x.Branch) with
  |inl d=>exact b7f hb2 hr
  |inr p=>
   rw[hr]at h1;exfalso;obtain ⟨i,e⟩:=p;simp only at h1;have key:∀(l:List Move) (i:Nat) (c:Custody) (p:Int×Int),a0n i l x.ID c=.inr p→p.2≠0:=by
    intro l
    induction l with
    |nil=>intro i c p h;simp only[a0n]at h;cases h
    |cons y l ih=>
     intro i c p h;simp only[a0n]at h;cases e:y.Item==x.ID with
     |false=>rw[e]at h;exact ih _ _ _ h
     |true=>
      rw[e]at h;simp only[yac]at h;cases e2:(s8 c y).2==0 with
      |true=>rw[e2]at h;exact ih _ _ _ h
      |false=>rw[e2]at h;cases h;simpa using e2
   exact key _ _ _ _ hr h1
def b0p {c:Circ} (h:FitP c) {x:Item} (hx:x∈c.Items):rng 1 4 x.Custody.Branch=true:=b57 (a7s h.items hx)
def e4k {c:Circ} (h:FitP c) {item:Int} {n:Loan} (hn:c.Loans.find? (λn=>n.Item==item)=some n):n∈c.Loans∧n.Item=item:=⟨yaW hn,by have:=ybs hn;simpa using this⟩
def b0v {c:Circ} (h:FitP c) {n:Loan} (hn:n∈c.Loans):∃x p,c.Items.find? (λx=>x.ID==n.Item)=some x∧x∈c.Items∧x.ID=n.Item∧a3g c.Patrons n.Patron=(p,true)∧p.ID=n.Patron∧a3h x.Custody=true∧x.Custody.Who=n.Patron:=by
 have hg:=h.loanG n hn;unfold a3p at hg;cases hf:c.Items.find? (λx=>x.ID==n.Item) with
 |none=>rw[hf]at hg;cases hg
 |some x=>
  rw[hf]at hg;simp only[yan,yai,yay,ya6]at hg;obtain ⟨⟨g1,g2⟩,g3⟩:=hg;unfold a3g at g1 ⊢;cases hp:c.Patrons.find? (λp=>p.ID==n.Patron) with
  |none=>rw[hp]at g1;cases g1
  |some p=>exact ⟨x,p,rfl,yaW hf,by have:=ybs hf;simpa using this,rfl,by have:=ybs hp;simpa using this,g2,g3⟩
def f5x {l:List Patron} {id:Int} {p:Patron} (h:a3g l id=(p,true)):p∈l∧p.ID=id:=by
 unfold a3g at h;cases hp:l.find? (λp=>p.ID==id) with
 |none=>rw[hp]at h;cases h
 |some q=>rw[hp]at h;cases h;exact ⟨yaW hp,by have:=ybs hp;simpa using this⟩
def e1e {l:List Rule} {p it br:Int}:a7e l (f2y l p it br):=by
 have key:∀(m:List Rule) (i:Nat) (b:Int),i+m.length=l.length→a7e l b→a7e l (a3s (σ:=Int) (β:=Int) (λi x b=>.inl (c3a l p it br i x b)) (λb=>b) i m b):=by
  intro m
  induction m with
  |nil=>intro i b _ h;exact h
  |cons x m ih=>intro i b hi h;simp only[a3s];simp only[yaQ]at hi;exact ih _ _ (by omega) (b25 h (by omega))
 exact key l 0 (-1) (by omega) (.inl (by omega))
def b59 {c:Circ} (hs:Short c) {p:Int} {x:Item}:∃r b,qdd c p x=some (r,b)∧(b=true→r∈c.Rules):=by
 unfold qdd;rw[a5v hs.patrons];dsimp only;cases (a3g c.Patrons p).2 with
 |false=>exact ⟨_,false,rfl,λh=>by cases h⟩
 |true=>
  simp only[yak,yaa];unfold qgp;rw[g48 hs.rules];dsimp only;rcases e1e (l:=c.Rules) (p:=(a3g c.Patrons p).1.Kind) (it:=x.Kind) (br:=x.Branch) with h|⟨k,hk,hlt⟩
  ·rw[show decide (f2y c.Rules (a3g c.Patrons p).1.Kind x.Kind x.Branch<0)=true by rw[yad];exact h];exact ⟨_,false,rfl,λh=>by cases h⟩
  ·rw[hk,show decide ((k:Int)<0)=false by rw[yaf];omega];simp only[yaa,d9,yab hlt];exact ⟨_,true,rfl,λ_=>ybB hlt⟩
end
section
def d0w {l:List Loan} {item due:Int} (h:(a7x l item due).2=0) (hl:l.length<1000000000):(a7x l item due).1.length<1000000000:=by
 unfold a7x at h ⊢;cases hf:l.find? (λn=>n.Item==item) with
 |none=>rw[hf]at h;cases h
 |some x=>
  rw[hf]at h;simp only at h ⊢;cases x.Recalled with
  |true=>simp
  |false=>
   simp only[yaa]at h ⊢;unfold i6z at h ⊢;cases (!(o5 (l.set (a68 (λn=>n.Item==item) l).toNat ⟨x.Item,x.Patron,x.Out,due,wr .i64 (x.Renewals+1),false⟩)==0)) with
   |true=>simp
   |false=>simp;exact hl
def a7k {c:Circ} {l:List Loan} (hs:Short c) (hl:l.length<1000000000):Short (j6 c l):=by
 obtain ⟨h1,h2,h3,h4,h5,h6,h7,h8,h9,h10,h11,h12,h13⟩:=hs;exact ⟨h1,h2,hl,h4,h5,h6,h7,h8,h9,h10,h11,h12,h13⟩
def a73 {α β:Type} {step:α→Option (α⊕β)} (Inv:α→Prop) (μ:α→Nat) (h:∀a,Inv a→(∃a',step a=some (.inl a')∧Inv a'∧μ a'<μ a)∨∃b,step a=some (.inr b)) {a:α} (ha:Inv a) (hm:μ a<c2q):∃r,c6 step a=some r:=by
 have key:∀n a,Inv a→μ a<n→∃r,o9 step n a=some r:=by
  intro n
  induction n with
  |zero=>intro a _ h;omega
  |succ n ih=>
   intro a hi hn;simp only[o9];rcases h a hi with ⟨a',h1,h2,h3⟩|⟨b,h1⟩
   ·rw[h1];exact ih a' h2 (by omega)
   ·rw[h1];exact ⟨b,rfl⟩
 exact key c2q a ha hm
def b4t {c:Calendar} (hc:CalOk c) (d:Int):∃a b,qa6 c d=some (a,b):=by
 obtain ⟨r,hr⟩:=a73 (step:=a97) (λa=>0≤a.1∧a.2.1=c) (λa=>(109573-a.1).toNat) (by
  rintro ⟨d,c',_⟩ ⟨h0,(rfl:c'=c)⟩;simp only at h0;simp only[a97,d0r hc];by_cases hq:d≤109572
  ·rw[show decide (d≤109572)=true by rw[yad];exact hq];simp only[yac];cases a69 c' d with
   |true=>exact .inr ⟨_,rfl⟩
   |false=>
    simp only[yaa];rw[a0l (by omega) (by omega)];exact .inl ⟨_,rfl,⟨by show 0≤d+1;omega,rfl⟩,by show (109573-(d+1)).toNat<(109573-d).toNat;omega⟩
  ·rw[show decide (d≤109572)=false by rw[yaf];exact hq];exact .inr ⟨_,rfl⟩) (a:=((if d<0 then 0 else d),c,())) ⟨by show 0≤if d<0 then 0 else d;split<;>omega,rfl⟩ (by rw[o4];show (109573-if d<0 then 0 else d).toNat<_;split<;>omega)
 unfold qa6;rw[hr];rcases r with _|⟨a,b,_⟩
 ·exact ⟨_,_,rfl⟩
 ·exact ⟨_,_,rfl⟩
def c8g {c:Calendar} (hc:CalOk c) (d:Int):∃a b,qb0 c d=some (a,b):=by
 obtain ⟨r,hr⟩:=a73 (step:=b8t) (λa=>a.1≤109572∧a.2.1=c) (λa=>(a.1+1).toNat) (by
  rintro ⟨d,c',_⟩ ⟨h0,(rfl:c'=c)⟩;simp only at h0;simp only[b8t,d0r hc];by_cases hq:0≤d
  ·rw[show decide (0≤d)=true by rw[yad];exact hq];simp only[yac];cases a69 c' d with
   |true=>exact .inr ⟨_,rfl⟩
   |false=>
    simp only[yaa];rw[a0l (by omega) (by omega)];exact .inl ⟨_,rfl,⟨by show d-1≤109572;omega,rfl⟩,by show (d-1+1).toNat<(d+1).toNat;omega⟩
  ·rw[show decide (0≤d)=false by rw[yaf];exact hq];exact .inr ⟨_,rfl⟩) (a:=((if 109572<d then 109572 else d),c,())) ⟨by show (if 109572<d then 109572 else d)≤109572;split<;>omega,rfl⟩ (by rw[o4];show ((if 109572<d then 109572 else d)+1).toNat<_;split<;>omega)
 unfold qb0;rw[hr];rcases r with _|⟨a,b,_⟩
 ·exact ⟨_,_,rfl⟩
 ·exact ⟨_,_,rfl⟩
def a1t {α β:Type} {b:Bool} {x y:Option (α×β)} (hx:∃u v,x=some (u,v)) (hy:∃u v,y=some (u,v)):∃u v,(bif b then x else y)=some (u,v):=by
 cases b
 ·exact hy
 ·exact hx
def c01 {r:Rule} {c:Calendar} (hc:CalOk c) (day u:Int):∃a b,qfc r c day u=some (a,b):=by
 have core:∀last:Int,∃a b,(bif decide (last≤day) then (some (0,15):Option (Int×Int)) else match qa6 c (if last<wr .i64 (day+r.Days) then last else wr .i64 (day+r.Days)) with
  |some (r6,r7)=>(bif (!(r7==0)||decide (last<r6)) then (match qb0 c last with
   |some (r10,r11)=>(bif (!(r11==0)||decide (r10≤day)) then some (0,15) else some (r10,0))
   |none=>none) else (bif (!(r7==0)||decide (r6≤day)) then some (0,15) else some (r6,0)))
  |none=>none)=some (a,b):=by
  intro last;refine a1t ⟨_,_,rfl⟩ ?_;obtain ⟨a,b,h⟩:=b4t hc (if last<wr .i64 (day+r.Days) then last else wr .i64 (day+r.Days));obtain ⟨a2,b2,h2⟩:=c8g hc last;rw[h,h2];simp only;exact a1t (a1t ⟨_,_,rfl⟩ ⟨_,_,rfl⟩) (a1t ⟨_,_,rfl⟩ ⟨_,_,rfl⟩)
 unfold qfc;simp -zeta only[e7h,a0x,s9];dsimp only;refine a1t ⟨_,_,rfl⟩ (a1t ⟨_,_,rfl⟩ ?_);refine a1t ?_ ?_
 ·exact core _
 ·exact core _
def d9s {r:Rule} {c:Calendar} (hc:CalOk c) (n:Loan) (day u:Int):∃a b,qf2 r c n day u=some (a,b):=by
 unfold qf2;simp -zeta only[a0x];dsimp only;refine a1t ⟨_,_,rfl⟩ ?_;obtain ⟨a,b,h⟩:=c01 (r:=r) hc day u;rw[h];simp only;exact a1t ⟨_,_,rfl⟩ (a1t ⟨_,_,rfl⟩ ⟨_,_,rfl⟩)
def b1d (a b:Option (Circ×Int×Int)):Prop:=∃c n e,a=some (c,n,e)∧b=some (c,n,e)∧Short c
def w8 {e:Int}:b1d (some (z8,0,e)) (some (z8,0,e)):=⟨_,_,_,rfl,rfl,c6t⟩
def d0x {c:Circ} {item:Int} (hs:Short c) (h:FitP c):b1d (qcn c item) (qb1 c item):=by
 unfold qcn qb1;rw[g5g hs.loans,e7o hs.loans];cases hn:c.Loans.find? (λn=>n.Item==item) with
 |none=>
  have e:a3u c.Loans item=((⟨0,0,0,0,0,false⟩:Loan),false):=by unfold a3u;rw[hn]
  rw[e];rw[f9r hs.items];exact w8
 |some n=>
  obtain ⟨hm,hit⟩:=e4k h hn;have e:a3u c.Loans item=(n,true):=by unfold a3u;rw[hn]
  obtain ⟨x,p,hx,hxm,hxi,hp,hpi,hw,hwho⟩:=b0v h hm;rw[hit]at hx;rw[e];rcases b2m (item:=item) hs.items with ⟨q1,q2⟩|⟨i,y,q1,q2,q3,q4⟩
  ·rw[hx]at q2;cases q2
  ·rw[hx]at q4;cases q4
   have q1':qn c item=some (i:Int):=by rw[c2b hs.items,←f9r hs.items,q1]
   have hb:=b0p h hxm;simp -zeta only[q1,q1',q2,d9,a4i,yak,yaa,Bool.or_self,a0x,a91];dsimp only;simp only[yaa];cases hst:x.Custody.State==4 with
   |false=>exact w8
   |true=>
    simp only[yak,yaa,d53 hs.patrons,hp,g5k hs h.charges,g5t hs h.charges,hpi];cases decide (0<((a43 p c.Today (a8s n.Patron c.Charges) (c1k n.Patron c.Today c.Loans)).length:Int)) with
    |true=>exact w8
    |false=>
     have hc:=e7m (p:=λ(g:Unit×Circ×Item×Unit) x0=>qda x0 g.2.1 g.2.2.1) (g:=((),(c,x,()))) (λh=>h.State==1&&decide (h.Asleep≤c.Today)&&(h.Record==x.Record&&(h.Item==0||h.Item==x.ID))) hs.holds (λh _=>i5e h c x);have hl10:=b5h (item:=item) (n:=n) (x:=x) hs;simp only[yaa,hc];rw[show c.Holds.any (λh=>h.State==1&&decide (h.Asleep≤c.Today)&&(h.Record==x.Record&&(h.Item==0||h.Item==x.ID)))=a6c c x from rfl];rw[show c6 a60 (item,0,c,ZN,n,x,())=_ from hl10];cases a6c c x with
     |true=>exact w8
     |false=>
      obtain ⟨r,b,hr,hrm⟩:=b59 (p:=n.Patron) (x:=x) hs;simp only[yaa,c18 hs,hr,a5v hs.patrons,hp];cases b with
      |false=>exact w8
      |true=>
       simp only[yak,yaa,c67 hb,e7y hb,h5x (a8v h _) (c2c h (hrm rfl))];obtain ⟨due,err,hq⟩:=d9s (r:=r) (a8v h x.Custody.Branch) n c.Today p.Until;rw[hq]
       ·simp only;cases he:err==0 with
        |false=>exact w8
        |true=>
         simp only[yak,yaa,qdl,i56 hs.loans,g5v hs.loans];cases hrl:a7x c.Loans item due with
         |mk l e2=>
          simp only;by_cases h2:e2=0
          ·subst h2;have hlen:=d0w (l:=c.Loans) (item:=item) (due:=due) (by rw[hrl]) hs.loans;rw[hrl]at hlen;exact ⟨j6 c l,due,0,rfl,rfl,a7k hs hlen⟩
          ·have h3:(e2==0)=false:=by simpa using h2
           rw[a8p c l e2 h2];simp only[h3,yas,yac,qcm];exact w8
end
section
def c4a (l:List Hold) (id:Int):Hold×Bool:=match l.find? (λh=>h.ID==id) with|some h=>(h,true)|none=>(a96,false)
def g5z {l:List Hold} {id:Int} (hl:l.length<1000000000):qfb l id=some (c4a l id):=by
 unfold qfb qa5 c4a;rw[b8w (p:=λ(g:Unit×Int×Unit) x0=>qes x0 g.2.1) (g:=((),(id,()))) (λx=>x.ID==id) hl (λx _=>rfl)];rcases p7 (λx:Hold=>x.ID==id) l with ⟨h1,h2⟩|⟨i,x,h1,h2,h3,h4⟩
 ·simp only[h1,h2]
  try rfl
 ·have d:decide ((0:Int)≤(i:Int))=true:=by rw[yad];omega
  simp only[h1,h4,d,yac,d9,h2]
def b8o {l:List Hold} {id:Int} (hl:l.length<1000000000):qaj l id=some (c4a l id):=by
 unfold qaj c4a;have h:=w9 (step:=b8n) (λi=>(l,id,(i:Int),a96,())) l (λx=>x.ID==id) (λ_ x=>(.inr (true,x,()):(Hold×Unit)⊕(Bool×Hold×Unit))) (.inl (a96,())) hl
  (by simp only[b8n,dge,yaa])
  (λi x hx=>by
   have hi:=(zL hx)
   simp only[b8n,dlt hi,d9,hx,yac,wS i])
 rw[show c6 b8n (l,id,0,(⟨0,0,0,0,0,0,0,0,0,0,0⟩:Hold),())=_ from h,b0o];cases l.find? (λx=>x.ID==id)<;>rfl
def c72 {α β γ:Type} {s1:α→Option (α⊕β)} {s2:γ→Option (γ⊕β)} (Inv:α→Prop) (φ:α→γ)
 (h:∀a,Inv a→s2 (φ a)=(match s1 a with|none=>none|some (.inl b)=>some (.inl (φ b))|some (.inr b)=>some (.inr b)))
 (hi:∀a b,Inv a→s1 a=some (.inl b)→Inv b) {a:α} (ha:Inv a):c6 s2 (φ a)=c6 s1 a:=by
 have key:∀n a,Inv a→o9 s2 n (φ a)=o9 s1 n a:=by
  intro n
  induction n with
  |zero=>intro a _;rfl
  |succ n ih=>
   intro a ha;simp only[o9];rw[h a ha];cases hs:s1 a with
   |none=>rfl
   |some x=>
    cases x with
    |inl b=>exact ih b (hi a b ha hs)
    |inr b=>rfl
 exact key c2q a ha
def e7f {c:Calendar} (hc:CalOk c) (day n:Int):qbx c day n=qb3 c day n:=by
 have hw:c6 b5j (n,day,0,c,())=c6 b89 (day,n,0,c,()):=by
  refine c72 (s1:=b89) (s2:=b5j) (λa=>a.2.2.2.1=c) (λa=>(a.2.1,a.1,a.2.2.1,a.2.2.2.1,())) ?_ ?_ (a:=(day,n,0,c,())) rfl
  ·rintro ⟨d,n,i,c',_⟩ (rfl:c'=c);simp only[b89,b5j,e76 hc];cases decide (i<n) with
   |false=>rfl
   |true=>
    simp only[yac];cases qa6 c' (wr .i64 (d+1)) with
    |none=>rfl
    |some p=>
     obtain ⟨a,b⟩:=p;simp only;cases !(b==0)<;>rfl
  ·rintro ⟨d,n,i,c',_⟩ b (rfl:c'=c) hb;simp only[b89]at hb;cases hq:decide (i<n) with
   |false=>rw[hq]at hb;cases hb
   |true=>
    rw[hq]at hb;simp only[yac]at hb;cases hn:qw c' (wr .i64 (d+1)) with
    |none=>rw[hn]at hb;cases hb
    |some p=>
     obtain ⟨a,b2⟩:=p;rw[hn]at hb;simp only at hb;cases he:!(b2==0) with
     |true=>rw[he]at hb;cases hb
     |false=>rw[he]at hb;cases hb;rfl
 unfold qbx qb3;simp -zeta only[a0x,e7n,e76 hc];dsimp only;rw[hw,←a3q 0 109572]
 try rfl
end
section
def h3w {c:Circ} (h:FitP c) {x:Item} (hx:x∈c.Items):1≤x.ID∧x.ID≤9999:=by
 have h:=h.items;unfold a1h at h;simp only[yae]at h;obtain ⟨i,hi⟩:=yaw hx;have:=(a4c.1 h.2.1) i x hi;rw[yaI]at this;simp only[yan,yai,yay]at this;have h2:=this.1;unfold a0f at h2;simp only[yae,a0a]at h2;omega
def i4b:Loan:=⟨0,0,0,0,0,false⟩
def h3p (h:Hold) (x:Item):Bool:=h.Record==x.Record&&(h.Item==0||h.Item==x.ID)
def i5k (h:Hold) (x:Item):qdy h x=some (h3p h x):=by
 unfold qdy h3p;simp -zeta only[a0x,s9]
 try rfl
def b0t {c:Calendar} (hc:CalOk c) (d n:Int):∃a b,qb3 c d n=some (a,b):=by
 unfold qb3;simp -zeta only[a0x];dsimp only;cases hb:(decide (n<0)||decide (1000<n)) with
 |true=>exact ⟨_,_,rfl⟩
 |false=>
  simp only[yai,yaf]at hb;simp only[yaa];refine a1t ⟨_,_,rfl⟩ (a1t ?_ ?_)
  ·obtain ⟨a,b,h⟩:=b4t hc d;rw[h];exact ⟨_,_,rfl⟩
  ·obtain ⟨r,hr⟩:=a73 (step:=b5j) (λa=>a.1=n∧0≤a.2.2.1∧a.2.2.2.1=c) (λa=>(n-a.2.2.1).toNat) (by
    rintro ⟨n',d,i,c',_⟩ ⟨(rfl:n'=n),h0,(rfl:c'=c)⟩;simp only at h0;simp only[b5j];by_cases hq:i<n'
    ·rw[show decide (i<n')=true by rw[yad];exact hq];obtain ⟨a,b,h⟩:=b4t hc (wr .i64 (d+1));simp only[yac,h];cases !(b==0) with
     |true=>exact .inr ⟨_,rfl⟩
     |false=>
      simp only[yaa];rw[a0l (n:=i+1) (by omega) (by omega)];exact .inl ⟨_,rfl,⟨rfl,by show 0≤i+1;omega,rfl⟩,by show (n'-(i+1)).toNat<(n'-i).toNat;omega⟩
    ·rw[show decide (i<n')=false by rw[yaf];exact hq];exact .inr ⟨_,rfl⟩) (a:=(n,d,0,c,())) ⟨rfl,by show (0:Int)≤0;omega,rfl⟩ (by rw[o4];show (n-0).toNat<_;omega)
   rw[hr];rcases r with ⟨a,_⟩|⟨a,b,_⟩
   ·exact ⟨_,_,rfl⟩
   ·exact ⟨_,_,rfl⟩
end
section
def b1z {X:Type} (lt:X→X→Bool) (y:X):List X→List X→List X
 | [],rest=>y::rest
 |z::zs,rest=>bif lt y z then b1z lt y zs (z::rest) else zs.reverse++z::y::rest
def e41 {X:Type} {lt:X→X→Bool} {y:X}:∀{r rest more:List X},b1z lt y r (rest++more)=b1z lt y r rest++more:=by
 intro r
 induction r with
 |nil=>intro rest more;rfl
 |cons z zs ih=>
  intro rest more;simp only[b1z];cases lt y z with
  |true=>simp only[yac];rw[←ybA,ih]
  |false=>simp
def d74 {X:Type} {lt:X→X→Bool} {y:X}:∀{B A rest:List X},(∀b∈B,lt y b=true)→(∀a∈A,lt y a=false)→b1z lt y (B++A) rest=A.reverse++y::(B.reverse++rest):=by
 intro B
 induction B with
 |nil=>
  intro A rest _ hA;cases A with
  |nil=>rfl
  |cons a A=>simp only[yaU,b1z,hA a (yaK ..),yaa,List.reverse_cons,yaX,List.reverse_nil];rfl
 |cons b B ih=>
  intro A rest hB hA;simp only[ybA,b1z,hB b (yaK ..),yac];rw[ih (λb hb=>hB b (yaN _ hb)) hA];simp
def atP {X:Type} {pre l:List X} {k:Nat}:(pre++l)[pre.length+k]?=l[k]?:=by
 rw[yaF (by omega)];congr 1;omega
def g41 {X:Type} {pre l:List X} {k:Nat} {x:X}:(pre++l).set (pre.length+k) x=pre++l.set k x:=by
 rw[List.set_append_right _ _ (by omega)];congr 2;omega
section
variable {γ:Type} {p:γ→Hold→Hold→Option Int} {g:γ} {lt:Hold→Hold→Bool}
def h3u (hp:∀y z,∃n,p g y z=some n∧decide (n<0)=lt y z) {b i:Int} {pre:List Hold} (hpre:pre.length<100000):∀(r:List Hold) (y:Hold) (rest:List Hold),r.length<100000→
 o9 (d9j p) (r.length+1) ((pre.length:Int),b,g,i,((pre.length+r.length:Nat):Int),pre++(r.reverse++y::rest),())=some ((pre.length:Int),b,g,i,pre++b1z lt y r rest,()):=by
 intro r
 induction r with
 |nil=>
  intro y rest _;have d:decide ((pre.length:Int)<((pre.length+0:Nat):Int))=false:=by rw[yaf];omega
  simp only[ybh,o9,b1z,d9j,d]
  try rfl
 |cons z zs ih=>
  intro y rest hl;simp only[yaQ]at hl;obtain ⟨n,h1,h2⟩:=hp y z;have d:decide ((pre.length:Int)<((pre.length+(zs.length+1):Nat):Int))=true:=by rw[yad];omega
  have w:wr .i64 (((pre.length+(zs.length+1):Nat):Int)-1)=((pre.length+zs.length:Nat):Int):=by
   rw[a0l (by omega) (by omega)];omega
  have e:(z::zs).reverse++y::rest=zs.reverse++z::y::rest:=by simp
  have gy:(zs.reverse++z::y::rest)[zs.length+1]?=some y:=by rw[yaF (by simp)];simp
  have gz:(zs.reverse++z::y::rest)[zs.length]?=some z:=by rw[yaF (by simp)];simp
  have s1:(zs.reverse++z::y::rest).set (zs.length+1) z=zs.reverse++z::z::rest:=by
   rw[List.set_append_right _ _ (by simp)];simp
  have gz2:(zs.reverse++z::z::rest)[zs.length]?=some z:=by rw[yaF (by simp)];simp
  have s2:(zs.reverse++z::z::rest).set zs.length y=zs.reverse++y::z::rest:=by
   rw[List.set_append_right _ _ (by simp)];simp
  rw[o9,e];simp only[yaQ,d9j,d,yac,w,d9,yaB,atP,gy,gz,h1,h2,g41,s1,gz2,s2,b1z];cases lt y z with
  |true=>simp only[yac];exact ih y (z::rest) (by omega)
  |false=>rfl
def a5i (lt:Hold→Hold→Bool) (l:List Hold):List Hold:=l.foldl (λpre y=>b1z lt y pre.reverse []) []
def a6p {l:List Hold} {y:Hold}:a5i lt (l++[y])=b1z lt y (a5i lt l).reverse []:=by
 unfold a5i;rw[List.foldl_append];rfl
def c9m {y:Hold}:∀{r rest:List Hold},(b1z lt y r rest).length=r.length+1+rest.length:=by
 intro r
 induction r with
 |nil=>intro rest;simp[b1z];omega
 |cons z zs ih=>
  intro rest;simp only[b1z];cases lt y z with
  |true=>simp only[yac];rw[ih];simp;omega
  |false=>simp;omega
def a71:∀{l:List Hold},(a5i lt l).length=l.length:=by
 have key:∀(l pre:List Hold),(l.foldl (λpre y=>b1z lt y pre.reverse []) pre).length=pre.length+l.length:=by
  intro l
  induction l with
  |nil=>intro pre;rfl
  |cons y l ih=>intro pre;rw[ybp,ih,c9m];simp;omega
 intro l;unfold a5i;rw[key];simp
def f93 (hp:∀y z,∃n,p g y z=some n∧decide (n<0)=lt y z) {pre l rest:List Hold} (hpre:pre.length<100000) (hl:l.length<100000):∀(k i:Nat),i+k=l.length→
 o9 (d0l p) (k+1) ((pre.length:Int),((pre.length+l.length:Nat):Int),g,((pre.length+i:Nat):Int),pre++(a5i lt (l.take i)++(l.drop i++rest)),())=some (pre++(a5i lt l++rest),()):=by
 intro k
 induction k with
 |zero=>
  intro i hi;have:i=l.length:=by omega
  subst this;simp only[o9,d0l,dge,yaa,List.take_length,List.drop_length,yaU]
 |succ k ih=>
  intro i hi;have hlt:i<l.length:=by omega
  have d:decide (((pre.length+i:Nat):Int)<((pre.length+l.length:Nat):Int))=true:=by rw[yad];omega
  have hlen:(a5i lt (l.take i)).length=i:=by rw[a71,yaH];omega
  have hr:=h3u (p:=p) (g:=g) (lt:=lt) hp (b:=((pre.length+l.length:Nat):Int)) (i:=((pre.length+i:Nat):Int)) hpre (a5i lt (l.take i)).reverse l[i] (l.drop (i+1)++rest) (by rw[List.length_reverse,hlen];omega);rw[List.length_reverse,List.reverse_reverse,hlen,←ybA,←yby hlt]at hr;have hw:c6 (d9j p) ((pre.length:Int),((pre.length+l.length:Nat):Int),g,((pre.length+i:Nat):Int),((pre.length+i:Nat):Int),pre++(a5i lt (l.take i)++(l.drop i++rest)),())=_:=o8 (i+1) (by rw[o4];omega) hr;rw[o9];simp only[d0l,d,yac,hw,a0c (show pre.length+i<9223372036854775807 by omega)];have e:b1z lt l[i] (a5i lt (l.take i)).reverse (l.drop (i+1)++rest)=a5i lt (l.take (i+1))++(l.drop (i+1)++rest):=by
   have:=e41 (lt:=lt) (y:=l[i]) (r:=(a5i lt (l.take i)).reverse) (rest:=[]) (more:=l.drop (i+1)++rest);rw[yaU]at this;rw[this,List.take_succ_eq_append_getElem hlt,a6p]
  rw[e];exact ih (i+1) (by omega)
def e42 (hp:∀y z,∃n,p g y z=some n∧decide (n<0)=lt y z) {pre l rest:List Hold} (hpre:pre.length<100000) (hl:l.length<100000) :
 qo p (pre++(l++rest)) (pre.length:Int) ((pre.length+l.length:Nat):Int) g=some (pre++(a5i lt l++rest)):=by
 unfold qo;have hw:c6 (d0l p) ((pre.length:Int),((pre.length+l.length:Nat):Int),g,wr .i64 ((pre.length:Int)+1),pre++(l++rest),())=some (pre++(a5i lt l++rest),()):=by
  rw[a0c (by omega)];cases l with
  |nil=>
   refine o8 1 (by rw[o4];omega) ?_;have d:decide (((pre.length+1:Nat):Int)<((pre.length+0:Nat):Int))=false:=by rw[yaf];omega
   simp only[o9,d0l,ybh,d,yaa]
   try rfl
  |cons y m=>
   have:=f93 (p:=p) (g:=g) (lt:=lt) hp (pre:=pre) (l:=y::m) (rest:=rest) hpre hl m.length 1 (by simp only[yaQ];omega);exact o8 (m.length+1) (by rw[o4];simp only[yaQ]at hl;omega) this
 rw[hw]
def h9u (hp:∀y z,∃n,p g y z=some n∧decide (n<0)=lt y z) {l:List Hold} (hl:l.length<20):qej p l g=some (a5i lt l):=by
 have h1:c6 (d9k p) ((l.length:Int),g,20,0,20,l,())=some ((l.length:Int),g,20,0,l,()):=by
  refine o8 1 (by rw[o4];omega) ?_;have d:decide ((20:Int)≤(l.length:Int))=false:=by rw[yaf];omega
  simp only[o9,d9k,d,yaa]
 have h2:∀m:List Hold,c6 (d0m p) ((l.length:Int),g,20,m,())=some (m,()):=λm=>by
  refine o8 1 (by rw[o4];omega) ?_;have d:decide ((20:Int)<(l.length:Int))=false:=by rw[yaf];omega
  simp only[o9,d0m,d,yaa]
 have h3:qo p l 0 (l.length:Int) g=some (a5i lt l):=by
  have:=e42 (p:=p) (g:=g) (lt:=lt) hp (pre:=[]) (l:=l) (rest:=[]) (by simp) (by omega);simpa using this
 unfold qej qp;rw[h1];simp only[h3,h2]
end
end
section
def rk (k:Int) (l:List Hold):List Hold:=l.filter (λx=>x.Rank==k)
def ltR (y z:Hold):Bool:=decide (z.Rank<y.Rank)
def o7 (l:List Hold):List Hold:=rk 9 l++(rk 8 l++(rk 7 l++(rk 6 l++(rk 5 l++(rk 4 l++(rk 3 l++(rk 2 l++(rk 1 l++rk 0 l))))))))
def b9w {k:Int} {l:List Hold} {x:Hold} (h:x∈rk k l):x.Rank=k:=by
 unfold rk at h;rw[yaD]at h;simpa using h.2
def a6a (k:Int) (l:List Hold) (y:Hold):rk k (l++[y])=rk k l++(bif y.Rank==k then [y] else []):=by
 unfold rk;rw[List.filter_append,ybq];cases y.Rank==k<;>simp
def e43 {A B:List Hold} {y:Hold} (hA:∀a∈A,y.Rank≤a.Rank) (hB:∀b∈B,b.Rank<y.Rank):b1z ltR y (A++B).reverse []=A++y::B:=by
 rw[List.reverse_append,d74 (by intro b hb;rw[List.mem_reverse]at hb;unfold ltR;rw[yad];exact hB b hb) (by intro a ha;rw[List.mem_reverse]at ha;unfold ltR;rw[yaf];have:=hA a ha;omega)];simp
def b6l:∀(m:List Hold) (l:List Hold),l=m.reverse→(∀x∈l,rng 0 9 x.Rank=true)→a5i ltR l=o7 l:=by
 intro m
 induction m with
 |nil=>intro l h _;subst h;rfl
 |cons y m ih=>
  intro l h hr;rw[List.reverse_cons]at h;subst h;have hy:=a0a.1 (hr y (by simp));rw[a6p,ih m.reverse rfl (λx hx=>hr x (by simp at hx ⊢;exact .inl hx))];generalize m.reverse=l;have hc:y.Rank=0∨y.Rank=1∨y.Rank=2∨y.Rank=3∨y.Rank=4∨y.Rank=5∨y.Rank=6∨y.Rank=7∨y.Rank=8∨y.Rank=9:=by omega
  have mid:∀(A B:List Hold),o7 l=A++B→(∀a∈A,y.Rank≤a.Rank)→(∀b∈B,b.Rank<y.Rank)→b1z ltR y (o7 l).reverse []=A++y::B:=λA B e hA hB=>by rw[e];exact e43 hA hB
  have mm:∀(k:Int) (x:Hold),x∈rk k l→x.Rank=k:=λk x h=>b9w h
  rcases hc with h|h|h|h|h|h|h|h|h|h
  ·rw[mid (rk 9 l++(rk 8 l++(rk 7 l++(rk 6 l++(rk 5 l++(rk 4 l++(rk 3 l++(rk 2 l++(rk 1 l++rk 0 l))))))))) [] (by simp[o7]) (by intro a ha;simp only[yat]at ha;rcases ha with h|h|h|h|h|h|h|h|h|h<;>(have:=mm _ _ h;omega)) (by intro b hb;cases hb)];simp[o7,a6a,h]
  ·rw[mid (rk 9 l++(rk 8 l++(rk 7 l++(rk 6 l++(rk 5 l++(rk 4 l++(rk 3 l++(rk 2 l++rk 1 l)))))))) (rk 0 l) (by simp[o7]) (by intro a ha;simp only[yat]at ha;rcases ha with h|h|h|h|h|h|h|h|h<;>(have:=mm _ _ h;omega)) (by intro b hb;have:=mm _ _ hb;omega)];simp[o7,a6a,h]
  ·rw[mid (rk 9 l++(rk 8 l++(rk 7 l++(rk 6 l++(rk 5 l++(rk 4 l++(rk 3 l++rk 2 l))))))) (rk 1 l++rk 0 l) (by simp[o7]) (by intro a ha;simp only[yat]at ha;rcases ha with h|h|h|h|h|h|h|h<;>(have:=mm _ _ h;omega)) (by intro b hb;simp only[yat]at hb;rcases hb with h|h<;>(have:=mm _ _ h;omega))];simp[o7,a6a,h]
  ·rw[mid (rk 9 l++(rk 8 l++(rk 7 l++(rk 6 l++(rk 5 l++(rk 4 l++rk 3 l)))))) (rk 2 l++(rk 1 l++rk 0 l)) (by simp[o7]) (by intro a ha;simp only[yat]at ha;rcases ha with h|h|h|h|h|h|h<;>(have:=mm _ _ h;omega)) (by intro b hb;simp only[yat]at hb;rcases hb with h|h|h<;>(have:=mm _ _ h;omega))];simp[o7,a6a,h]
  ·rw[mid (rk 9 l++(rk 8 l++(rk 7 l++(rk 6 l++(rk 5 l++rk 4 l))))) (rk 3 l++(rk 2 l++(rk 1 l++rk 0 l))) (by simp[o7]) (by intro a ha;simp only[yat]at ha;rcases ha with h|h|h|h|h|h<;>(have:=mm _ _ h;omega)) (by intro b hb;simp only[yat]at hb;rcases hb with h|h|h|h<;>(have:=mm _ _ h;omega))];simp[o7,a6a,h]
  ·rw[mid (rk 9 l++(rk 8 l++(rk 7 l++(rk 6 l++rk 5 l)))) (rk 4 l++(rk 3 l++(rk 2 l++(rk 1 l++rk 0 l)))) (by simp[o7]) (by intro a ha;simp only[yat]at ha;rcases ha with h|h|h|h|h<;>(have:=mm _ _ h;omega)) (by intro b hb;simp only[yat]at hb;rcases hb with h|h|h|h|h<;>(have:=mm _ _ h;omega))];simp[o7,a6a,h]
  ·rw[mid (rk 9 l++(rk 8 l++(rk 7 l++rk 6 l))) (rk 5 l++(rk 4 l++(rk 3 l++(rk 2 l++(rk 1 l++rk 0 l))))) (by simp[o7]) (by intro a ha;simp only[yat]at ha;rcases ha with h|h|h|h<;>(have:=mm _ _ h;omega)) (by intro b hb;simp only[yat]at hb;rcases hb with h|h|h|h|h|h<;>(have:=mm _ _ h;omega))];simp[o7,a6a,h]
  ·rw[mid (rk 9 l++(rk 8 l++rk 7 l)) (rk 6 l++(rk 5 l++(rk 4 l++(rk 3 l++(rk 2 l++(rk 1 l++rk 0 l)))))) (by simp[o7]) (by intro a ha;simp only[yat]at ha;rcases ha with h|h|h<;>(have:=mm _ _ h;omega)) (by intro b hb;simp only[yat]at hb;rcases hb with h|h|h|h|h|h|h<;>(have:=mm _ _ h;omega))];simp[o7,a6a,h]
  ·rw[mid (rk 9 l++rk 8 l) (rk 7 l++(rk 6 l++(rk 5 l++(rk 4 l++(rk 3 l++(rk 2 l++(rk 1 l++rk 0 l))))))) (by simp[o7]) (by intro a ha;simp only[yat]at ha;rcases ha with h|h<;>(have:=mm _ _ h;omega)) (by intro b hb;simp only[yat]at hb;rcases hb with h|h|h|h|h|h|h|h<;>(have:=mm _ _ h;omega))];simp[o7,a6a,h]
  ·rw[mid (rk 9 l) (rk 8 l++(rk 7 l++(rk 6 l++(rk 5 l++(rk 4 l++(rk 3 l++(rk 2 l++(rk 1 l++rk 0 l)))))))) (by simp[o7]) (by intro a ha;have:=mm _ _ ha;omega) (by intro b hb;simp only[yat]at hb;rcases hb with h|h|h|h|h|h|h|h|h<;>(have:=mm _ _ h;omega))];simp[o7,a6a,h]
def a0i (record day:Int) (x:Hold):Bool:=x.Record==record&&x.State==1&&decide (x.Asleep≤day)
def f1x (record day:Int) (x:Hold):(x.State==1&&x.Record==record&&decide (x.Asleep≤day))=a0i record day x:=by
 unfold a0i;cases x.Record==record<;>cases x.State==1<;>rfl
def c7c (y z:Hold) (hy:rng 0 9 y.Rank=true) (hz:rng 0 9 z.Rank=true):decide (wr .i64 (z.Rank-y.Rank)<0)=ltR y z:=by
 have h1:=a0a.1 hy;have h2:=a0a.1 hz;rw[a0l (by omega) (by omega)];unfold ltR;rw[decide_eq_decide];omega
def f6a {lt:Hold→Hold→Bool} {y x:Hold}:∀{r rest:List Hold},x∈b1z lt y r rest→x=y∨x∈r∨x∈rest:=by
 intro r
 induction r with
 |nil=>intro rest h;simp only[b1z,yaM]at h;rcases h with h|h<;>simp[h]
 |cons z zs ih=>
  intro rest h;simp only[b1z]at h;cases hb:lt y z with
  |true=>
   rw[hb]at h;rcases ih h with h|h|h
   ·exact .inl h
   ·exact .inr (.inl (yaN _ h))
   ·rcases yaM.1 h with h|h
    ·subst h;exact .inr (.inl (yaK ..))
    ·exact .inr (.inr h)
  |false=>
   rw[hb]at h;simp only[yaa,yat,List.mem_reverse,yaM]at h;rcases h with h|h|h|h
   ·exact .inr (.inl (yaN _ h))
   ·subst h;exact .inr (.inl (yaK ..))
   ·exact .inl h
   ·exact .inr (.inr h)
def d73 {lt lt':Hold→Hold→Bool} {y:Hold}:∀{r rest:List Hold},(∀z∈r,lt y z=lt' y z)→b1z lt y r rest=b1z lt' y r rest:=by
 intro r
 induction r with
 |nil=>intros;rfl
 |cons z zs ih=>
  intro rest h;simp only[b1z];rw[h z (yaK ..),ih (λz hz=>h z (yaN _ hz))]
def f1j {lt lt':Hold→Hold→Bool}:∀(m l:List Hold),l=m.reverse→(∀x∈l,∀y∈l,lt x y=lt' x y)→a5i lt l=a5i lt' l∧∀x∈a5i lt' l,x∈l:=by
 intro m
 induction m with
 |nil=>intro l h _;subst h;exact ⟨rfl,λx hx=>by cases hx⟩
 |cons y m ih=>
  intro l h hc;rw[List.reverse_cons]at h;subst h;obtain ⟨e1,e2⟩:=ih m.reverse rfl (λa ha b hb=>hc a (by simp at ha ⊢;exact .inl ha) b (by simp at hb ⊢;exact .inl hb));rw[a6p,a6p,e1];refine ⟨d73 (λz hz=>hc y (by simp) z ?_),λx hx=>?_⟩
  ·rw[List.mem_reverse]at hz;have:=e2 z hz;simp at this ⊢;exact .inl this
  ·rcases f6a hx with h|h|h
   ·subst h;simp
   ·rw[List.mem_reverse]at h;have:=e2 x h;simp at this ⊢;exact .inl this
   ·cases h
end
section
def a4w (l:List Hold):Prop:=l.Pairwise (λa b=>b.Rank≤a.Rank)
def a8g {A B:List Hold}:a4w (A++B)↔a4w A∧a4w B∧∀a∈A,∀b∈B,b.Rank≤a.Rank:=List.pairwise_append
def a50 {l:List Hold} (h:a4w l) {i j:Nat} {x y:Hold} (hij:i≤j) (hx:l[i]?=some x) (hy:l[j]?=some y):y.Rank≤x.Rank:=by
 rcases ybv i j with hl|hl
 ·obtain ⟨h1,e1⟩:=yaA.1 hx;obtain ⟨h2,e2⟩:=yaA.1 hy;have:=ya2.1 h i j h1 h2 hl;rw[e1,e2]at this;exact this
 ·have:i=j:=by omega
  subst this;rw[hx]at hy;cases hy;omega
def c7n (k:Int) (A B:List Hold):rk k (A++B)=rk k A++rk k B:=List.filter_append ..
def e8j {k:Int} {l:List Hold} (h:∀x∈l,x.Rank≠k):rk k l=[]:=by
 unfold rk;rw[List.filter_eq_nil_iff];intro x hx;simpa using h x hx
structure MG (A B M:List Hold):Prop where
 srt:a4w M
 len:M.length=A.length+B.length
 rks:∀k,rk k M=rk k A++rk k B
def MG.mem {A B M:List Hold} (h:MG A B M) {x:Hold} (hx:x∈M):x∈A∨x∈B:=by
 have h1:x∈rk x.Rank M:=by unfold rk;rw[yaD];exact ⟨hx,by simp⟩
 rw[h.rks,yat]at h1;rcases h1 with h1|h1
 ·exact .inl (yaD.1 h1).1
 ·exact .inr (yaD.1 h1).1
def MG.left {A:List Hold} (h:a4w A):MG A [] A:=⟨h,by simp,λk=>by simp[rk]⟩
def MG.right {B:List Hold} (h:a4w B):MG [] B B:=⟨h,by simp,λk=>by simp[rk]⟩
def MG.join {A1 A2 B1 B2 M1 M2:List Hold} (hA:a4w (A1++A2)) (hB:a4w (B1++B2)) (h1:MG A1 B1 M1) (h2:MG A2 B2 M2)
 (hx:∀a∈A1,∀b∈B2,b.Rank≤a.Rank) (hy:∀b∈B1,∀a∈A2,a.Rank<b.Rank):MG (A1++A2) (B1++B2) (M1++M2):=by
 have hA2:=(a8g.1 hA).2.2;have hB2:=(a8g.1 hB).2.2;refine ⟨a8g.2 ⟨h1.srt,h2.srt,λa ha b hb=>?_⟩,?_,λk=>?_⟩
 ·rcases h1.mem ha with p|p<;>rcases h2.mem hb with q|q
  ·exact hA2 a p b q
  ·exact hx a p b q
  ·have:=hy a p b q;omega
  ·exact hB2 a p b q
 ·simp only[yaT,h1.len,h2.len];omega
 ·rw[c7n,c7n,c7n,h1.rks,h2.rks];by_cases hb:rk k B1=[]
  ·rw[hb];simp
  ·have ha:rk k A2=[]:=by
    apply e8j;intro a ha e;obtain ⟨b,hb1⟩:=List.exists_mem_of_ne_nil _ hb;have hb2:=yaD.1 hb1;have:=hy b hb2.1 a ha;have:b.Rank=k:=by simpa using hb2.2
    omega
   rw[ha];simp
def c8i {σ β:Type} {step:σ→Option (σ⊕β)} (st:Nat→Nat→σ) (fin:Nat→β) (Q:Nat→Bool) {lo hi:Nat} (hh:hi<100000) (hle:lo≤hi)
 (h1:∀i j,lo≤i→i<j→j≤hi→step (st i j)=some (.inl (bif Q ((i+j) / 2) then st ((i+j) / 2+1) j else st i ((i+j) / 2))))
 (h2:∀i,lo≤i→i≤hi→step (st i i)=some (.inr (fin i))) :
 ∃i,lo≤i∧i≤hi∧(lo<i→Q (i-1)=true)∧(i<hi→Q i=false)∧c6 step (st lo hi)=some (fin i):=by
 have key:∀(n i j:Nat),j-i≤n→lo≤i→i≤j→j≤hi→(lo<i→Q (i-1)=true)→(j<hi→Q j=false)→
  ∃r,lo≤r∧r≤hi∧(lo<r→Q (r-1)=true)∧(r<hi→Q r=false)∧o9 step (n+1) (st i j)=some (fin r):=by
  intro n
  induction n with
  |zero=>
   intro i j hn a b c d e;have:i=j:=by omega
   subst this;refine ⟨i,a,c,d,e,?_⟩;rw[o9,h2 i a c]
  |succ n ih=>
   intro i j hn a b c d e;rcases ybv i j with hl|hl
   ·cases hq:Q ((i+j) / 2) with
    |true=>
     obtain ⟨r,r1,r2,r3,r4,r5⟩:=ih ((i+j) / 2+1) j (by omega) (by omega) (by omega) c (λ_=>by simpa using hq) e;refine ⟨r,r1,r2,r3,r4,?_⟩;rw[o9,h1 i j a hl c,hq];exact r5
    |false=>
     obtain ⟨r,r1,r2,r3,r4,r5⟩:=ih i ((i+j) / 2) (by omega) a (by omega) (by omega) d (λ_=>hq);refine ⟨r,r1,r2,r3,r4,?_⟩;rw[o9,h1 i j a hl c,hq];exact r5
   ·have:i=j:=by omega
    subst this;refine ⟨i,a,c,d,e,?_⟩;rw[o9,h2 i a c]
 obtain ⟨r,r1,r2,r3,r4,r5⟩:=key (hi-lo) lo hi (yau _) (yau _) hle (yau _) (λh=>absurd h (Nat.lt_irrefl _)) (λh=>absurd h (Nat.lt_irrefl _));exact ⟨r,r1,r2,r3,r4,o8 _ (by rw[o4];omega) r5⟩
def a5l {a b:Nat} (h:b≤a) (ha:a<1000000):wr .i64 ((a:Int)-(b:Int))=((a-b:Nat):Int):=by
 rw[a0l (by omega) (by omega)];omega
def d6m {a b:Nat} (h:a+b<1000000):wr .i64 ((a:Int)+(b:Int))=((a+b:Nat):Int):=by
 rw[a0l (by omega) (by omega)];omega
section
variable {γ:Type} {p:γ→Hold→Hold→Option Int} {g:γ}
def f96 {P M R:List Hold}:∀(X2 Y2 X1 Y1:List Hold),X2.length=Y2.length→X1.length=Y1.length→P.length+X1.length+X2.length+M.length+X1.length+X2.length<100000→∀a b n:Nat,a=P.length→b=P.length+X1.length+X2.length+M.length→n=X1.length+X2.length→
 o9 (b8p p) (X2.length+1) ((a:Int),(b:Int),(n:Int),(X1.length:Int),P++(Y1++(X2++(M++(X1++(Y2++R))))),())=some (P++(Y1++(Y2++(M++(X1++(X2++R))))),()):=by
 intro X2
 induction X2 with
 |nil=>
  intro Y2 X1 Y1 h1 h2 hs a b n ha hb hn;have:Y2=[]:=yaq h1.symm;subst this;simp only[ybh,ya9]at hn;subst hn;simp only[ybh,o9,b8p,dge,yaa]
 |cons x X2 ih=>
  intro Y2 X1 Y1 h1 h2 hs a b n ha hb hn;cases Y2 with
  |nil=>cases h1
  |cons y Y2=>
   simp only[yaQ]at h1 hs hb hn ⊢;have d:decide ((X1.length:Int)<(n:Int))=true:=by rw[yad];omega
   have ga:∀z,(P++(Y1++(z::X2++(M++(X1++(y::Y2++R))))))[a+X1.length]?=some z:=λz=>by
    rw[ha,h2,←yaX,show P.length+Y1.length=(P++Y1).length+0 by simp,atP];rfl
   have gb:∀z,(P++(Y1++(z::X2++(M++(X1++(y::Y2++R))))))[b+X1.length]?=some y:=λz=>by
    have e:P++(Y1++(z::X2++(M++(X1++(y::Y2++R)))))=(P++(Y1++(z::X2++(M++X1))))++(y::Y2++R):=by simp
    rw[e,show b+X1.length=(P++(Y1++(z::X2++(M++X1)))).length+0 by simp;omega,atP];rfl
   have sa:(P++(Y1++(x::X2++(M++(X1++(y::Y2++R)))))).set (a+X1.length) y=P++(Y1++(y::X2++(M++(X1++(y::Y2++R))))):=by
    rw[ha,h2,g41,show Y1.length=Y1.length+0 from rfl,g41];rfl
   have sb:(P++(Y1++(y::X2++(M++(X1++(y::Y2++R)))))).set (b+X1.length) x=P++(Y1++(y::X2++(M++(X1++(x::Y2++R))))):=by
    have e:P++(Y1++(y::X2++(M++(X1++(y::Y2++R)))))=(P++(Y1++(y::X2++(M++X1))))++(y::Y2++R):=by simp
    rw[e,show b+X1.length=(P++(Y1++(y::X2++(M++X1)))).length+0 by simp;omega,g41];simp
   have:=ih Y2 (X1++[x]) (Y1++[y]) (by omega) (by simp;omega) (by simp;omega) a b n ha (by simp;omega) (by simp;omega);rw[o9];simp only[b8p,d,yac,d6m (show b+X1.length<1000000 by omega),d6m (show a+X1.length<1000000 by omega),d9,yaB,ga,gb,sa,sb,a0c (show X1.length<9223372036854775807 by omega)];simp only[yaT,yaQ,ybh,yaX,List.singleton_append,ybA,yaU,yaI]at this ⊢;exact this
def d1i {P X M Y R:List Hold} (h:X.length=Y.length) (hs:P.length+X.length+M.length+X.length<100000) {a b n:Nat} (ha:a=P.length) (hb:b=P.length+X.length+M.length) (hn:n=X.length) :
 qao p (P++(X++(M++(Y++R)))) (a:Int) (b:Int) (n:Int) g=some (P++(Y++(M++(X++R)))):=by
 have:=f96 (p:=p) (P:=P) (M:=M) (R:=R) X Y [] [] h rfl (by simp;omega) a b n ha (by simp;omega) (by simp;omega);unfold qao;rw[show c6 (b8p p) ((a:Int),(b:Int),(n:Int),0,P++(X++(M++(Y++R))),())=_ from o8 (X.length+1) (by rw[o4];omega) this]
 try rfl
def d9u:∀(N:Nat) (P X Y R:List Hold),X.length+Y.length≤N→1≤X.length→1≤Y.length→P.length+X.length+Y.length<100000→∀m i j:Nat,m=P.length+X.length→i=X.length→j=Y.length→
 ∃(i':Nat) (l':List Hold),i'≤m∧o9 (b5o p) (N+1) ((m:Int),g,(i:Int),(j:Int),P++(X++(Y++R)),())=some ((m:Int),g,(i':Int),l',())∧
  qao p l' ((m-i':Nat):Int) (m:Int) (i':Int) g=some (P++(Y++(X++R))):=by
 intro N
 induction N with
 |zero=>intro P X Y R h hx;omega
 |succ N ih=>
  intro P X Y R h hx hy hs m i j hm hi hj;rcases ycc i j with hij|hij|hij
  ·
   have d1:((i:Int)==(j:Int))=false:=by rw[ya0];omega
   have d2:decide ((j:Int)<(i:Int))=false:=by rw[yaf];omega
   have hY:Y.take (j-i)++Y.drop (j-i)=Y:=ya4 ..;have l1:(Y.take (j-i)).length=j-i:=by rw[yaH];omega
   have l2:(Y.drop (j-i)).length=i:=by rw[yaZ];omega
   generalize Y.take (j-i)=Y1 at hY l1;generalize Y.drop (j-i)=Y2 at hY l2;subst hY;simp only[yaT]at h hs hj;have e:P++(X++(Y1++Y2++R))=P++(X++(Y1++(Y2++R))):=by simp
   have hw:=d1i (p:=p) (g:=g) (P:=P) (X:=X) (M:=Y1) (Y:=Y2) (R:=R) (by omega) (by omega) (a:=m-i) (b:=m+j-i) (n:=i) (by omega) (by omega) (by omega);obtain ⟨i',l',q1,q2,q3⟩:=ih P Y2 Y1 (X++R) (by omega) (by omega) (by omega) (by omega) m i (j-i) (by omega) (by omega) (by omega);refine ⟨i',l',q1,?_,by rw[q3];simp⟩;rw[o9];simp only[b5o,d1,yas,yac,d2,yaa,a5l (show i≤m by omega) (by omega),d6m (show m+j<1000000 by omega),a5l (show i≤m+j by omega) (by omega),e,hw,a5l (show i≤j by omega) (by omega)];exact q2
  ·
   have d1:((i:Int)==(j:Int))=true:=by rw[ya6];omega
   have hw:=d1i (p:=p) (g:=g) (P:=P) (X:=X) (M:=[]) (Y:=Y) (R:=R) (by omega) (by simp;omega) (a:=m-i) (b:=m) (n:=i) (by omega) (by simp;omega) (by omega);simp only[yaU]at hw;refine ⟨i,P++(X++(Y++R)),by omega,?_,hw⟩;rw[o9];simp only[b5o,d1,yak,yaa]
  ·
   have d1:((i:Int)==(j:Int))=false:=by rw[ya0];omega
   have d2:decide ((j:Int)<(i:Int))=true:=by rw[yad];omega
   have hX:X.take j++X.drop j=X:=ya4 ..;have l1:(X.take j).length=j:=by rw[yaH];omega
   have l2:(X.drop j).length=i-j:=by rw[yaZ];omega
   generalize X.take j=X1 at hX l1;generalize X.drop j=X2 at hX l2;subst hX;simp only[yaT]at h hs hi hm;have e:P++(X1++X2++(Y++R))=P++(X1++(X2++(Y++R))):=by simp
   have hw:=d1i (p:=p) (g:=g) (P:=P) (X:=X1) (M:=X2) (Y:=Y) (R:=R) (by omega) (by omega) (a:=m-i) (b:=m) (n:=j) (by omega) (by omega) (by omega);obtain ⟨i',l',q1,q2,q3⟩:=ih (P++Y) X2 X1 R (by omega) (by omega) (by omega) (by simp;omega) m (i-j) j (by simp;omega) (by omega) (by omega);refine ⟨i',l',q1,?_,by rw[q3];simp⟩;rw[o9];simp only[b5o,d1,yas,yac,d2,a5l (show i≤m by omega) (by omega),e,hw,a5l (show j≤i by omega) (by omega)];rw[yaX]at q2;exact q2
def e8k {P X Y R:List Hold} (hx:1≤X.length) (hy:1≤Y.length) (hs:P.length+X.length+Y.length<100000) {a m b:Nat} (ha:a=P.length) (hm:m=a+X.length) (hb:b=m+Y.length) :
 qbl p (P++(X++(Y++R))) (a:Int) (m:Int) (b:Int) g=some (P++(Y++(X++R))):=by
 obtain ⟨i',l',q1,q2,q3⟩:=d9u (p:=p) (g:=g) (X.length+Y.length) P X Y R (yau _) hx hy hs m X.length Y.length (by omega) rfl rfl;unfold qbl;rw[a5l (show a≤m by omega) (by omega),a5l (show m≤b by omega) (by omega),show m-a=X.length by omega,show b-m=Y.length by omega];rw[show c6 (b5o p) ((m:Int),g,(X.length:Int),(Y.length:Int),P++(X++(Y++R)),())=_ from o8 _ (by rw[o4];omega) q2];simp only[a5l q1 (show m<1000000 by omega),q3]
def i68 {R:List Hold} {x:Hold}:∀(B P:List Hold),P.length+B.length<100000→∀i k:Nat,k=P.length→i=k+B.length+1→
 o9 (d0g p) (B.length+1) ((i:Int),(k:Int),P++(x::(B++R)),())=some (P++(B++(x::R)),()):=by
 intro B
 induction B with
 |nil=>
  intro P hs i k hk hi;have d:decide ((k:Int)<wr .i64 ((i:Int)-1))=false:=by rw[a0l (by omega) (by omega),yaf];simp at hi;omega
  simp only[ybh,o9,d0g,d,yaa,yaU]
 |cons y B ih=>
  intro P hs i k hk hi;simp only[yaQ]at hs hi ⊢;have d:decide ((k:Int)<wr .i64 ((i:Int)-1))=true:=by rw[a0l (by omega) (by omega),yad];omega
  have g0:∀z:Hold,(P++(z::(y::B++R)))[k]?=some z:=λz=>by rw[hk,show P.length=P.length+0 from rfl,atP];rfl
  have g1:∀z:Hold,(P++(z::(y::B++R)))[k+1]?=some y:=λz=>by rw[hk,atP];rfl
  have s0:(P++(x::(y::B++R))).set k y=P++(y::(y::B++R)):=by rw[hk,show P.length=P.length+0 from rfl,g41];rfl
  have s1:(P++(y::(y::B++R))).set (k+1) x=P++(y::(x::B++R)):=by rw[hk,g41];rfl
  have:=ih (P++[y]) (by simp;omega) i (k+1) (by simp;omega) (by omega);rw[o9];simp only[d0g,d,yac,wS k,d9,yaB,g0,g1,s0,s1];simp only[yaX,List.singleton_append,ybA,yaU]at this ⊢;exact this
def f5j {R P:List Hold} {y:Hold}:∀(A Z:List Hold),P.length+A.length<100000→∀i k:Nat,i=P.length→k=i+A.length→
 o9 (b5x p) (A.length+1) ((i:Int),(k:Int),P++(A.reverse++(y::(Z++R))),())=some (P++(y::(A.reverse++(Z++R))),()):=by
 intro A
 induction A with
 |nil=>
  intro Z hs i k hi hk;have d:decide ((i:Int)<(k:Int))=false:=by rw[yaf];simp at hk;omega
  simp only[ybh,o9,b5x,d,yaa,List.reverse_nil,yaU]
 |cons x A ih=>
  intro Z hs i k hi hk;simp only[yaQ]at hs hk ⊢;have d:decide ((i:Int)<(k:Int))=true:=by rw[yad];omega
  have w:wr .i64 ((k:Int)-1)=((k-1:Nat):Int):=by rw[a0l (by omega) (by omega)];omega
  have e:∀(u v:Hold),P++(A.reverse++(u::v::(Z++R)))=(P++A.reverse)++(u::v::(Z++R)):=λu v=>by simp
  have lk:k-1=(P++A.reverse).length+0:=by simp;omega
  have lk1:k=(P++A.reverse).length+1:=by simp;omega
  have e0:P++((x::A).reverse++(y::(Z++R)))=P++(A.reverse++(x::y::(Z++R))):=by simp
  have g1:∀(u v:Hold),(P++(A.reverse++(u::v::(Z++R))))[k-1]?=some u:=λu v=>by rw[e,lk,atP];rfl
  have g0:∀(u v:Hold),(P++(A.reverse++(u::v::(Z++R))))[k]?=some v:=λu v=>by rw[e,lk1,atP];rfl
  have s0:(P++(A.reverse++(x::y::(Z++R)))).set k x=P++(A.reverse++(x::x::(Z++R))):=by rw[e,e,lk1,g41];rfl
  have s1:(P++(A.reverse++(x::x::(Z++R)))).set (k-1) y=P++(A.reverse++(y::x::(Z++R))):=by rw[e,e,lk,g41];rfl
  have:=ih (x::Z) (by omega) i (k-1) hi (by omega);rw[o9];simp only[b5x,d,yac,w,e0,d9,yaB,g0,g1,s0,s1];simp only[ybA]at this;rw[this];simp
def a8c {X:Type} {l:List X} {s:Nat} {x:X} (h:x∈l.take s):∃i,i<s∧l[i]?=some x:=by
 obtain ⟨i,hi⟩:=yaw h;rw[yaG]at hi;split at hi
 ·exact ⟨i,by assumption,hi⟩
 ·cases hi
def a8b {X:Type} {l:List X} {s:Nat} {x:X} (h:x∈l.drop s):∃i,s≤i∧l[i]?=some x:=by
 obtain ⟨i,hi⟩:=yaw h;rw[ybH]at hi;exact ⟨s+i,by omega,hi⟩
def b2r {l:List Hold} (h:a4w l) (s:Nat):a4w (l.take s)∧a4w (l.drop s):=by
 rw[←ya4 s l]at h;have:=a8g.1 h;exact ⟨this.1,this.2.1⟩
def okL (l:List Hold):Prop:=∀x∈l,rng 0 9 x.Rank=true
section
variable (hp:∀y z,rng 0 9 y.Rank=true→rng 0 9 z.Rank=true→∃n,p g y z=some n∧decide (n<0)=ltR y z)
include hp
def f6c {P B Q:List Hold} {x:Hold} (hB:a4w B) (ho:okL (x::B)) (hs:P.length+B.length<50000) {a m b:Nat} (ha:a=P.length) (hm:m=a+1) (hb:b=m+B.length) :
 ∃M,MG [x] B M∧∃i:Nat,c6 (c68 p) ((a:Int),g,(m:Int),(b:Int),P++(x::(B++Q)),())=some ((a:Int),(i:Int),P++(x::(B++Q)),())∧
  c6 (d0g p) ((i:Int),(a:Int),P++(x::(B++Q)),())=some (P++(M++Q),()):=by
 have hx:(P++(x::(B++Q)))[a]?=some x:=by rw[ha,show P.length=P.length+0 from rfl,atP];rfl
 have hy:∀h,m≤h→h<b→∃y,B[h-m]?=some y∧(P++(x::(B++Q)))[h]?=some y:=by
  intro h h1 h2;obtain ⟨k,rfl⟩:∃k,h=m+k:=⟨h-m,by omega⟩
  have hl:k<B.length:=by omega
  refine ⟨B[k],by rw[ybS];exact yab hl,?_⟩;rw[show m+k=P.length+(k+1) by omega,atP,yaL,yav hl];exact yab hl
 obtain ⟨i,i1,i2,i3,i4,i5⟩:=c8i (step:=c68 p) (λi j=>((a:Int),g,(i:Int),(j:Int),P++(x::(B++Q)),())) (λi=>((a:Int),(i:Int),P++(x::(B++Q)),()))
  (λh=>match B[h-m]? with|some y=>ltR y x|none=>false) (lo:=m) (hi:=b) (by omega) (by omega)
  (λi j q1 q2 q3=>by
   obtain ⟨y,y1,y2⟩:=hy ((i+j) / 2) (by omega) (by omega);obtain ⟨n,n1,n2⟩:=hp y x (ho y (yaN _ (yag y1))) (ho x (yaK ..));simp only[c68,dlt q2,yac,c6s (show i+j<2000000000 by omega),d9,yaB,y2,hx,n1,n2,y1,a0c (show (i+j) / 2<9223372036854775807 by omega)];cases ltR y x<;>rfl)
  (λi q1 q2=>by simp only[c68,dge,yaa])
 have hc:=ya4 (i-m) B;have k1:∀y∈B.take (i-m),x.Rank<y.Rank:=by
  intro y hy1;obtain ⟨j,j1,j2⟩:=a8c hy1;obtain ⟨z,z1,-⟩:=hy (i-1) (by omega) (by omega);have:=i3 (by omega);rw[z1]at this;have hz:x.Rank<z.Rank:=by simpa[ltR]using this
  have:=a50 hB (show j≤i-1-m by omega) j2 z1;omega
 have k2:∀y∈B.drop (i-m),y.Rank≤x.Rank:=by
  intro y hy1;obtain ⟨j,j1,j2⟩:=a8b hy1;have jl:=(zL j2)
  obtain ⟨z,z1,-⟩:=hy i (by omega) (by omega);have:=i4 (by omega);rw[z1]at this;have hz:z.Rank≤x.Rank:=by simpa[ltR]using this
  have:=a50 hB (show i-m≤j by omega) z1 j2;omega
 have hl:(B.take (i-m)).length=i-m:=by rw[yaH];omega
 have so:=b2r hB (i-m);refine ⟨B.take (i-m)++(x::B.drop (i-m)),?_,i,i5,?_⟩
 ·have s1:a4w [x]:=List.pairwise_singleton ..;have j1:MG ([x]++[]) ([]++B.drop (i-m)) ([x]++B.drop (i-m)):=MG.join (by simpa using s1) (by simpa using so.2) (MG.left s1) (MG.right so.2) (λa ha b hb=>by
   rw[yba]at ha;subst ha;exact k2 b hb) (λb hb=>by cases hb)
  have j2:MG ([]++[x]) (B.take (i-m)++B.drop (i-m)) (B.take (i-m)++([x]++B.drop (i-m))):=MG.join (by simpa using s1) (by rw[hc];exact hB) (MG.right so.1) (by simpa using j1) (λa ha=>by cases ha) (λb hb a ha=>by
   rw[yba]at ha;subst ha;exact k1 b hb)
  rw[hc]at j2;exact j2
 ·have:=i68 (p:=p) (R:=B.drop (i-m)++Q) (x:=x) (B.take (i-m)) P (by omega) i a ha (by omega);have e1:B.take (i-m)++(B.drop (i-m)++Q)=B++Q:=by rw[←yaX,hc]
  rw[e1]at this;rw[o8 _ (by rw[o4];omega) this];simp
def e8i {P A Q:List Hold} {y:Hold} (hA:a4w A) (ho:okL (y::A)) (hs:P.length+A.length<50000) {a m:Nat} (ha:a=P.length) (hm:m=a+A.length) :
 ∃M,MG A [y] M∧∃i:Nat,c6 (b1m p) ((m:Int),g,(a:Int),(m:Int),P++(A++(y::Q)),())=some ((m:Int),(i:Int),P++(A++(y::Q)),())∧
  c6 (b5x p) ((i:Int),(m:Int),P++(A++(y::Q)),())=some (P++(M++Q),()):=by
 have hx:(P++(A++(y::Q)))[m]?=some y:=by rw[hm,ha,atP,show A.length=A.length+0 from rfl,atP];rfl
 have hy:∀h,a≤h→h<m→∃x,A[h-a]?=some x∧(P++(A++(y::Q)))[h]?=some x:=by
  intro h h1 h2;obtain ⟨k,rfl⟩:∃k,h=a+k:=⟨h-a,by omega⟩
  have hl:k<A.length:=by omega
  refine ⟨A[k],by rw[ybS];exact yab hl,?_⟩;rw[ha,atP,yav hl];exact yab hl
 obtain ⟨i,i1,i2,i3,i4,i5⟩:=c8i (step:=b1m p) (λi j=>((m:Int),g,(i:Int),(j:Int),P++(A++(y::Q)),())) (λi=>((m:Int),(i:Int),P++(A++(y::Q)),()))
  (λh=>match A[h-a]? with|some x=>!(ltR y x)|none=>false) (lo:=a) (hi:=m) (by omega) (by omega)
  (λi j q1 q2 q3=>by
   obtain ⟨x,y1,y2⟩:=hy ((i+j) / 2) (by omega) (by omega);obtain ⟨n,n1,n2⟩:=hp y x (ho y (yaK ..)) (ho x (yaN _ (yag y1)));simp only[b1m,dlt q2,yac,c6s (show i+j<2000000000 by omega),d9,yaB,y2,hx,n1,n2,y1,a0c (show (i+j) / 2<9223372036854775807 by omega)];cases ltR y x<;>rfl)
  (λi q1 q2=>by simp only[b1m,dge,yaa])
 have hc:=ya4 (i-a) A;have k1:∀x∈A.take (i-a),y.Rank≤x.Rank:=by
  intro x hx1;obtain ⟨j,j1,j2⟩:=a8c hx1;obtain ⟨z,z1,-⟩:=hy (i-1) (by omega) (by omega);have:=i3 (by omega);rw[z1]at this;have hz:y.Rank≤z.Rank:=by simpa[ltR]using this
  have:=a50 hA (show j≤i-1-a by omega) j2 z1;omega
 have k2:∀x∈A.drop (i-a),x.Rank<y.Rank:=by
  intro x hx1;obtain ⟨j,j1,j2⟩:=a8b hx1;have jl:=(zL j2)
  obtain ⟨z,z1,-⟩:=hy i (by omega) (by omega);have:=i4 (by omega);rw[z1]at this;have hz:z.Rank<y.Rank:=by simpa[ltR]using this
  have:=a50 hA (show i-a≤j by omega) z1 j2;omega
 have hl:(A.drop (i-a)).length=m-i:=by rw[yaZ];omega
 have so:=b2r hA (i-a);refine ⟨A.take (i-a)++(y::A.drop (i-a)),?_,i,i5,?_⟩
 ·have s1:a4w [y]:=List.pairwise_singleton ..;have j1:MG ([]++A.drop (i-a)) ([y]++[]) ([y]++A.drop (i-a)):=MG.join (by simpa using so.2) (by simpa using s1) (MG.right s1) (MG.left so.2) (λa ha=>by cases ha) (λb hb a ha=>by
   rw[yba]at hb;subst hb;exact k2 a ha)
  have j2:MG (A.take (i-a)++A.drop (i-a)) ([]++[y]) (A.take (i-a)++([y]++A.drop (i-a))):=MG.join (by rw[hc];exact hA) (by simpa using s1) (MG.left so.1) (by simpa using j1) (λa ha b hb=>by
   rw[yba]at hb;subst hb;exact k1 a ha) (λb hb=>by cases hb)
  rw[hc]at j2;exact j2
 ·have:=f5j (p:=p) (R:=Q) (P:=P++A.take (i-a)) (y:=y) (A.drop (i-a)).reverse [] (by simp;omega) i m (by simp;omega) (by simp;omega);have e1:P++A.take (i-a)++((A.drop (i-a)).reverse.reverse++(y::([]++Q)))=P++(A++(y::Q)):=by
   rw[List.reverse_reverse,yaU,yaX,←yaX (A.take (i-a)),hc]
  rw[e1]at this;rw[o8 _ (by rw[o4,List.length_reverse];omega) this];simp
def h25 {P A B Q:List Hold} (hA:a4w A) (hB:a4w B) (hoA:okL A) (hoB:okL B) (hs:P.length+A.length+B.length<50000) {a m b md lo hi:Nat} (ha:a=P.length) (hm:m=a+A.length) (hb:b=m+B.length)
 (f1:a≤lo) (f2:lo≤hi) (f3:hi≤m) (f4:hi≤md) (f5:md+m≤b+lo) (f6:lo=a∨lo+b=md+m) (f7:hi=m∨hi=md) (f8:md≤b) :
 ∃s,lo≤s∧s≤hi∧(∀x∈A.take (s-a),∀y∈B.drop (md-s),y.Rank≤x.Rank)∧(∀y∈B.take (md-s),∀x∈A.drop (s-a),x.Rank<y.Rank)∧
  c6 (b1n p) ((a:Int),(m:Int),(b:Int),g,(md:Int),((md+m:Nat):Int),(lo:Int),(hi:Int),wr .i64 (((md+m:Nat):Int)-1),P++(A++(B++Q)),())=some ((a:Int),(m:Int),(b:Int),g,(md:Int),((md+m:Nat):Int),(s:Int),P++(A++(B++Q)),()):=by
 have hx:∀h,a≤h→h<m→∃x,A[h-a]?=some x∧(P++(A++(B++Q)))[h]?=some x:=by
  intro h h1 h2;obtain ⟨k,rfl⟩:∃k,h=a+k:=⟨h-a,by omega⟩
  have hl:k<A.length:=by omega
  refine ⟨A[k],by rw[ybS];exact yab hl,?_⟩;rw[ha,atP,yav hl];exact yab hl
 have hy:∀h,m≤h→h<b→∃y,B[h-m]?=some y∧(P++(A++(B++Q)))[h]?=some y:=by
  intro h h1 h2;obtain ⟨k,rfl⟩:∃k,h=m+k:=⟨h-m,by omega⟩
  have hl:k<B.length:=by omega
  refine ⟨B[k],by rw[ybS];exact yab hl,?_⟩;rw[show m+k=P.length+(A.length+k) by omega,atP,atP,yav hl];exact yab hl
 rcases Nat.eq_or_lt_of_le f2 with heq|hlt
 ·
  subst heq;refine ⟨lo,yau _,yau _,λx hx1 y hy1=>?_,λy hy1 x hx1=>?_,?_⟩
  ·obtain ⟨i,i1,i2⟩:=a8c hx1;obtain ⟨j,j1,j2⟩:=a8b hy1;have:=(zL j2)
   omega
  ·obtain ⟨i,i1,i2⟩:=a8c hy1;obtain ⟨j,j1,j2⟩:=a8b hx1;have:=(zL j2)
   omega
  ·refine o8 1 (by rw[o4];omega) ?_;simp only[o9,b1n,dge,yaa]
 have w0:wr .i64 (((md+m:Nat):Int)-1)=((md+m-1:Nat):Int):=by rw[a0l (by omega) (by omega)];omega
 rw[w0];obtain ⟨s,i1,i2,i3,i4,i5⟩:=c8i (step:=b1n p) (λi j=>((a:Int),(m:Int),(b:Int),g,(md:Int),((md+m:Nat):Int),(i:Int),(j:Int),((md+m-1:Nat):Int),P++(A++(B++Q)),())) (λi=>((a:Int),(m:Int),(b:Int),g,(md:Int),((md+m:Nat):Int),(i:Int),P++(A++(B++Q)),()))
  (λh=>match B[md-1-h]?,A[h-a]? with|some y,some x=>!(ltR y x)|_,_=>false) (lo:=lo) (hi:=hi) (by omega) f2
  (λi j q1 q2 q3=>by
   obtain ⟨x,x1,x2⟩:=hx ((i+j) / 2) (by omega) (by omega);obtain ⟨y,y1,y2⟩:=hy (md+m-1-(i+j) / 2) (by omega) (by omega);rw[show md+m-1-(i+j) / 2-m=md-1-(i+j) / 2 by omega]at y1;obtain ⟨n,n1,n2⟩:=hp y x (hoB y (yag y1)) (hoA x (yag x1));simp only[b1n,dlt q2,yac,c6s (show i+j<2000000000 by omega),a5l (show (i+j) / 2≤md+m-1 by omega) (show md+m-1<1000000 by omega),d9,yaB,y2,x2,n1,n2,y1,x1,a0c (show (i+j) / 2<9223372036854775807 by omega)];cases ltR y x<;>rfl)
  (λi q1 q2=>by simp only[b1n,dge,yaa])
 refine ⟨s,i1,i2,λx hx1 y hy1=>?_,λy hy1 x hx1=>?_,i5⟩
 ·obtain ⟨i,j1,j2⟩:=a8c hx1;obtain ⟨j,j3,j4⟩:=a8b hy1;have jl:=(zL j4)
  rcases Nat.eq_or_lt_of_le i1 with he|he
  ·omega
  obtain ⟨x0,x1,-⟩:=hx (s-1) (by omega) (by omega);obtain ⟨y0,y1,-⟩:=hy (md+m-s) (by omega) (by omega);have:=i3 he;rw[show md-1-(s-1)=md+m-s-m by omega,y1,x1]at this;have hz:y0.Rank≤x0.Rank:=by simpa[ltR]using this
  have:=a50 hA (show i≤s-1-a by omega) j2 x1;have:=a50 hB (show md+m-s-m≤j by omega) y1 j4;omega
 ·obtain ⟨i,j1,j2⟩:=a8c hy1;obtain ⟨j,j3,j4⟩:=a8b hx1;have jl:=(zL j4)
  rcases Nat.eq_or_lt_of_le i2 with he|he
  ·omega
  obtain ⟨x0,x1,-⟩:=hx s (by omega) (by omega);obtain ⟨y0,y1,-⟩:=hy (md+m-1-s) (by omega) (by omega);have:=i4 he;rw[show md-1-s=md+m-1-s-m by omega,y1,x1]at this;have hz:x0.Rank<y0.Rank:=by simpa[ltR]using this
  have:=a50 hA (show s-a≤j by omega) x1 j4;have:=a50 hB (show i≤md+m-1-s-m by omega) j2 y1;omega
end
@[reducible] def stg (b1 b2 b3 b4 b5 b6:Bool) (R S1 S2:List Hold→Option (List Hold)) (l:List Hold):Option (List Hold):=
 let k45:Bool→Option (List Hold):=λv=>
  let k44:(List Hold)→Option (List Hold):=λl32=>
   let k43:Bool→Option (List Hold):=λv33=>
    let k42:(List Hold)→Option (List Hold):=λl36=>
     let k41:Bool→Option (List Hold):=λv37=>
      let k:(List Hold)→Option (List Hold):=λl40=>some l40
      bif v37 then (match S2 l36 with|some l39=>k l39|none=>none) else k l36
     bif b5 then k41 b6 else k41 false
    bif v33 then (match S1 l32 with|some l35=>k42 l35|none=>none) else k42 l32
   bif b3 then k43 b4 else k43 false
  bif v then (match R l with|some l31=>k44 l31|none=>none) else k44 l
 bif b1 then k45 b2 else k45 false
def i63 (b1 b2 b3 b4 b5 b6:Bool) (R S1 S2:List Hold→Option (List Hold)) {l l1 l2 l3:List Hold} (h1:(bif b1&&b2 then R l else some l)=some l1) (h2:(bif b3&&b4 then S1 l1 else some l1)=some l2) (h3:(bif b5&&b6 then S2 l2 else some l2)=some l3) :
 stg b1 b2 b3 b4 b5 b6 R S1 S2 l=some l3:=by
 unfold stg;dsimp only;cases b1<;>cases b2<;>(have h1:=h1;simp only[yac,yaa,ybo,ybW,Bool.and_false]at h1;first|cases h1|skip)<;>
  cases b3<;>cases b4<;>(simp only[yac,yaa,ybo,ybW,Bool.and_false]at h2;first|cases h2|skip)<;>
   cases b5<;>cases b6<;>(simp only[yac,yaa,ybo,ybW,Bool.and_false]at h3;first|cases h3|skip)<;>simp_all only[yac,yaa]
def smT (p:γ→Hold→Hold→Option Int) (fuel:Nat) (data:List Hold) (a m b:Int) (g:γ) (md n start r:Int):Option (List Hold):=
 match c6 (b1n p) (a,m,b,g,md,n,start,r,wr .i64 (n-1),data,()) with
 |some (a24,m25,b26,g27,mid,n,s,l,_)=>stg (decide (s<m25)) (decide (m25<wr .i64 (n-s))) (decide (a24<s)) (decide (s<mid)) (decide (mid<wr .i64 (n-s))) (decide (wr .i64 (n-s)<b26))
  (λl=>qbl p l s m25 (wr .i64 (n-s)) g27) (λl=>qe p fuel l a24 s mid g27) (λl=>qe p fuel l mid (wr .i64 (n-s)) b26 g27) l
 |none=>none
def i60 (fuel:Nat) (data:List Hold) (a m b:Int) (g:γ):qe p (fuel+1) data a m b g =
 bif (wr .i64 (m-a))==1 then
  match c6 (c68 p) (a,g,m,b,data,()) with
  |some (a4,i,l,_)=>(match c6 (d0g p) (i,a4,l,()) with|some (l8,_)=>some l8|none=>none)
  |none=>none
 else bif (wr .i64 (b-m))==1 then
  match c6 (b1m p) (m,g,a,m,data,()) with
  |some (m12,i13,l14,_)=>(match c6 (b5x p) (i13,m12,l14,()) with|some (l18,_)=>some l18|none=>none)
  |none=>none
 else bif decide (wr .i64 ((wr .u64 (wr .i64 (a+b))).fdiv (2 ^ 1))<m) then
  smT p fuel data a m b g (wr .i64 ((wr .u64 (wr .i64 (a+b))).fdiv (2 ^ 1))) (wr .i64 ((wr .i64 ((wr .u64 (wr .i64 (a+b))).fdiv (2 ^ 1)))+m)) (wr .i64 ((wr .i64 ((wr .i64 ((wr .u64 (wr .i64 (a+b))).fdiv (2 ^ 1)))+m))-b)) (wr .i64 ((wr .u64 (wr .i64 (a+b))).fdiv (2 ^ 1)))
 else smT p fuel data a m b g (wr .i64 ((wr .u64 (wr .i64 (a+b))).fdiv (2 ^ 1))) (wr .i64 ((wr .i64 ((wr .u64 (wr .i64 (a+b))).fdiv (2 ^ 1)))+m)) a m:=rfl
def d1j (hp:∀y z,rng 0 9 y.Rank=true→rng 0 9 z.Rank=true→∃n,p g y z=some n∧decide (n<0)=ltR y z):∀(fuel:Nat) (P A B Q:List Hold),1≤A.length→1≤B.length→A.length+B.length≤fuel→a4w A→a4w B→okL A→okL B→P.length+A.length+B.length<50000→
 ∀a m b:Nat,a=P.length→m=a+A.length→b=m+B.length→∃M,MG A B M∧qe p fuel (P++(A++(B++Q))) (a:Int) (m:Int) (b:Int) g=some (P++(M++Q)):=by
 intro fuel
 induction fuel with
 |zero=>intro P A B Q h1 h2 h3;omega
 |succ fuel ih=>
  intro P A B Q h1 h2 h3 hA hB hoA hoB hs a m b ha hm hb;by_cases c1:A.length=1
  ·
   obtain ⟨x,rfl⟩:=List.length_eq_one_iff.1 c1;obtain ⟨M,hM,i,e1,e2⟩:=f6c hp (g:=g) (P:=P) (Q:=Q) hB (by intro z hz;rw[yaM]at hz;rcases hz with rfl|hz;exact hoA _ (yba.2 rfl);exact hoB z hz) (by omega) ha (m:=m) (by simpa using hm) hb
   refine ⟨M,hM,?_⟩;have d:(((m-a:Nat):Int)==1)=true:=by rw[ya6];simp at hm;omega
   rw[i60,a5l (show a≤m by omega) (by omega),d,yac];have e1:c6 (c68 p) ((a:Int),g,(m:Int),(b:Int),P++([x]++(B++Q)),())=some ((a:Int),(i:Int),P++(x::(B++Q)),()):=e1;rw[e1];dsimp only;rw[e2]
  ·have d:(((m-a:Nat):Int)==1)=false:=by rw[ya0];omega
   rw[i60,a5l (show a≤m by omega) (by omega),d,yaa];by_cases c2:B.length=1
   ·
    obtain ⟨y,rfl⟩:=List.length_eq_one_iff.1 c2;obtain ⟨M,hM,i,e1,e2⟩:=e8i hp (g:=g) (P:=P) (Q:=Q) hA (by intro z hz;rw[yaM]at hz;rcases hz with rfl|hz;exact hoB _ (yba.2 rfl);exact hoA z hz) (by omega) ha hm
    refine ⟨M,hM,?_⟩;have d2:(((b-m:Nat):Int)==1)=true:=by rw[ya6];simp at hb;omega
    rw[a5l (show m≤b by omega) (by omega),d2,yac];have e1:c6 (b1m p) ((m:Int),g,(a:Int),(m:Int),P++(A++([y]++Q)),())=some ((m:Int),(i:Int),P++(A++(y::Q)),()):=e1;rw[e1];dsimp only;rw[e2]
   ·have d2:(((b-m:Nat):Int)==1)=false:=by rw[ya0];omega
    rw[a5l (show m≤b by omega) (by omega),d2,yaa,c6s (show a+b<2000000000 by omega)];obtain ⟨md,hmd⟩:∃md,md=(a+b) / 2:=⟨_,rfl⟩
    rw[←hmd,d6m (show md+m<1000000 by omega)];obtain ⟨lo,hi,f1,f2,f3,f4,f5,f6,f7,hk⟩:∃lo hi:Nat,a≤lo∧lo≤hi∧hi≤m∧hi≤md∧md+m≤b+lo∧(lo=a∨lo+b=md+m)∧(hi=m∨hi=md)∧
     ∀k:Int→Int→Option (List Hold),(bif decide ((md:Int)<(m:Int)) then k (wr .i64 (((md+m:Nat):Int)-(b:Int))) (md:Int) else k (a:Int) (m:Int))=k (lo:Int) (hi:Int):=by
     rcases ybv md m with hl|hl
     ·exact ⟨md+m-b,md,by omega,by omega,by omega,by omega,by omega,.inr (by omega),.inr rfl,λk=>by rw[dlt hl,yac,a5l (show b≤md+m by omega) (by omega)]⟩
     ·exact ⟨a,m,by omega,by omega,by omega,by omega,by omega,.inl rfl,.inl rfl,λk=>by rw[show decide ((md:Int)<(m:Int))=false by rw[yaf];omega,yaa]⟩
    rw[hk (smT p fuel (P++(A++(B++Q))) (a:Int) (m:Int) (b:Int) g (md:Int) ((md+m:Nat):Int))];unfold smT;obtain ⟨s,s1,s2,s3,s4,s5⟩:=h25 hp (g:=g) (P:=P) (Q:=Q) hA hB hoA hoB hs ha hm hb f1 f2 f3 f4 f5 f6 f7 (by omega);rw[s5];simp -zeta only;have cA:=ya4 (s-a) A;have cB:=ya4 (md-s) B;have lA1:(A.take (s-a)).length=s-a:=by rw[yaH];omega
    have lA2:(A.drop (s-a)).length=m-s:=by rw[yaZ];omega
    have lB1:(B.take (md-s)).length=md-s:=by rw[yaH];omega
    have lB2:(B.drop (md-s)).length=b-(md+m-s):=by rw[yaZ];omega
    have oA1:okL (A.take (s-a)):=λx hx=>hoA x (List.mem_of_mem_take hx)
    have oA2:okL (A.drop (s-a)):=λx hx=>hoA x (ybZ hx)
    have oB1:okL (B.take (md-s)):=λx hx=>hoB x (List.mem_of_mem_take hx)
    have oB2:okL (B.drop (md-s)):=λx hx=>hoB x (ybZ hx)
    have tA:=b2r hA (s-a);have tB:=b2r hB (md-s);generalize A.take (s-a)=A1 at *;generalize A.drop (s-a)=A2 at *;generalize B.take (md-s)=B1 at *;generalize B.drop (md-s)=B2 at *;subst cA cB;simp only[yaT]at h1 h2 h3 hs hm hb c1 c2;rw[a5l (show s≤md+m by omega) (show md+m<1000000 by omega)];have t1:(bif decide ((s:Int)<(m:Int))&&decide ((m:Int)<((md+m-s:Nat):Int)) then qbl p (P++(A1++A2++(B1++B2++Q))) (s:Int) (m:Int) ((md+m-s:Nat):Int) g else some (P++(A1++A2++(B1++B2++Q))))=some (P++(A1++(B1++(A2++(B2++Q))))):=by
     by_cases c3:s<m∧m<md+m-s
     ·rw[dlt c3.1,dlt c3.2,ybo,yac];have:=e8k (p:=p) (g:=g) (P:=P++A1) (X:=A2) (Y:=B1) (R:=B2++Q) (by omega) (by omega) (by simp;omega) (a:=s) (m:=m) (b:=md+m-s) (by simp;omega) (by omega) (by omega);simp only[yaX]at this ⊢;exact this
     ·have:(decide ((s:Int)<(m:Int))&&decide ((m:Int)<((md+m-s:Nat):Int)))=false:=by
       rw[ya1,yaf,yaf];omega
      rw[this,yaa];rcases ybv s m with c4|c4
      ·have:B1=[]:=yaq (by omega);subst this;simp
      ·have:A2=[]:=yaq (by omega);subst this;simp
    obtain ⟨M1,hM1,t2⟩:∃M1,MG A1 B1 M1∧(bif decide ((a:Int)<(s:Int))&&decide ((s:Int)<(md:Int)) then qe p fuel (P++(A1++(B1++(A2++(B2++Q))))) (a:Int) (s:Int) (md:Int) g else some (P++(A1++(B1++(A2++(B2++Q))))))=some (P++(M1++(A2++(B2++Q)))):=by
     by_cases c3:a<s∧s<md
     ·rw[dlt c3.1,dlt c3.2,ybo,yac];exact ih P A1 B1 (A2++(B2++Q)) (by omega) (by omega) (by omega) tA.1 tB.1 oA1 oB1 (by omega) a s md ha (by omega) (by omega)
     ·have:(decide ((a:Int)<(s:Int))&&decide ((s:Int)<(md:Int)))=false:=by
       rw[ya1,yaf,yaf];omega
      rw[this,yaa];rcases ybv a s with c4|c4
      ·have:B1=[]:=yaq (by omega);subst this;exact ⟨A1,MG.left tA.1,rfl⟩
      ·have:A1=[]:=yaq (by omega);subst this;exact ⟨B1,MG.right tB.1,rfl⟩
    have lM:=hM1.len;obtain ⟨M2,hM2,t3⟩:∃M2,MG A2 B2 M2∧(bif decide ((md:Int)<((md+m-s:Nat):Int))&&decide (((md+m-s:Nat):Int)<(b:Int)) then qe p fuel (P++(M1++(A2++(B2++Q)))) (md:Int) ((md+m-s:Nat):Int) (b:Int) g else some (P++(M1++(A2++(B2++Q)))))=some (P++(M1++(M2++Q))):=by
     by_cases c3:md<md+m-s∧md+m-s<b
     ·rw[dlt c3.1,dlt c3.2,ybo,yac];obtain ⟨M2,q1,q2⟩:=ih (P++M1) A2 B2 Q (by omega) (by omega) (by omega) tA.2 tB.2 oA2 oB2 (by simp;omega) md (md+m-s) b (by simp;omega) (by omega) (by omega);simp only[yaX]at q2;exact ⟨M2,q1,q2⟩
     ·have:(decide ((md:Int)<((md+m-s:Nat):Int))&&decide (((md+m-s:Nat):Int)<(b:Int)))=false:=by
       rw[ya1,yaf,yaf];omega
      rw[this,yaa];rcases ybv md (md+m-s) with c4|c4
      ·have:B2=[]:=yaq (by omega);subst this;exact ⟨A2,MG.left tA.2,rfl⟩
      ·have:A2=[]:=yaq (by omega);subst this;exact ⟨B2,MG.right tB.2,rfl⟩
    refine ⟨M1++M2,MG.join hA hB hM1 hM2 s3 s4,?_⟩;have:=i63 _ _ _ _ _ _ (λl=>qbl p l (s:Int) (m:Int) ((md+m-s:Nat):Int) g) (λl=>qe p fuel l (a:Int) (s:Int) (md:Int) g) (λl=>qe p fuel l (md:Int) ((md+m-s:Nat):Int) (b:Int) g) t1 t2 t3;rw[this];simp only[yaX]
end
def dn (q:List Hold):Nat→List Hold
 |0=>[]
 |k+1=>rk (k:Int) q++dn q k
def a6d (q:List Hold):o7 q=dn q 10:=by
 simp[o7,dn]
def b3r (q:List Hold):∀n,a4w (dn q n)∧∀x∈dn q n,x.Rank<(n:Int):=by
 intro n
 induction n with
 |zero=>exact ⟨List.Pairwise.nil,λx hx=>by cases hx⟩
 |succ n ih=>
  refine ⟨a8g.2 ⟨?_,ih.1,λa ha b hb=>?_⟩,λx hx=>?_⟩
  ·exact List.pairwise_of_forall_mem_list λa ha b hb=>by rw[b9w ha,b9w hb];omega
  ·have:=b9w ha;have:=ih.2 b hb;omega
  ·rw[dn,yat]at hx;rcases hx with hx|hx
   ·have:=b9w hx;omega
   ·have:=ih.2 x hx;omega
def i8l (k j:Int) (q:List Hold):rk k (rk j q)=bif k==j then rk k q else []:=by
 by_cases h:k=j
 ·subst h;simp[rk,ybV]
 ·rw[show (k==j)=false by simpa using h,yaa];exact e8j λx hx=>by rw[b9w hx];exact λe=>h e.symm
def h52 (k:Int) (q:List Hold):∀n:Nat,rk k (dn q n)=bif decide (0≤k)&&decide (k<(n:Int)) then rk k q else []:=by
 intro n
 induction n with
 |zero=>rw[show (decide (0≤k)&&decide (k<((0:Nat):Int)))=false by rw[ya1,yaf,yaf];omega];rfl
 |succ n ih=>
  rw[dn,c7n,i8l,ih];by_cases h:k=(n:Int)
  ·subst h;rw[show (decide ((0:Int)≤(n:Int))&&decide ((n:Int)<((n+1:Nat):Int)))=true by rw[yae,yad,yad];omega,dge];simp
  ·rw[show (k==(n:Int))=false by simpa using h,yaa,yaU];congr 1;rw[show decide (k<(n:Int))=decide (k<((n+1:Nat):Int)) by rw[decide_eq_decide];omega]
def b1w:∀(m M:List Hold),M=m.reverse→a4w M→a5i ltR M=M:=by
 intro m
 induction m with
 |nil=>intro M h _;subst h;rfl
 |cons y m ih=>
  intro M h hs;rw[List.reverse_cons]at h;subst h;have h1:=a8g.1 hs;rw[a6p,ih _ rfl h1.1];have:=e43 (A:=m.reverse) (B:=[]) (y:=y) (λa ha=>h1.2.2 a ha y (yba.2 rfl)) (λb hb=>by cases hb);rw[yb8]at this;exact this
def d9o {l:List Hold} (hl:l.length<40) (hr:∀x∈l,rng 0 9 x.Rank=true):qej (λ(g:Unit×Unit) x0 x1=>qac x0 x1) l ((),())=some (o7 l):=by
 have hsw:∀q:List Hold,(∀x∈q,rng 0 9 x.Rank=true)→a5i (λy z=>decide (wr .i64 (z.Rank-y.Rank)<0)) q=o7 q:=λq hq=>by
  rw[(f1j q.reverse q (by simp) (λx hx y hy=>c7c x y (hq x hx) (hq y hy))).1];exact b6l q.reverse q (by simp) hq
 rcases ybv l.length 20 with h20|h20
 ·rw[h9u (lt:=λy z=>decide (wr .i64 (z.Rank-y.Rank)<0)) (λy z=>⟨_,rfl,rfl⟩) h20,hsw l hr]
 ·have hc:=ya4 20 l;have l1:(l.take 20).length=20:=by rw[yaH];omega
  have l2:(l.drop 20).length=l.length-20:=by rw[yaZ]
  have r1:∀x∈l.take 20,rng 0 9 x.Rank=true:=λx hx=>hr x (List.mem_of_mem_take hx)
  have r2:∀x∈l.drop 20,rng 0 9 x.Rank=true:=λx hx=>hr x (ybZ hx)
  generalize l.take 20=A at *;generalize l.drop 20=B at *;subst hc;simp only[yaT]at hl h20 l2;have hp:∀y z,∃n,(λ(g:Unit×Unit) x0 x1=>qac x0 x1) ((),()) y z=some n∧decide (n<0)=(λy z:Hold=>decide (wr .i64 (z.Rank-y.Rank)<0)) y z:=λy z=>⟨_,rfl,rfl⟩
  have i1:=e42 (p:=λ(g:Unit×Unit) x0 x1=>qac x0 x1) (g:=((),())) hp (pre:=[]) (l:=A) (rest:=B) (by simp) (by omega);rw[hsw A r1]at i1;simp only[ybh,yaI,yaU,l1]at i1;have lb:(o7 A).length=20:=by rw[←hsw A r1,a71,l1]
  have i2:=e42 (p:=λ(g:Unit×Unit) x0 x1=>qac x0 x1) (g:=((),())) hp (pre:=o7 A) (l:=B) (rest:=[]) (by omega) (by omega);rw[hsw B r2]at i2;simp only[yb8,lb]at i2;have h1:c6 (d9k (λ(g:Unit×Unit) x0 x1=>qac x0 x1)) (((20+B.length:Nat):Int),((),()),20,0,20,A++B,())=some (((20+B.length:Nat):Int),((),()),20,20,o7 A++B,()):=by
   refine o8 2 (by rw[o4];omega) ?_;have d:decide ((20:Int)≤((20+B.length:Nat):Int))=true:=by rw[yad];omega
   have d2:decide ((40:Int)≤((20+B.length:Nat):Int))=false:=by rw[yaf];omega
   have i1':qo (λ(g:Unit×Unit) x0 x1=>qac x0 x1) (A++B) 0 20 ((),())=some (o7 A++B):=i1;simp only[o9,d9k,d,yac,i1',show wr .i64 (20+20)=40 from rfl,d2,yaa]
  have i2':qo (λ(g:Unit×Unit) x0 x1=>qac x0 x1) (o7 A++B) 20 ((20+B.length:Nat):Int) ((),())=some (o7 A++o7 B):=i2;have h2:c6 (d0m (λ(g:Unit×Unit) x0 x1=>qac x0 x1)) (((20+B.length:Nat):Int),((),()),20,o7 A++o7 B,())=some (o7 (A++B),()):=by
   rcases Nat.eq_zero_or_pos B.length with hb|hb
   ·have:B=[]:=yaq hb;subst this;refine o8 1 (by rw[o4];omega) ?_;have d:decide ((20:Int)<((20+([]:List Hold).length:Nat):Int))=false:=rfl;simp only[o9,d0m,d,yaa,yb8];rw[show o7 ([]:List Hold)=[] from rfl,yb8]
   ·have sA:a4w (o7 A):=by rw[a6d];exact (b3r A 10).1
    have sB:a4w (o7 B):=by rw[a6d];exact (b3r B 10).1
    have lB:(o7 B).length=B.length:=by rw[←hsw B r2,a71]
    have mB:∀q:List Hold,(∀x∈q,rng 0 9 x.Rank=true)→okL (o7 q):=λq hq x hx=>by
     rw[a6d]at hx;have h9:=(b3r q 10).2 x hx;have:rk x.Rank (dn q 10)≠[]:=λe=>by
      have:x∈rk x.Rank (dn q 10):=yaD.2 ⟨hx,by simp⟩;rw[e]at this;cases this
     rw[h52]at this;cases hd:(decide (0≤x.Rank)&&decide (x.Rank<((10:Nat):Int))) with
     |true=>rw[yae,yad,yad]at hd;rw[a0a];omega
     |false=>rw[hd]at this;exact absurd rfl this
    obtain ⟨M,hM,e⟩:=d1j (p:=λ(g:Unit×Unit) x0 x1=>qac x0 x1) (g:=((),())) (λy z hy hz=>⟨_,rfl,c7c y z hy hz⟩) 64 [] (o7 A) (o7 B) [] (by omega) (by omega) (by omega) sA sB (mB A r1) (mB B r2) (by simp;omega) 0 20 (20+B.length) rfl (by omega) (by omega);simp only[yaU,yb8]at e;have hMr:M=o7 (A++B):=by
     have oM:okL M:=λx hx=>by
      rcases hM.mem hx with h|h
      ·exact mB A r1 x h
      ·exact mB B r2 x h
     have e1:o7 M=M:=by rw[←b6l M.reverse M (by simp) oM];exact b1w M.reverse M (by simp) hM.srt
     rw[←e1];have ek:∀k:Int,0≤k→k<10→rk k M=rk k (A++B):=λk k0 k9=>by
      rw[hM.rks,a6d,a6d,h52,h52,show (decide (0≤k)&&decide (k<((10:Nat):Int)))=true by rw[yae,yad,yad];omega,c7n]
      try rfl
     unfold o7;rw[ek 9 (by omega) (by omega),ek 8 (by omega) (by omega),ek 7 (by omega) (by omega),ek 6 (by omega) (by omega),ek 5 (by omega) (by omega),ek 4 (by omega) (by omega),ek 3 (by omega) (by omega),ek 2 (by omega) (by omega),ek 1 (by omega) (by omega),ek 0 (by omega) (by omega)]
    refine o8 2 (by rw[o4];omega) ?_;have d:decide ((20:Int)<((20+B.length:Nat):Int))=true:=by rw[yad];omega
    have d3:decide ((40:Int)<((20+B.length:Nat):Int))=false:=by rw[yaf];omega
    have d4:decide ((40:Int)≤((20+B.length:Nat):Int))=false:=by rw[yaf];omega
    have h9:c6 (f9q (λ(g:Unit×Unit) x0 x1=>qac x0 x1)) (((20+B.length:Nat):Int),((),()),20,0,40,o7 A++o7 B,())=some (((20+B.length:Nat):Int),((),()),20,0,o7 A++o7 B,()):=by
     refine o8 1 (by rw[o4];omega) ?_;simp only[o9,f9q,d4,yaa]
    have e':qe (λ(g:Unit×Unit) x0 x1=>qac x0 x1) 64 (o7 A++o7 B) 0 20 ((20+B.length:Nat):Int) ((),())=some M:=e;simp only[o9,d0m,d,yac,show wr .i64 (2*20)=40 from rfl,h9,show wr .i64 (0+20)=20 from rfl,e',show wr .i64 (20*2)=40 from rfl,d3,yaa,hMr]
  unfold qej qp;rw[yaT,l1,h1];simp only[i2',h2]
end
end Go.Proofs.YtnajckeiaobmkaaGreatDoor
