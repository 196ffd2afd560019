/- CircKeeps: a part of the proof of the given statement, which is proved without conditions. -/
import Derived.Test.YtcebdbdfgkahkaaGreatDoorK6
set_option linter.all false
namespace Go.Proofs.YtcebdbdfgkahkaaGreatDoor
open Ev
open Go (IntKind)
section
theorem a1l {c d:Circ} (h:MidP c) {i:Nat} {x:Item} (hx:c.Items[i]?=some x) {kind branch who:Int} (e:qgn c x.ID kind branch who=some (d,0)) :
 ∃u,p8 x.Custody ⟨c.Today,x.ID,kind,branch,who⟩=(u,0)∧c.Moves.length<2000∧d=u0 c i x ⟨c.Today,x.ID,kind,branch,who⟩ u∧MidP d:=by
 have hmv:=h.moves;rcases a1w h hx kind branch who with ⟨u,ha,-,m2,hm2⟩|⟨e',he,-,m2⟩
 ·rw[m2]at e;cases e
  have rm:=c57 (kind:=kind) (branch:=branch) (who:=who) h.short (by omega) (a6t h hx) hx rfl;rw[m2,ha]at rm;refine ⟨u,ha,?_,rfl,hm2⟩;by_cases hl:c.Moves.length<2000
  ·exact hl
  ·have e1:a6u c 0=13:=by
    unfold a6u;rw[show decide (2000≤(c.Moves.length:Int))=true by rw[yad];omega];rfl
   rw[e1]at rm;have q:(0:Int)=13:=congrArg Prod.snd (ybR rm);exact absurd q (by decide)
 ·rw[m2]at e;cases e
  exact absurd rfl he
theorem c2l.b {a:Option (Unit×Circ_desk)} {b:Option (Circ×Int)} {Q:Circ→Prop} (h:c2l a b Q) {d:Circ} (e:b=some (d,0)):Q d:=by
 rcases h with ⟨d',-,h2,h3⟩|⟨d',e',he,-,h2,-⟩
 ·rw[e]at h2;cases h2
  exact h3
 ·rw[e]at h2;cases h2
  exact absurd rfl he
def Rdy (c d:Circ) (i:Nat) (x:Item) (o:Hold):Prop:=∃u l un,p8 x.Custody ⟨c.Today,x.ID,5,x.Custody.Branch,o.Patron⟩=(u,0)∧c.Moves.length<2000∧a2v c.Holds o.ID x.ID 3 un=(l,0)∧d=i7 (u0 c i x ⟨c.Today,x.ID,5,x.Custody.Branch,o.Patron⟩ u) l
theorem c6m {c d:Circ} (h:MidP c) {i:Nat} {x:Item} (hx:c.Items[i]?=some x) {o:Hold} (e:qgm c x.ID o=some (d,0)):Rdy c d i x o:=by
 obtain ⟨r,b,hr,_⟩:=b1d (p:=o.Patron) (x:=x) h.short;have hb:=h.branch x (yag hx);unfold qgm at e;simp -zeta only[a6t h hx,c9,hx,hr]at e;have key:∀days:Int,(match qgn c x.ID 5 x.Custody.Branch o.Patron with
  |some (r6,r7)=>bif !(r7==0) then some (o7,r7) else
   match qhl r6 x.Custody.Branch with
   |some r9=>(match qgx r9 r6.Today days with
    |some (r11,r12)=>bif !(r12==0) then some (o7,r12) else
     match qgt r6.Holds o.ID x.ID 3 r11 with
     |some (r14,r15)=>bif !(r15==0) then some (o7,r15) else some ({r6 with Holds:=r14},0)
     |none=>none
    |none=>none)
   |none=>none
  |none=>none)=some (d,0)→Rdy c d i x o:=by
  intro days e;cases hm:qgn c x.ID 5 x.Custody.Branch o.Patron with
  |none=>rw[hm]at e;cases e
  |some p=>
   obtain ⟨c2,e2⟩:=p;rw[hm]at e;dsimp only at e;by_cases he2:e2=0
   ·subst he2;obtain ⟨u,ha,hl,rfl,hm2⟩:=a1l h hx hm;simp only[yah,yaj,yaa,b9n hb]at e;obtain ⟨dd,ee,hq⟩:=a8m (hm2.cal x.Custody.Branch) (u0 c i x ⟨c.Today,x.ID,5,x.Custody.Branch,o.Patron⟩ u).Today days;rw[hq]at e;dsimp only at e;by_cases hee:ee=0
    ·subst hee;simp only[yah,yaj,yaa,d31 hm2.short.holds hm2.sorted]at e;generalize hc:a2v (u0 c i x ⟨c.Today,x.ID,5,x.Custody.Branch,o.Patron⟩ u).Holds o.ID x.ID 3 dd=q at e;obtain ⟨l,e3⟩:=q;dsimp only at e;by_cases he3:e3=0
     ·subst he3;simp only[yah,yaj,yaa]at e;cases e
      exact ⟨u,l,dd,ha,hl,hc,rfl⟩
     ·rw[show (e3==0)=false by simpa using he3]at e;simp only[yan,yab]at e;cases e
      exact absurd rfl he3
    ·rw[show (ee==0)=false by simpa using hee]at e;simp only[yan,yab]at e;cases e
     exact absurd rfl hee
   ·rw[show (e2==0)=false by simpa using he2]at e;simp only[yan,yab]at e;cases e
    exact absurd rfl he2
 cases b with
 |true=>exact key _ e
 |false=>exact key _ e
inductive Aw (c d:Circ) (i:Nat) (x:Item):Prop
 |stay (h0:qcw c x=some 0) (h3:x.Custody.State=3) (hd:d=c)
 |move (h0:qcw c x=some 0) (kind branch:Int) (hk:kind=6∨kind=2) (u:Custody) (ha:p8 x.Custody ⟨c.Today,x.ID,kind,branch,0⟩=(u,0)) (hl:c.Moves.length<2000) (hd:d=u0 c i x ⟨c.Today,x.ID,kind,branch,0⟩ u)
 |ready (o:Hold) (ho:o∈c.Holds) (hw:z8 x.Record c.Today o=true) (hp:o.Pickup=x.Custody.Branch) (hr:Rdy c d i x o)
 |send (o:Hold) (ho:o∈c.Holds) (hw:z8 x.Record c.Today o=true) (u:Custody) (l:List Hold) (ha:p8 x.Custody ⟨c.Today,x.ID,6,o.Pickup,o.Patron⟩=(u,0)) (hl:c.Moves.length<2000) (hc:a2v c.Holds o.ID x.ID 2 0=(l,0))
  (hd:d=i7 (u0 c i x ⟨c.Today,x.ID,6,o.Pickup,o.Patron⟩ u) l)
theorem c0d {c d:Circ} (h:MidP c) {i:Nat} {x:Item} (hx:c.Items[i]?=some x) (e:qg3 c x.ID=some (d,0)):Aw c d i x:=by
 obtain ⟨v,p1,p2,g1,g2⟩:=a8p h hx;unfold qg3 at e;simp -zeta only[a6t h hx,c9,hx,p2,b1s h.short.holds]at e;dsimp only at e;by_cases hv:v=0
 ·subst hv;simp only[yah,yab]at e;have mv:∀kind branch:Int,(kind=6∨kind=2)→(match qgn c x.ID kind branch 0 with|some (r5,r6)=>some (r5,r6)|none=>none)=some (d,0)→Aw c d i x:=by
   intro kind branch hk e;cases hm:qgn c x.ID kind branch 0 with
   |none=>rw[hm]at e;cases e
   |some p=>
    obtain ⟨c2,e2⟩:=p;rw[hm]at e;cases e
    obtain ⟨u,ha,hl,hd,-⟩:=a1l h hx hm;exact .move p1 kind branch hk u ha hl hd
  cases hb:x.Branch==x.Custody.Branch with
  |false=>
   rw[hb]at e;exact mv 6 _ (.inl rfl) e
  |true=>
   rw[hb]at e;simp only[yaj,yaa]at e;cases h3:x.Custody.State==3 with
   |true=>
    rw[h3]at e;cases e
    exact .stay p1 (by simpa using h3) rfl
   |false=>
    rw[h3]at e;exact mv 2 _ (.inr rfl) e
 ·obtain ⟨o,ho,hoi,hg,hw⟩:=g2 hv;rw[show (v==0)=false by simpa using hv,hg]at e;simp only[yaa]at e;cases hpk:o.Pickup==x.Custody.Branch with
  |true=>
   rw[hpk]at e;simp only[yab]at e;cases hm:qgm c x.ID o with
   |none=>rw[hm]at e;cases e
   |some p=>
    obtain ⟨c2,e2⟩:=p;rw[hm]at e;cases e
    exact .ready o ho hw (by simpa using hpk) (c6m h hx hm)
  |false=>
   rw[hpk]at e;simp only[yaa]at e;cases hm:qgn c x.ID 6 o.Pickup o.Patron with
   |none=>rw[hm]at e;cases e
   |some p=>
    obtain ⟨c2,e2⟩:=p;rw[hm]at e;dsimp only at e;by_cases he2:e2=0
    ·subst he2;obtain ⟨u,ha,hl,rfl,hm2⟩:=a1l h hx hm;simp only[yah,yaj,yaa,d31 hm2.short.holds hm2.sorted]at e;generalize hc:a2v (u0 c i x ⟨c.Today,x.ID,6,o.Pickup,o.Patron⟩ u).Holds v x.ID 2 0=q at e;obtain ⟨l,e3⟩:=q;dsimp only at e;by_cases he3:e3=0
     ·subst he3;simp only[yah,yaj,yaa]at e;cases e
      exact .send o ho hw u l ha hl (by rw[hoi];exact hc) rfl
     ·rw[show (e3==0)=false by simpa using he3]at e;simp only[yan,yab]at e;cases e
      exact absurd rfl he3
    ·rw[show (e2==0)=false by simpa using he2]at e;simp only[yan,yab]at e;cases e
     exact absurd rfl he2
end
section
theorem a9z {l m:List Hold} (hs:∀i x,l[i]?=some x→u7 l i (fun y=>decide (x.ID≤y.ID))=false) {id it st un:Int} (h:a2v l id it st un=(m,0)) :
 ∃o∈l,o.ID=id∧(1≤it∧it≤9999)∧((st=3∧1≤un∧un≤109572)∨(st=2∧un=0))∧(o.State=1∨(o.State=2∧o.Got=it∧st=3))∧(∀p∈l,p.Got=it→p.ID=id)∧m=b7p l o.ID (c1c o it st un):=by
 unfold a2v at h;rcases j6 (fun x:Hold=>x.ID==id) l with ⟨h1,h2⟩|⟨i,x,h1,h2,h3,h4⟩
 ·rw[h2]at h;cases h
 ·rw[h4]at h;simp only at h;have hid:x.ID=id:=by simpa using h3
  cases hq:(!(rng 1 9999 it)||!(okS st un)) with
  |true=>rw[hq]at h;cases h
  |false=>
   rw[hq]at h;simp only[yaa]at h;cases hq2:(!(x.State==1)&&((!(x.State==2)||!(x.Got==it))||!(st==3))) with
   |true=>rw[hq2]at h;cases h
   |false=>
    rw[hq2]at h;simp only[yaa]at h;cases hq3:l.any (fun o=>o.Got==it&&!(o.ID==id)) with
    |true=>rw[hq3]at h;cases h
    |false=>
     rw[hq3]at h;simp only[yaa,h1,yay,yaO,and_true]at h;subst h;simp only[yai,yau,w8]at hq;refine ⟨x,yag h2,hid,hq.1,?_,?_,fun p hp e=>?_,?_⟩
     ·have:=hq.2;unfold okS at this;simp only[ybi,yae,ya2,w8]at this;rcases this with q|q
      ·exact .inl ⟨q.1,q.2.1,q.2.2⟩
      ·exact .inr q
     ·simp only[ybk,yai,yau,ya2]at hq2;rcases hq2 with q|q
      ·exact .inl q
      ·exact .inr ⟨q.1.1,q.1.2,q.2⟩
     ·rw[ybY]at hq3;have:=hq3 p hp;simp only[yae,ya2,yao,yaV,ne_eq,not_and,Decidable.not_not]at this;exact this e
     ·exact (a8n hs h2 (y:=c1c x it st un) rfl).symm
theorem e2e {o:Hold} (h:s9 o=0) {it st un:Int} (h1:1≤it∧it≤9999) (h2:(st=3∧1≤un∧un≤109572)∨(st=2∧un=0)):s9 (c1c o it st un)=0:=by
 rw[e8x]at h ⊢;obtain ⟨⟨a1,a2,a3,a4,a5,a6,a7,a8,a9,a10⟩,b,c,d⟩:=h;have e1:1≤st∧st≤3:=by omega
 have e2:¬st=1:=by omega
 have e3:0≤un∧un≤109572:=by omega
 have e4:0<un↔st=3:=by omega
 exact ⟨⟨a1,a2,a3,a4,a5,a6,.inr h1,e3,a9,a10⟩,e1,⟨fun _=>e2,fun _=>(by have:=h1.1;show 0<it;omega)⟩,e4⟩
theorem Val.catch {it:Int} {c:Circ} (v:Val it c) {id st un:Int} {l:List Hold} (h:a2v c.Holds id it st un=(l,0)) {x:Item} (hx:x∈c.Items) (hi:x.ID=it) (hr:∀o∈c.Holds,o.ID=id→x.Record=o.Record):Val it (i7 c l):=by
 obtain ⟨o,ho,hid,h1,h2,h3,h4,rfl⟩:=a9z (a0a v.holds) h;refine v.swap ho rfl rfl rfl (e2e (a1k v.holds ho) h1 h2) (fun z hz _ e=>(h4 z hz e).trans hid.symm) (.inl (by omega)) (fun _=>⟨rfl,x,hx,hi,hr o ho hid⟩)
def b6v (c:Circ) (it:Int):Prop:=∀n∈c.Loans,n.Item≠it
def b92 (c:Circ) (it:Int):Prop:=∀h∈c.Holds,h.State≠1→h.Got≠it
theorem e5v {c d:Circ} {i:Nat} {x:Item} {o:Hold} (v:Val x.ID c) (hx:c.Items[i]?=some x) (hl:b6v c x.ID) (ho:o∈c.Holds) (hrec:x.Record=o.Record) (hp:o.Pickup=x.Custody.Branch)
 (hf:∀h∈c.Holds,h.State≠1→h.Got=x.ID→h.ID=o.ID) (r:Rdy c d i x o):Val 0 d:=by
 obtain ⟨u,l,un,ha,hlen,hc,rfl⟩:=r;have v2:=v.move hx rfl ha hlen;have hm:y3 u x∈(u0 c i x ⟨c.Today,x.ID,5,x.Custody.Branch,o.Patron⟩ u).Items:=(a1d v.items hx).2 (.inr rfl);have v3:=v2.catch hc hm rfl (fun p hp e=>by rw[a6r v.holds hp ho e];exact hrec);have hu:u=⟨5,x.Custody.Branch,o.Patron,0⟩:=(c7o ha).res;obtain ⟨p,hpm,hid,h1,h2,h3,h4,rfl⟩:=a9z (a0a v.holds) hc;have:=a6r v.holds hpm ho hid;subst this;refine v3.close hm rfl (fun n hn e=>absurd e (hl n hn)) (fun h=>?_) (fun h hh hs1 hg=>?_) (fun _=>⟨c1c p x.ID 3 un,(a34 hpm).2 (.inr rfl),rfl,rfl⟩)
 ·rw[show (y3 u x).Custody=u from rfl,hu]at h;cases h
 ·rw[show (y3 u x).Custody=u from rfl,hu];rcases (a34 hpm).1 hh with ⟨hh,hne⟩|rfl
  ·exact absurd (hf h hh hs1 hg) hne
  ·exact ⟨fun _=>⟨rfl,hp.symm,rfl⟩,fun e=>absurd (show (3:Int)=2 from e) (by decide)⟩
theorem b0q {r t:Int} {o:Hold} (h:z8 r t o=true):o.Record=r∧o.State=1∧o.Asleep≤t:=by
 unfold z8 at h;simp only[yae,ya2,yad]at h;exact ⟨h.1.1,h.1.2,h.2⟩
theorem d9b {c d:Circ} {i:Nat} {x:Item} (v:Val x.ID c) (hx:c.Items[i]?=some x) (hl:b6v c x.ID) (hf:b92 c x.ID) (r:Aw c d i x):Val 0 d:=by
 have hm0:=yag hx;cases r with
 |stay _ h3 hd=>
  subst hd;refine v.close hm0 rfl (fun n hn e=>absurd e (hl n hn)) (fun h=>?_) (fun h hh hs1 hg=>absurd hg (hf h hh hs1)) (fun h=>by omega);unfold a2i at h;rw[h3]at h;cases h
 |move _ kind branch hk u ha hlen hd=>
  subst hd;have v2:=v.move hx rfl ha hlen;have hm:y3 u x∈(u0 c i x ⟨c.Today,x.ID,kind,branch,0⟩ u).Items:=(a1d v.items hx).2 (.inr rfl);have hu:=(c7o ha).res;have hs:u.State=6∨u.State=3:=by
   rcases hk with rfl|rfl
   ·left;rw[hu];rfl
   ·right;rw[hu];rfl
  refine v2.close hm rfl (fun n hn e=>absurd e (hl n hn)) (fun h=>?_) (fun h hh hs1 hg=>absurd hg (hf h hh hs1)) (fun h=>?_)
  ·rw[show (y3 u x).Custody=u from rfl,a0i]at h;rcases hs with e|e<;>rw[e]at h<;>cases h
  ·rw[show (y3 u x).Custody=u from rfl]at h;omega
 |ready o ho hw hp hr=>exact e5v v hx hl ho (b0q hw).1.symm hp (fun h hh hs1 hg=>absurd hg (hf h hh hs1)) hr
 |send o ho hw u l ha hlen hc hd=>
  subst hd;have v2:=v.move hx rfl ha hlen;have hm:y3 u x∈(u0 c i x ⟨c.Today,x.ID,6,o.Pickup,o.Patron⟩ u).Items:=(a1d v.items hx).2 (.inr rfl);have v3:=v2.catch hc hm rfl (fun p hp e=>by rw[a6r v.holds hp ho e];exact (b0q hw).1.symm);have hu:u=⟨6,x.Custody.Branch,o.Patron,o.Pickup⟩:=(c7o ha).res;obtain ⟨p,hpm,hid,h1,h2,h3,h4,rfl⟩:=a9z (a0a v.holds) hc;have:=a6r v.holds hpm ho hid;subst this;refine v3.close hm rfl (fun n hn e=>absurd e (hl n hn)) (fun h=>?_) (fun h hh hs1 hg=>?_) (fun h=>?_)
  ·rw[show (y3 u x).Custody=u from rfl,hu]at h;cases h
  ·rw[show (y3 u x).Custody=u from rfl,hu];rcases (a34 hpm).1 hh with ⟨hh,hne⟩|rfl
   ·exact absurd hg (hf h hh hs1)
   ·exact ⟨fun e=>absurd (show (2:Int)=3 from e) (by decide),fun _=>⟨rfl,rfl,rfl⟩⟩
  ·rw[show (y3 u x).Custody=u from rfl,hu]at h;cases h
def a9s (c:Circ) (x:Item):Prop:=∀o∈c.Holds,z8 x.Record c.Today o=true→(o.Item==0||o.Item==x.ID)=false
theorem b43 (b:Int) (v:Bool) (x:Item) (h:Hold) (f:Int):((h.Item==0||h.Item==x.ID)=false∧b7i b v x h f=.inl f)∨((h.Item==0||h.Item==x.ID)=true∧(b7i b v x h f=.inr h.ID∨b7i b v x h f=.inl (bif f==0 then h.ID else f))):=by
 unfold b7i;cases h.Item==0<;>cases h.Item==x.ID<;>cases (!v||h.Pickup==b)<;>simp
theorem f4t {b:Int} {v:Bool} {x:Item}:∀{q:List Hold} {f:Int},(∀h∈q,h.ID≠0)→f≠0→b45 b v x q f≠0:=by
 intro q
 induction q with
 |nil=>intro f _ hf;exact hf
 |cons h q ih=>
  intro f hq hf;have hq2:=fun y hy=>hq y (yaC _ hy)
  unfold b45;rcases b43 b v x h f with ⟨-,e⟩|⟨-,e|e⟩
  ·rw[e];exact ih hq2 hf
  ·rw[e];exact hq h (yaA ..)
  ·rw[e];have h0:(f==0)=false:=by simpa using hf
   rw[h0];exact ih hq2 hf
theorem d6u {b:Int} {v:Bool} {x:Item}:∀{q:List Hold},(∀h∈q,h.ID≠0)→(b45 b v x q 0=0↔∀h∈q,(h.Item==0||h.Item==x.ID)=false):=by
 intro q
 induction q with
 |nil=>intro _;exact ⟨fun _ h hh=>(by cases hh),fun _=>rfl⟩
 |cons h q ih=>
  intro hq;have hq2:=fun y hy=>hq y (yaC _ hy)
  have h1:=hq h (yaA ..);unfold b45;rcases b43 b v x h 0 with ⟨k,e⟩|⟨k,e|e⟩
  ·rw[e];constructor
   ·intro p y hy;rcases yaN.1 hy with rfl|hy
    ·exact k
    ·exact (ih hq2).1 p y hy
   ·intro p;exact (ih hq2).2 (fun y hy=>p y (yaC _ hy))
  ·rw[e];constructor
   ·intro p;exact absurd p h1
   ·intro p;have:=p h (yaA ..);rw[k]at this;cases this
  ·rw[e];constructor
   ·intro p;exact absurd p (f4t hq2 h1)
   ·intro p;have:=p h (yaA ..);rw[k]at this;cases this
theorem d6p {q:List Hold} {o:Hold} (h:o∈q) (hr:rng 0 9 o.Rank=true):o∈w7 q:=by
 rw[w8]at hr;have k:∀n:Int,o.Rank=n→o∈rk n q:=fun n e=>yaz.2 ⟨h,by simpa using e⟩
 have:o.Rank=0∨o.Rank=1∨o.Rank=2∨o.Rank=3∨o.Rank=4∨o.Rank=5∨o.Rank=6∨o.Rank=7∨o.Rank=8∨o.Rank=9:=by omega
 unfold w7;simp only[yas];rcases this with e|e|e|e|e|e|e|e|e|e<;>simp[k _ e]
theorem e4n {c:Circ} (h:MidP c) (x:Item) (branch:Int):∃v,qbj c.Holds x branch c.Today c.Local=some v∧(v=0↔a9s c x):=by
 refine ⟨_,f4m h x branch,?_⟩;have hm:∀o∈w7 (c.Holds.filter (z8 x.Record c.Today)),o∈c.Holds∧z8 x.Record c.Today o=true:=fun o ho=>yaz.1 (a3r ho)
 rw[d6u (fun o ho=>(h.rank o (hm o ho).1).2)];constructor
 ·intro p o ho hw;exact p o (d6p (yaz.2 ⟨ho,hw⟩) (h.rank o ho).1)
 ·intro p o ho;exact p o (hm o ho).1 (hm o ho).2
theorem d3w {c:Circ} (h:MidP c) {x:Item} (e:qcw c x=some 0):a9s c x:=by
 obtain ⟨v,hv,hz⟩:=e4n h x x.Custody.Branch;unfold qcw at e;rw[hv]at e;cases e
 exact hz.1 rfl
end
section
def c7i (d c:Circ):Prop:=d.Today=c.Today∧∀o∈d.Holds,o.State=1→o∈c.Holds
theorem c7i.refl (c:Circ):c7i c c:=⟨rfl,fun _ h _=>h⟩
theorem c7i.trans {a b c:Circ} (h:c7i a b) (k:c7i b c):c7i a c:=⟨h.1.trans k.1,fun o ho hs=>k.2 o (h.2 o ho hs) hs⟩
theorem a9s.less {c d:Circ} {x y:Item} (h:a9s c x) (l:c7i d c) (e1:y.ID=x.ID) (e2:y.Record=x.Record):a9s d y:=by
 intro o ho hw;rw[l.1,e2]at hw;rw[e1];exact h o (l.2 o ho (b0q hw).2.1) hw
structure Stp (c d:Circ):Prop where
 pats:d.Patrons=c.Patrons
 cals:d.Cals=c.Cals
 rules:d.Rules=c.Rules
 moves:∃m,d.Moves=c.Moves++m
theorem Stp.refl (c:Circ):Stp c c:=⟨rfl,rfl,rfl,[],by simp⟩
theorem Stp.trans {a b c:Circ} (h:Stp a b) (k:Stp b c):Stp a c:=by
 obtain ⟨m,e⟩:=h.moves;obtain ⟨n,f⟩:=k.moves;exact ⟨k.pats.trans h.pats,k.cals.trans h.cals,k.rules.trans h.rules,m++n,by rw[f,e,ybz]⟩
theorem a06 {c:Circ} {i:Nat} {x:Item} {m:Move} {u:Custody}:Stp c (u0 c i x m u):=⟨rfl,rfl,rfl,[m],rfl⟩
theorem a5h {c:Circ} {l:List Hold}:Stp c (i7 c l):=⟨rfl,rfl,rfl,[],by simp[i7]⟩
theorem b0i {c:Circ} {l:List Loan}:Stp c (i4 c l):=⟨rfl,rfl,rfl,[],by simp[i4]⟩
theorem d9y {c:Circ} {l:List Charge} {n:Int}:Stp c (a5p c l n):=⟨rfl,rfl,rfl,[],by simp[a5p]⟩
def d8i (it:Int) (c:Circ):Prop:=∀y∈c.Items,y.ID≠it→y.Custody.State=3→a9s c y
def b1g (c:Circ):Prop:=∀y∈c.Items,y.Custody.State=3→a9s c y
theorem b0s {c:Circ} (hs:t7 c.Holds=0) {id it st un:Int} {l:List Hold} (h:a2v c.Holds id it st un=(l,0)):c7i (i7 c l) c:=by
 obtain ⟨o,ho,hid,h1,h2,h3,h4,rfl⟩:=a9z (a0a hs) h;refine ⟨rfl,fun z hz e=>?_⟩;rcases (a34 ho).1 hz with ⟨hz,_⟩|rfl
 ·exact hz
 ·have e:st=1:=e;omega
structure AwF (c d:Circ) (i:Nat) (x:Item):Prop where
 items:∃u,d.Items=c.Items.set i (y3 u x)∧(u.State=3→qcw c x=some 0)
 stp:Stp c d
 less:c7i d c
theorem c0c {c d:Circ} {i:Nat} {x:Item} (hs:t7 c.Holds=0) (hx:c.Items[i]?=some x) (r:Aw c d i x):AwF c d i x:=by
 cases r with
 |stay h0 h3 hd=>subst hd;exact ⟨⟨x.Custody,(d4b hx).symm,fun _=>h0⟩,.refl _,.refl _⟩
 |move h0 kind branch hk u ha hlen hd=>subst hd;exact ⟨⟨u,rfl,fun _=>h0⟩,a06,⟨rfl,fun o ho _=>ho⟩⟩
 |ready o ho hw hp hr=>
  obtain ⟨u,l,un,ha,hlen,hc,rfl⟩:=hr;have hl:=b0s (c:=u0 c i x ⟨c.Today,x.ID,5,x.Custody.Branch,o.Patron⟩ u) hs hc;refine ⟨⟨u,rfl,fun e=>?_⟩,a06.trans a5h,hl.trans ⟨rfl,fun o ho _=>ho⟩⟩;rw[show u=⟨5,x.Custody.Branch,o.Patron,0⟩ from (c7o ha).res]at e;exact absurd (show (5:Int)=3 from e) (by decide)
 |send o ho hw u l ha hlen hc hd=>
  subst hd;have hl:=b0s (c:=u0 c i x ⟨c.Today,x.ID,6,o.Pickup,o.Patron⟩ u) hs hc;refine ⟨⟨u,rfl,fun e=>?_⟩,a06.trans a5h,hl.trans ⟨rfl,fun o ho _=>ho⟩⟩;rw[show u=⟨6,x.Custody.Branch,o.Patron,o.Pickup⟩ from (c7o ha).res]at e;exact absurd (show (6:Int)=3 from e) (by decide)
theorem a5i {c:Circ} (h:a04 c=true) {i:Nat} {x:Item} (hx:c.Items[i]?=some x) {u:Custody} {y:Item}:y∈c.Items.set i (y3 u x)↔(y∈c.Items∧y.ID≠x.ID)∨y=y3 u x:=a1d (m:=⟨0,0,0,0,0⟩) h hx
theorem d9a {c d:Circ} {i:Nat} {x:Item} (hi:a04 c=true) (m:MidP c) (hx:c.Items[i]?=some x) (f:AwF c d i x) (h:d8i x.ID c):b1g d:=by
 obtain ⟨u,e,hu⟩:=f.items;intro y hy h3;rw[e,a5i hi hx]at hy;rcases hy with ⟨hy,hne⟩|rfl
 ·exact (h y hy hne h3).less f.less rfl rfl
 ·exact (d3w m (hu h3)).less f.less rfl rfl
theorem ma {c c1 d:Circ} {i:Nat} {x:Item} {kind branch who:Int} (v:Val x.ID c) (m:MidP c) (hx:c.Items[i]?=some x) (hl:b6v c x.ID) (hf:b92 c x.ID)
 (e1:qgn c x.ID kind branch who=some (c1,0)) (e2:qg3 c1 x.ID=some (d,0)):Val 0 d∧Stp c d∧c7i d c∧(d8i x.ID c→b1g d):=by
 obtain ⟨u,ha,hlen,rfl,m1⟩:=a1l m hx e1;have v1:=v.move hx rfl ha hlen;have hx1:=a3i hx ⟨c.Today,x.ID,kind,branch,who⟩ u;have r:=c0d m1 (x:=y3 u x) hx1 e2;have f:=c0c v1.holds hx1 r;refine ⟨d9b (x:=y3 u x) v1 hx1 hl hf r,a06.trans f.stp,f.less.trans ⟨rfl,fun o ho _=>ho⟩,fun h=>d9a v1.items m1 hx1 f (fun y hy hne h3=>?_)⟩;rcases (a1d v.items hx).1 hy with ⟨hy,_⟩|rfl
 ·exact h y hy hne h3
 ·exact absurd rfl hne
theorem Val.lfree {c:Circ} (v:Val 0 c) {x:Item} (hx:x∈c.Items) (h:a2i x.Custody=false):b6v c x.ID:=by
 intro n hn e;obtain ⟨y,hy,hi,hw⟩:=v.loanI n hn;have:=y5 v.items hy hx (hi.trans e);subst this;have:=a05 v.items hy;rw[(hw (by omega)).1]at h;cases h
theorem Val.hfree {c:Circ} (v:Val 0 c) {x:Item} (hx:x∈c.Items) (h5:x.Custody.State≠5) (h6:x.Custody.State≠6):b92 c x.ID:=by
 intro o ho hs1 e;obtain ⟨y,hy,hi,-,hw⟩:=v.holdI o ho hs1;have:=y5 v.items hy hx (hi.trans e);subst this;have:=a05 v.items hy;have hw:=hw (by omega);rcases (a7x (a1k v.holds ho)).2.2.2.1 with q|q|q
 ·exact hs1 q
 ·exact h6 (hw.2 q).1
 ·exact h5 (hw.1 q).1
theorem b1g.x {c:Circ} (h:b1g c) (it:Int):d8i it c:=fun y hy _ h3=>h y hy h3
theorem c4p {c v:Circ} (h:MidP c) {record:Int} {i:Nat} {x:Item} (hx:c.Items[i]?=some x):∃w,qcw c x=some w∧
 a5l (record,(i:Int),c,v,())=(bif (x.Record==record&&x.Custody.State==3)&&!(w==0) then (match qg3 c x.ID with|some (r5,r6)=>(bif !(r6==0) then some (.inr (.inr (r6,o7,()))) else some (.inl (record,((i+1:Nat):Int),r5,v,())))|none=>none) else some (.inl (record,((i+1:Nat):Int),c,v,()))):=by
 obtain ⟨w,p1,p2,-,-⟩:=a8p h hx;refine ⟨w,p1,?_⟩;have hlt:=(zL hx)
 have:=h.short.items;simp -zeta only[a5l,dlt hlt,yab,c9,hx,p2,z6,g9 (show i<9223372036854775807 by omega)];dsimp only;cases x.Record==record<;>cases x.Custody.State==3<;>cases w==0<;>rfl
structure LentI (record:Int) (c0 c:Circ) (k:Nat):Prop where
 mid:MidP c
 val:Val 0 c
 stp:Stp c0 c
 less:c7i c c0
 done:∀(j:Nat) (y:Item),j<k→c.Items[j]?=some y→y.Record=record→y.Custody.State=3→a9s c y
 rest:∀y∈c.Items,y.Record≠record→y∈c0.Items
 shelf:∀y∈c.Items,y.Custody.State=3→y∈c0.Items
theorem c1k {c d:Circ} {record:Int} (m:MidP c) (v:Val 0 c) (e:qg1 c record=some (d,0)):LentI record c d d.Items.length:=by
 unfold qg1 at e;cases hw:b9 a5l (record,0,c,o7,()) with
 |none=>rw[show b9 a5l (record,0,c,ZN,())=_ from hw]at e;cases e
 |some r=>
  rw[show b9 a5l (record,0,c,ZN,())=_ from hw]at e;obtain ⟨b,⟨hb1,k,hb2,hk,I⟩,hb⟩:=a8w (fun s:Int×Int×Circ×Circ×Unit=>s.1=record∧∃k:Nat,s.2.1=(k:Int)∧k≤s.2.2.1.Items.length∧LentI record c s.2.2.1 k) (by
   rintro ⟨rr,ii,c1,v1,_⟩ ⟨rr2,ii2,c2,v2,_⟩ ⟨h1,k,h2,hk,I⟩ hs;dsimp only at h1 h2 hk I;subst h1 h2;by_cases hlt:k<c1.Items.length
   ·have hx:c1.Items[k]?=some (c1.Items[k]):=yac hlt;generalize c1.Items[k]=x at hx;obtain ⟨w,p1,hst⟩:=c4p (v:=v1) (record:=rr) I.mid hx;rw[hst]at hs;cases hq:(x.Record==rr&&x.Custody.State==3)&&!(w==0) with
    |false=>
     rw[hq]at hs;cases hs
     refine ⟨rfl,k+1,rfl,(by show k+1≤c1.Items.length;omega),I.mid,I.val,I.stp,I.less,fun j y hj hy hr h3=>?_,I.rest,I.shelf⟩;by_cases ejk:j=k
     ·subst ejk;rw[hx]at hy;cases hy
      rw[hr,h3]at hq;have:w=0:=by simpa using hq
      subst this;exact d3w I.mid p1
     ·exact I.done j y (by omega) hy hr h3
    |true=>
     rw[hq]at hs;simp only[yab]at hs;simp only[yae,ya2,yao,yaV,ne_eq]at hq;cases ha:qg3 c1 x.ID with
     |none=>rw[ha]at hs;cases hs
     |some p=>
      obtain ⟨c3,e3⟩:=p;rw[ha]at hs;dsimp only at hs;by_cases he3:e3=0
      ·subst he3;simp only[yah,yaj,yaa]at hs;cases hs
       have hm:=yag hx;have r:=c0d I.mid hx ha;have f:=c0c I.val.holds hx r;have hm3:=((a9w I.mid hx).b ha).1.1;have hwp:a2i x.Custody=false:=by unfold a2i;rw[hq.1.2];rfl
       have v3:=d9b (I.val.weak x.ID) hx (I.val.lfree hm hwp) (I.val.hfree hm (by omega) (by omega)) r;obtain ⟨u,eI,hu⟩:=f.items;have hu3:u.State≠3:=fun e=>by
        have:=hu e;rw[p1]at this;exact hq.2 (ybR this)
       refine ⟨rfl,k+1,rfl,(by show k+1≤c2.Items.length;rw[eI,List.length_set];omega),hm3,v3,I.stp.trans f.stp,f.less.trans I.less,fun j y hj hy hr h3=>?_,fun y hy hr=>?_,fun y hy h3=>?_⟩
       ·rw[eI]at hy;by_cases ejk:j=k
        ·subst ejk;rw[ybv hlt]at hy;cases hy
         exact absurd h3 hu3
        ·rw[List.getElem?_set_ne (fun e=>ejk e.symm)]at hy;exact (I.done j y (by omega) hy hr h3).less f.less rfl rfl
       ·rw[eI,a5i I.val.items hx]at hy;rcases hy with ⟨hy,_⟩|rfl
        ·exact I.rest y hy hr
        ·exact absurd hq.1.1 hr
       ·rw[eI,a5i I.val.items hx]at hy;rcases hy with ⟨hy,_⟩|rfl
        ·exact I.shelf y hy h3
        ·exact absurd h3 hu3
      ·rw[show (e3==0)=false by simpa using he3]at hs;cases hs
   ·have:k=c1.Items.length:=by omega
    subst this;simp only[a5l,dge,yaa]at hs;cases hs) ⟨rfl,0,rfl,Nat.zero_le _,m,v,.refl _,.refl _,fun j y hj=>absurd hj (by omega),fun y hy _=>hy,fun y hy _=>hy⟩ hw
  obtain ⟨rr,ii,c1,v1,_⟩:=b;dsimp only at hb1 hb2 hk I;subst hb1 hb2;by_cases hlt:k<c1.Items.length
  ·have hx:c1.Items[k]?=some (c1.Items[k]):=yac hlt;generalize c1.Items[k]=x at hx;obtain ⟨w,p1,hst⟩:=c4p (v:=v1) (record:=rr) I.mid hx;rw[hst]at hb;cases hq:(x.Record==rr&&x.Custody.State==3)&&!(w==0) with
   |false=>rw[hq]at hb;cases hb
   |true=>
    rw[hq]at hb;simp only[yab]at hb;cases ha:qg3 c1 x.ID with
    |none=>rw[ha]at hb;cases hb
    |some p=>
     obtain ⟨c3,e3⟩:=p;rw[ha]at hb;dsimp only at hb;by_cases he3:e3=0
     ·rw[show (e3==0)=true by simpa using he3]at hb;cases hb
     ·rw[show (e3==0)=false by simpa using he3]at hb;cases hb
      cases e
      exact absurd rfl he3
  ·have:k=c1.Items.length:=by omega
   subst this;simp only[a5l,dge,yaa]at hb;cases hb
   cases e
   exact I
end
section
theorem g52 {X:Type} {p:X→Bool} {x z:X} {l:List X} (h:z=x∨z∈l):z∈b1l p x l:=by
 cases hf:l.findIdx? p with
 |none=>
  rw[b37 hf];simp only[yas,ybD];rcases h with h|h
  ·exact .inr h
  ·exact .inl h
 |some k=>
  rw[(b38 hf).1];simp only[yas,yaN];rcases h with h|h
  ·exact .inr (.inl h)
  ·rw[←ybU k l,yas]at h;rcases h with h|h
   ·exact .inl h
   ·exact .inr (.inr h)
theorem g7l {l m:List Loan} {n:Loan} (h:e9m l n=(m,0)):o6 m=0∧(∀z,z∈m↔z=n∨z∈l)∧∀z∈l,z.Item≠n.Item:=by
 unfold e9m at h;rw[b32]at h;cases ha:l.any (fun x=>x.Item==n.Item) with
 |true=>rw[ha]at h;cases h
 |false=>
  rw[ha]at h;simp only[yaa]at h;by_cases he:o6 (b1l (fun x=>decide (n.Item<x.Item)) n l)=0
  ·rw[he]at h;cases h
   refine ⟨he,fun z=>⟨f2f,g52⟩,fun z hz e=>?_⟩;rw[ybY]at ha;exact ha z hz (by simpa using e)
  ·rw[show (o6 (b1l (fun x=>decide (n.Item<x.Item)) n l)==0)=false by simpa using he]at h;simp only[yan,yab,yaO]at h;exact absurd h.2 he
theorem h9k {X:Type} (key:X→Int) {l:List X} (hs:l.Pairwise (fun a b=>key a<key b)) {i:Nat} {x:X} (hx:l[i]?=some x):l.take i++l.drop (i+1)=l.filter (fun y=>!(key y==key x)):=by
 have hlt:=(yaM.1 hx)
 have e:l=l.take i++x::l.drop (i+1):=by
  rw[←hlt.2,←ya7 hlt.1,ybU]
 have hs2:=hs;rw[e,List.pairwise_append,List.pairwise_cons]at hs2;obtain ⟨-,⟨h2,-⟩,h3⟩:=hs2;have e1:(l.take i).filter (fun y=>!(key y==key x))=l.take i:=List.filter_eq_self.2 (fun a ha=>by
  have:=h3 a ha x (yaA ..);have:¬key a=key x:=by omega
  simpa using this)
 have e2:(l.drop (i+1)).filter (fun y=>!(key y==key x))=l.drop (i+1):=List.filter_eq_self.2 (fun a ha=>by
  have:=h2 a ha;have:¬key a=key x:=by omega
  simpa using this)
 have e3:l.filter (fun y=>!(key y==key x))=(l.take i++x::l.drop (i+1)).filter (fun y=>!(key y==key x)):=by rw[←e]
 rw[e3,yb7,ybb,e1,e2];simp
theorem d00 {l m:List Loan} {n:Loan} {item:Int} (hs:o6 l=0) (h:a5q l item=(m,n,0)):n∈l∧n.Item=item∧o6 m=0∧∀z,z∈m↔z∈l∧z.Item≠item:=by
 have hp:=a74.1 hs;unfold a5q at h;rcases j6 (fun x:Loan=>x.Item==item) l with ⟨h1,h2⟩|⟨i,x,h1,h2,h3,h4⟩
 ·rw[h2]at h;cases h
 ·rw[h4,h1]at h;simp only[yay,yaO,and_true]at h;obtain ⟨e,rfl⟩:=h;have hi:x.Item=item:=by simpa using h3
  rw[h9k (fun n:Loan=>n.Item) hp.2.2 h2]at e;have hm:∀z,z∈m↔z∈l∧z.Item≠item:=by
   intro z;rw[←e,yaz,hi];simp
  refine ⟨yag h2,hi,?_,hm⟩;rw[a74];have:=yax (fun y:Loan=>!(y.Item==x.Item)) l;rw[←e];exact ⟨by omega,fun z hz=>hp.2.1 z (yaz.1 hz).1,hp.2.2.filter _⟩
theorem e8w {X:Type} {l:List X} {i:Nat} {x y:X} (hx:l[i]?=some x) (R:X→X→Prop) (hr:∀z,R z z) (h1:R y x) (h2:R x y):(∀z∈l.set i y,∃w∈l,R z w)∧∀w∈l,∃z∈l.set i y,R w z:=by
 have hlt:=(zL hx)
 refine ⟨fun z hz=>?_,fun w hw=>?_⟩
 ·rcases ybJ hz with hz|rfl
  ·exact ⟨z,hz,hr z⟩
  ·exact ⟨x,yag hx,h1⟩
 ·obtain ⟨j,hj⟩:=yav hw;by_cases e:j=i
  ·subst e;rw[hx]at hj;cases hj
   exact ⟨y,yag (ybv hlt),h2⟩
  ·exact ⟨w,yag (by rw[List.getElem?_set_ne (fun q=>e q.symm)];exact hj),hr w⟩
def c2p (a b:Loan):Prop:=a.Item=b.Item∧a.Patron=b.Patron
theorem e50 {l m:List Loan} {item due:Int} (h:a8d l item due=(m,0)):o6 m=0∧(∀z∈m,∃w∈l,c2p z w)∧∀w∈l,∃z∈m,c2p w z:=by
 unfold a8d at h;rcases j6 (fun x:Loan=>x.Item==item) l with ⟨h1,h2⟩|⟨i,x,h1,h2,h3,h4⟩
 ·rw[h2]at h;cases h
 ·rw[h4,h1]at h;simp only[yay]at h;cases hr:x.Recalled with
  |true=>rw[hr]at h;cases h
  |false=>
   rw[hr]at h;simp only[yaa]at h;unfold h7x at h;by_cases he:o6 (l.set i ⟨x.Item,x.Patron,x.Out,due,wr .i64 (x.Renewals+1),false⟩)=0
   ·rw[he]at h;cases h
    have:=e8w h2 c2p (fun z=>⟨rfl,rfl⟩) (y:=⟨x.Item,x.Patron,x.Out,due,wr .i64 (x.Renewals+1),false⟩) ⟨rfl,rfl⟩ ⟨rfl,rfl⟩;exact ⟨he,this⟩
   ·rw[show (o6 (l.set i ⟨x.Item,x.Patron,x.Out,due,wr .i64 (x.Renewals+1),false⟩)==0)=false by simpa using he]at h;simp only[yan,yab,yaO]at h;exact absurd h.2 he
theorem b8q {x:Loan}:b0h x=0↔((1≤x.Item∧x.Item≤9999)∧(1≤x.Patron∧x.Patron≤9999)∧(0≤x.Out∧x.Out≤109572)∧(0≤x.Due∧x.Due≤109572)∧x.Out≤x.Due∧(0≤x.Renewals∧x.Renewals≤10)):=by
 unfold b0h;rw[a61 (by decide)];simp only[yai,yaf,and_true];omega
theorem d7u {l m:List Loan} {item due:Int} (hs:o6 l=0) (h:a6d l item due=(m,0)):o6 m=0∧(∀z∈m,∃w∈l,c2p z w)∧∀w∈l,∃z∈m,c2p w z:=by
 have hp:=a74.1 hs;unfold a6d at h;rcases j6 (fun x:Loan=>x.Item==item) l with ⟨h1,h2⟩|⟨i,x,h1,h2,h3,h4⟩
 ·rw[h2]at h;cases h
 ·rw[h4,h1]at h;simp only[yay]at h;cases hr:x.Recalled with
  |true=>rw[hr]at h;cases h
  |false=>
   rw[hr]at h;simp only[yaa]at h;cases hd:rng 0 109572 due with
   |false=>rw[hd]at h;cases h
   |true=>
    rw[hd]at h;simp only[yaj,yaa,yaO,and_true]at h;subst h;have:=e8w h2 c2p (fun z=>⟨rfl,rfl⟩) (y:=⟨x.Item,x.Patron,x.Out,a3k x due,x.Renewals,true⟩) ⟨rfl,rfl⟩ ⟨rfl,rfl⟩;refine ⟨?_,this⟩;rw[a74];refine ⟨by rw[List.length_set];exact hp.1,fun z hz=>?_,?_⟩
    ·rcases ybJ hz with hz|rfl
     ·exact hp.2.1 z hz
     ·have q:=b8q.1 (hp.2.1 x (yag h2));rw[w8]at hd;rw[b8q];have hdue:x.Out≤a3k x due∧0≤a3k x due∧a3k x due≤109572:=by
       unfold a3k;split<;>split<;>omega
      exact ⟨q.1,q.2.1,q.2.2.1,hdue.2,hdue.1,q.2.2.2.2.2⟩
    ·have e:(l.set i (⟨x.Item,x.Patron,x.Out,a3k x due,x.Renewals,true⟩:Loan)).map (fun z:Loan=>z.Item)=l.map (fun z:Loan=>z.Item):=a1s h2 rfl;have q:(l.map (fun z:Loan=>z.Item)).Pairwise (fun a b=>a<b):=yby.2 hp.2.2;rw[←e]at q;exact yby.1 q
theorem b61 {l:List Charge} (h:s7 l=0) (p:Charge→Bool):s7 (l.filter p)=0:=by
 rw[a90]at h ⊢;have:=yax p l;exact ⟨by omega,fun x hx=>h.2.1 x (yaz.1 hx).1,h.2.2.filter p⟩
theorem c0l {x:Charge}:a07 x=0↔((1≤x.ID∧x.ID≤99999)∧(1≤x.Patron∧x.Patron≤9999)∧(1≤x.Item∧x.Item≤9999)∧(0≤x.Day∧x.Day≤109572))∧(1≤x.Kind∧x.Kind≤3)∧(1≤x.Amount∧x.Amount≤100000000∧0≤x.Paid∧x.Paid<x.Amount):=by
 unfold a07;rw[a61 (by decide),a61 (by decide),a61 (by decide)];simp only[yai,yaf,yau,w8,and_true];omega
theorem g7m (p:Int):∀(l:List Charge) (r:Int),0≤r→(∀x∈l,a07 x=0)→(b8t p l r).1.length≤l.length∧(∀x∈(b8t p l r).1,a07 x=0∧∃y∈l,x.ID=y.ID∧x.Patron=y.Patron)∧((b8t p l r).1.map (fun x=>x.ID)).Sublist (l.map (fun x=>x.ID)):=by
 intro l
 induction l with
 |nil=>intro r _ _;exact ⟨yaH _,fun x hx=>(by cases hx),List.Sublist.refl _⟩
 |cons x l ih=>
  intro r hr hs;have hx:=c0l.1 (hs x (yaA ..));have hs2:=fun y hy=>hs y (yaC _ hy)
  obtain ⟨a1,a2,a3⟩:=ih r hr hs2;have hu:0≤(if x.Amount-x.Paid<r then x.Amount-x.Paid else r):=by split<;>omega
  have hu2:(if x.Amount-x.Paid<r then x.Amount-x.Paid else r)≤r:=by split<;>omega
  unfold b8t;generalize (if x.Amount-x.Paid<r then x.Amount-x.Paid else r)=use at hu hu2 ⊢;obtain ⟨b1,b2,b3⟩:=ih (r-use) (by omega) hs2;have up:∀z:Charge,(∃y∈l,z.ID=y.ID∧z.Patron=y.Patron)→∃y∈x::l,z.ID=y.ID∧z.Patron=y.Patron:=fun z ⟨y,hy,e⟩=>⟨y,yaC _ hy,e⟩
  cases x.Patron==p with
  |false=>
   simp only[yaa];refine ⟨by simp only[yaK];omega,fun z hz=>?_,?_⟩
   ·rcases yaN.1 hz with rfl|hz
    ·exact ⟨c0l.2 hx,z,yaA ..,rfl,rfl⟩
    ·exact ⟨(a2 z hz).1,up z (a2 z hz).2⟩
   ·simp only[ybg];exact a3.cons_cons _
  |true=>
   simp only[yab];by_cases hq:x.Paid+use<x.Amount
   ·rw[decide_eq_true hq];simp only[yab];refine ⟨by simp only[yaK];omega,fun z hz=>?_,?_⟩
    ·rcases yaN.1 hz with rfl|hz
     ·refine ⟨c0l.2 ⟨hx.1,hx.2.1,hx.2.2.1,hx.2.2.2.1,(by show 0≤x.Paid+use;omega),hq⟩,x,yaA ..,rfl,rfl⟩
     ·exact ⟨(b2 z hz).1,up z (b2 z hz).2⟩
    ·simp only[ybg];exact b3.cons_cons _
   ·rw[decide_eq_false hq];simp only[yaa];refine ⟨by simp only[yaK];omega,fun z hz=>⟨(b2 z hz).1,up z (b2 z hz).2⟩,?_⟩;simp only[ybg];exact b3.cons _
end
section
theorem e9g {f:Int} {X:Option (Circ×Int)} {d:Circ} (e:(bif !(f==0) then some (o7,f) else X)=some (d,0)):f=0∧X=some (d,0):=by
 by_cases hf:f=0
 ·subst hf;exact ⟨rfl,e⟩
 ·rw[show (f==0)=false by simpa using hf]at e;cases e
  exact absurd rfl hf
theorem b6y {f:Int} {X:Option (Circ×Int×Int)} {d:Circ} {n:Int} (e:(bif !(f==0) then some (o7,0,f) else X)=some (d,n,0)):f=0∧X=some (d,n,0):=by
 by_cases hf:f=0
 ·subst hf;exact ⟨rfl,e⟩
 ·rw[show (f==0)=false by simpa using hf]at e;cases e
  exact absurd rfl hf
theorem b6z {o:Option (Circ×Int)} {d:Circ} (e:(match o with|some (r,f)=>some (r,f)|none=>none)=some (d,0)):o=some (d,0):=by
 cases o with
 |none=>cases e
 |some p=>obtain ⟨r,f⟩:=p;exact e
structure Res (c d:Circ):Prop where
 val:Val 0 d
 stp:Stp c d
 idle:b1g c→b1g d
theorem f8f {c c1 d:Circ} {i:Nat} {x:Item} {kind branch who:Int} (v:Val 0 c) (m:MidP c) (hx:c.Items[i]?=some x) (hl:b6v c x.ID) (hf:b92 c x.ID)
 (e1:qgn c x.ID kind branch who=some (c1,0)) (e2:qg3 c1 x.ID=some (d,0)):Res c d:=by
 obtain ⟨a,b,-,e⟩:=ma (v.weak x.ID) m hx hl hf e1 e2;exact ⟨a,b,fun h=>e (h.x _)⟩
theorem a2h {c d:Circ} (h:MidP c) {i:Nat} {x:Item} (hx:c.Items[i]?=some x) {kind branch who:Int} (e:qgn c x.ID kind branch who=some (d,0)):x.Custody.State∈c9b kind:=by
 obtain ⟨u,ha,-⟩:=a1l h hx e;exact e92 (c7o ha).allow
theorem a35 {x:Item} (h:x.Custody.State≠4) (h2:x.Custody.State≠9) (h3:x.Custody.State≠10):a2i x.Custody=false:=by
 rw[a0i];simp[h,h2,h3]
theorem c9t {c d:Circ} (v:Val 0 c) (m:MidP c) {item branch:Int} (e:qf8 c item branch=some (d,0)):Res c d:=by
 unfold qf8 at e;rcases y7 m item with ⟨-,h2,-⟩|⟨i,x,-,h2,hx,rfl,-⟩
 ·rw[h2]at e;cases e
 ·rw[h2]at e;simp only[a09,yaa]at e;rcases e1:qgn c x.ID 1 branch 0 with _|⟨c1,f⟩
  ·rw[e1]at e;cases e
  rw[e1]at e;have hz:=e9g e;clear e;obtain ⟨rfl,e2⟩:=hz;have e2:=b6z e2;have hs:x.Custody.State∈([1]:List Int):=a2h m hx e1;have hs:x.Custody.State=1:=by simpa using hs
  have hm:=yag hx;exact f8f v m hx (v.lfree hm (a35 (by omega) (by omega) (by omega))) (v.hfree hm (by omega) (by omega)) e1 e2
theorem f8i {c d:Circ} {i:Nat} {x:Item} {kind branch who:Int} (v:Val 0 c) (m:MidP c) (hx:c.Items[i]?=some x) (hl:b6v c x.ID) (hf:b92 c x.ID)
 (e:qgn c x.ID kind branch who=some (d,0)) (hk:(a0b kind==3||(a0b kind==4||(a0b kind==5||(a0b kind==9||a0b kind==10))))=false):Res c d:=by
 obtain ⟨u,ha,hlen,rfl,m1⟩:=a1l m hx e;have hu:u.State=a0b kind:=by
  rw[(c7o ha).res];unfold h79;dsimp only;generalize a0b kind=k;cases k==2<;>cases (k==4||(k==5||k==8))<;>cases k==6<;>cases (k==9||k==10)<;>rfl
 simp only[yai,yaV,ne_eq,←hu]at hk;have hm:y3 u x∈(u0 c i x ⟨c.Today,x.ID,kind,branch,who⟩ u).Items:=(a1d v.items hx).2 (.inr rfl);refine ⟨((v.weak x.ID).move hx rfl ha hlen).close hm rfl (fun n hn e=>absurd e (hl n hn)) (fun h=>?_) (fun h hh hs1 hg=>absurd hg (hf h hh hs1)) (fun h=>absurd h hk.2.2.1),a06,fun h y hy h3=>?_⟩
 ·have:=a35 (x:=y3 u x) hk.2.1 hk.2.2.2.1 hk.2.2.2.2;rw[this]at h;cases h
 ·rcases (a1d v.items hx).1 hy with ⟨hy,_⟩|rfl
  ·exact h y hy h3
  ·exact absurd h3 hk.1
theorem b28 {c d:Circ} (v:Val 0 c) (m:MidP c) {item:Int} {b:Bool} (e:qf9 c item b=some (d,0)):Res c d:=by
 unfold qf9 at e;rcases y7 m item with ⟨-,h2,-⟩|⟨i,x,-,h2,hx,rfl,-⟩
 ·rw[h2]at e;cases e
 ·rw[h2]at e;have hm:=yag hx;simp only[a09,yaa,c9,hx]at e;cases b with
  |true=>
   have e:=b6z e;have hs:x.Custody.State∈([2,3]:List Int):=a2h m hx e;have hs:x.Custody.State=2∨x.Custody.State=3:=by simpa using hs
   exact f8i v m hx (v.lfree hm (a35 (by omega) (by omega) (by omega))) (v.hfree hm (by omega) (by omega)) e rfl
  |false=>
   simp only[yaa]at e;rcases e1:qgn c x.ID 9 x.Branch 0 with _|⟨c1,f⟩
   ·rw[e1]at e;cases e
   rw[e1]at e;have hz:=e9g e;clear e;obtain ⟨rfl,e2⟩:=hz;have e2:=b6z e2;have hs:x.Custody.State∈([7]:List Int):=a2h m hx e1;have hs:x.Custody.State=7:=by simpa using hs
   exact f8f v m hx (v.lfree hm (a35 (by omega) (by omega) (by omega))) (v.hfree hm (by omega) (by omega)) e1 e2
theorem e3t {c d:Circ} (v:Val 0 c) (m:MidP c) {item partner:Int} (e:qg6 c item partner=some (d,0)):Res c d:=by
 unfold qg6 at e;rcases y7 m item with ⟨-,h2,-⟩|⟨i,x,-,h2,hx,rfl,-⟩
 ·rw[h2]at e;cases e
 ·rw[h2]at e;have hm:=yag hx;obtain ⟨w,p1,p2,-,-⟩:=a8p m hx;simp -zeta only[a09,yaa,c9,hx,p2]at e;have fin:qgn c x.ID 10 x.Custody.Branch partner=some (d,0)→Res c d:=by
   intro e;have hs:x.Custody.State∈([3]:List Int):=a2h m hx e;have hs:x.Custody.State=3:=by simpa using hs
   exact f8i v m hx (v.lfree hm (a35 (by omega) (by omega) (by omega))) (v.hfree hm (by omega) (by omega)) e rfl
  dsimp only at e;cases hs:x.Custody.State==3 with
  |true=>
   rw[hs]at e;simp only[yab]at e;cases hw:!(w==0) with
   |true=>rw[hw]at e;cases e
   |false=>rw[hw]at e;exact fin (b6z e)
  |false=>rw[hs]at e;exact fin (b6z e)
theorem c4q {c:Circ} (v:Val 0 c) {l:List Loan} (h:o6 l=0∧(∀z∈l,∃w∈c.Loans,c2p z w)∧∀w∈c.Loans,∃z∈l,c2p w z):Res c (i4 c l):=by
 refine ⟨v.setLoans h.1 (fun n hn=>?_) (fun n hn _=>?_),b0i,fun k=>k⟩
 ·obtain ⟨w,hw,e1,e2⟩:=h.2.1 n hn;exact ⟨by rw[e2];exact v.loanP w hw,.inl ⟨w,hw,e1.symm,e2.symm⟩⟩
 ·obtain ⟨z,hz,e1,e2⟩:=h.2.2 n hn;exact ⟨z,hz,e1.symm⟩
theorem g7n {c d:Circ} {n:Int} (v:Val 0 c) (m:MidP c) {p amount:Int} (e:qhm c p amount=some (d,n,0)):Res c d:=by
 have hc:=a6m v.charges;unfold qhm at e;rw[a3j m.short.patrons,d33,f8t (by have:=hc.1;omega) hc.2]at e;dsimp only at e;cases hg:(a2d c.Patrons p).2 with
 |false=>rw[hg]at e;cases e
 |true=>
  rw[hg]at e;simp only[yaj,yaa]at e;cases hb:(decide (amount<1)||decide (100000000<amount)) with
  |true=>rw[hb]at e;cases e
  |false=>
   rw[hb]at e;simp only[yaa,yah,yaj,yal,yaO,and_true]at e;obtain ⟨rfl,-⟩:=e;simp only[yai,yaf]at hb;have hp:=a90.1 v.charges;obtain ⟨q1,q2,q3⟩:=g7m p c.Charges amount (by omega) hp.2.1;have hn:=a77 v.nums;refine ⟨v.setCharges (l:=(b8t p c.Charges amount).1) (n:=c.NextCharge) (a90.2 ⟨by omega,fun x hx=>(q2 x hx).1,?_⟩) ⟨yb1 _,hn.2.2.2⟩ (fun x hx=>?_),d9y (l:=(b8t p c.Charges amount).1) (n:=c.NextCharge),fun k=>k⟩
   ·exact yby.1 ((yby.2 hp.2.2).sublist q3)
   ·obtain ⟨y,hy,e1,e2⟩:=(q2 x hx).2;have:=b3i (v.chG y hy);rw[e1,e2];exact this
theorem e51 {c d:Circ} {n:Int} (v:Val 0 c) (m:MidP c) {item:Int} (e:qgp c item=some (d,n,0)):Res c d:=by
 unfold qgp at e;rw[d3x m.short.loans]at e;generalize a0g c.Loans item=q at e;obtain ⟨n0,ok⟩:=q;dsimp only at e;cases ok with
 |false=>cases e
 |true=>
  simp only[yaj,yaa]at e;rcases y7 m item with ⟨-,h2,-⟩|⟨i,x,-,h2,hx,hid,-⟩
  ·rw[h2]at e;cases e
  ·rw[h2]at e;simp only[c9,hx]at e;cases h4:!(x.Custody.State==4) with
   |true=>rw[h4]at e;cases e
   |false=>
    rw[h4]at e;simp only[yaa]at e;cases hb:qf7 c n0.Patron with
    |none=>rw[hb]at e;cases e
    |some b=>
     rw[hb]at e;cases b with
     |true=>cases e
     |false=>
      dsimp only at e;simp only[yaa]at e;rw[show b9 a8c (item,0,c,ZN,n0,x,())=_ from b5t m.short]at e;cases hw:a6h c x with
      |true=>rw[hw]at e;cases e
      |false=>
       rw[hw]at e;dsimp only[cond_false]at e;cases hr:qgz c n0.Patron x with
       |none=>rw[hr]at e;cases e
       |some rb=>
        obtain ⟨r,b⟩:=rb;rw[hr]at e;cases b with
        |false=>cases e
        |true=>
         dsimp only at e;simp only[yaj,yaa,a3j m.short.patrons]at e;cases hc:qhl c x.Custody.Branch with
         |none=>rw[hc]at e;cases e
         |some cal=>
          rw[hc]at e;dsimp only at e;rcases q1:qgw r cal n0 c.Today (a2d c.Patrons n0.Patron).1.Until with _|⟨due,f⟩
          ·rw[q1]at e;cases e
          rw[q1]at e;dsimp only at e;have hz:=b6y e;clear e;obtain ⟨rfl,e⟩:=hz;rw[f9j m.short.loans]at e;rcases q2:a8d c.Loans item due with ⟨l,f⟩;rw[q2]at e;dsimp only at e;have hz:=b6y e;clear e;obtain ⟨rfl,e⟩:=hz;cases e
          exact c4q v (e50 q2)
end
section
theorem a8r {u:Custody} (h:u.State=4∨u.State=9∨u.State=10):a2i u=true:=by
 rw[a0i];rcases h with h|h|h<;>simp[h]
theorem d1r {c d:Circ} {i:Nat} {x:Item} {kind branch who:Int} (v:Val 0 c) (m:MidP c) (hx:c.Items[i]?=some x) (hs:x.Custody.State=4∨x.Custody.State=9)
 (e:qgn c x.ID kind branch who=some (d,0)) (hk:kind=11∨kind=12):Res c d:=by
 obtain ⟨u,ha,hlen,rfl,m1⟩:=a1l m hx e;have hu:(u.State=9∨u.State=10)∧u.Who=x.Custody.Who:=by
  rw[(c7o ha).res];rcases hk with rfl|rfl
  ·exact ⟨.inl rfl,rfl⟩
  ·exact ⟨.inr rfl,rfl⟩
 have hm0:=yag hx;have hid:=a05 v.items hm0;have hm:y3 u x∈(u0 c i x ⟨c.Today,x.ID,kind,branch,who⟩ u).Items:=(a1d v.items hx).2 (.inr rfl);have hf:=v.hfree hm0 (by omega) (by omega);have hp:a2i (y3 u x).Custody=true:=a8r (u:=u) (by omega);refine ⟨((v.weak x.ID).move hx rfl ha hlen).close hm rfl (fun n hn e=>⟨hp,?_⟩) (fun _=>?_) (fun h hh hs1 hg=>absurd hg (hf h hh hs1)) (fun h=>?_),a06,fun h y hy h3=>?_⟩
 ·obtain ⟨y,hy,hi,hw⟩:=v.loanI n hn;have:=y5 v.items hy hm0 (hi.trans e);subst this;exact hu.2.trans (hw (by omega)).2
 ·exact v.itemL x hm0 (by omega) (a8r (by omega))
 ·rw[show (y3 u x).Custody=u from rfl]at h;omega
 ·rcases (a1d v.items hx).1 hy with ⟨hy,_⟩|rfl
  ·exact h y hy h3
  ·rw[show (y3 u x).Custody=u from rfl]at h3;omega
theorem d90 {c d:Circ} (v:Val 0 c) (m:MidP c) {item:Int} (e:qgq c item=some (d,0)):Res c d:=by
 unfold qgq at e;rcases y7 m item with ⟨-,h2,-⟩|⟨i,x,-,h2,hx,rfl,-⟩
 ·rw[h2]at e;cases e
 ·rw[h2]at e;simp only[a09,yaa,c9,hx]at e;have e:=b6z e;have hs:x.Custody.State∈([4]:List Int):=a2h m hx e;exact d1r v m hx (.inl (by simpa using hs)) e (.inl rfl)
theorem Res.trans {a b c:Circ} (h:Res a b) (k:Res b c):Res a c:=⟨k.val,h.stp.trans k.stp,fun q=>k.idle (h.idle q)⟩
theorem b3j {c d:Circ} {it:Int} (v:Val it c) (m:MidP c) {p item kind amount:Int} (hp:(a2d c.Patrons p).2=true) (e:qf6 c p item kind amount=some (d,0)):Val it d∧MidP d∧∃ch nc,d=a5p c ch nc:=by
 obtain ⟨hd,he,hn⟩:=(b0v m p item kind amount).b e;have hv:=a77 v.nums;rw[a0w (by omega) (by omega)]at hd;subst hd;refine ⟨v.setCharges he ⟨by omega,by omega⟩ (fun x hx=>?_),c3n m (a9d he) _,_,_,rfl⟩;rcases yas.1 hx with hx|hx
 ·have:=b3i (v.chG x hx);exact ⟨this.1,by omega⟩
 ·have:x=⟨c.NextCharge,p,item,c.Today,kind,amount,0⟩:=by simpa using hx
  subst this;exact ⟨hp,by show c.NextCharge<c.NextCharge+1;omega⟩
theorem c7v {c d:Circ} (v:Val 0 c) (m:MidP c) {p item kind amount:Int} (hp:(a2d c.Patrons p).2=true) (e:qf6 c p item kind amount=some (d,0)):Res c d:=by
 obtain ⟨h,-,ch,nc,rfl⟩:=b3j v m hp e;exact ⟨h,d9y,fun k=>k⟩
theorem c1d {l:List Hold} (h:t7 l=0) {o p:Hold} (ho:o∈l) (hp:p∈l) (hg:0<o.Got) (e:o.Got=p.Got):o=p:=by
 obtain ⟨i,hi⟩:=yav ho;obtain ⟨j,hj⟩:=yav hp;have h4:=(b0b.1 h).2.2;rw[ybf]at h4;obtain ⟨hil,rfl⟩:=yaM.1 hi;obtain ⟨hjl,rfl⟩:=yaM.1 hj;rcases Nat.lt_trichotomy i j with q|q|q
 ·have:=h4 i j hil hjl q;unfold a0p at this;simp only[yai,ybk,yaf,yaV,ne_eq]at this;rcases this.2 with w|w
  ·omega
  ·exact absurd e.symm w
 ·subst q;rfl
 ·have:=h4 j i hjl hil q;unfold a0p at this;simp only[yai,ybk,yaf,yaV,ne_eq]at this;rcases this.2 with w|w
  ·omega
  ·exact absurd e w
theorem f1v {l m:List Hold} (hs:∀i x,l[i]?=some x→u7 l i (fun y=>decide (x.ID≤y.ID))=false) {item:Int} (h:b13 l item=(m,0)):∃o∈l,o.Got=item∧m=b7p l o.ID (c1c o 0 1 0):=by
 unfold b13 at h;rcases j6 (fun x:Hold=>x.Got==item) l with ⟨h1,h2⟩|⟨i,x,h1,h2,h3,h4⟩
 ·rw[h2]at h;cases h
 ·rw[h4,h1]at h;simp only[yay]at h;cases h0:item==0 with
  |true=>rw[h0]at h;cases h
  |false=>
   rw[h0]at h;simp only[yaa,yaO,and_true]at h;subst h;exact ⟨x,yag h2,by simpa using h3,(a8n hs h2 (y:=c1c x 0 1 0) rfl).symm⟩
theorem d5o {o:Hold} (h:s9 o=0):s9 (c1c o 0 1 0)=0:=by
 rw[e8x]at h ⊢;obtain ⟨⟨a1,a2,a3,a4,a5,a6,a7,a8,a9,a10⟩,b,c,d⟩:=h;have z:¬(0:Int)<0:=by decide
 exact ⟨⟨a1,a2,a3,a4,a5,a6,.inl rfl,⟨yb1 0,(show (0:Int)≤109572 by decide)⟩,a9,a10⟩,⟨yb1 1,(show (1:Int)≤3 by decide)⟩,⟨fun q=>absurd (show (0:Int)<0 from q) z,fun q=>absurd rfl q⟩,⟨fun q=>absurd (show (0:Int)<0 from q) z,fun q=>absurd (show (1:Int)=3 from q) (by decide)⟩⟩
theorem e2f {c:Circ} {y:Item} (hy:y∈c.Items):∃j,j<c.Items.length∧c.Items[j]?=some y:=by
 obtain ⟨j,hj⟩:=yav hy;exact ⟨j,(zL hj),hj⟩
theorem f4l {c d:Circ} (v:Val 0 c) (m:MidP c) {item:Int} (e:qg5 c item=some (d,0)):Res c d:=by
 unfold qg5 at e;rcases y7 m item with ⟨-,h2,-⟩|⟨i,x,-,h2,hx,rfl,-⟩
 ·rw[h2]at e;cases e
 rw[h2]at e;simp -zeta only[a09,yaa,c9,hx,z6]at e;dsimp only at e;have hm0:=yag hx;have hid:=a05 v.items hm0;cases hs:x.Custody.State==4||x.Custody.State==9 with
 |true=>
  rw[hs]at e;simp only[yab]at e;have hs2:x.Custody.State=4∨x.Custody.State=9:=by simpa using hs
  rcases e1:qgn c x.ID 12 x.Custody.Branch 0 with _|⟨c1,f⟩
  ·rw[e1]at e;cases e
  rw[e1]at e;dsimp only at e;have hz:=e9g e;clear e;obtain ⟨rfl,e⟩:=hz;have r1:=d1r v m hx hs2 e1 (.inr rfl);obtain ⟨u,ha,hlen,hc1,m1⟩:=a1l m hx e1;cases hp:x.Price==0 with
  |true=>
   rw[hp]at e;cases e
   exact r1
  |false=>
   rw[hp]at e;have e:=b6z e;obtain ⟨n,hn,hni⟩:=v.itemL x hm0 (by omega) (a8r (by omega));have hw:x.Custody.Who=n.Patron:=by
    obtain ⟨y,hy,hi,hw⟩:=v.loanI n hn;have:=y5 v.items hy hm0 (hi.trans hni);subst this;exact (hw (by omega)).2
   have hpk:(a2d c1.Patrons x.Custody.Who).2=true:=by
    rw[hw,hc1];exact v.loanP n hn
   exact r1.trans (c7v r1.val m1 hpk e)
 |false=>
  rw[hs]at e;simp only[yaa]at e;have hs2:¬(x.Custody.State=4∨x.Custody.State=9):=by simpa using hs
  rcases e1:qgn c x.ID 13 x.Custody.Branch 0 with _|⟨c1,f⟩
  ·rw[e1]at e;cases e
  rw[e1]at e;dsimp only at e;have hz:=e9g e;clear e;obtain ⟨rfl,e⟩:=hz;have hst:x.Custody.State∈([2,3,5,6,7]:List Int):=a2h m hx e1;have hst:x.Custody.State=2∨x.Custody.State=3∨x.Custody.State=5∨x.Custody.State=6∨x.Custody.State=7:=by simpa using hst
  obtain ⟨u,ha,hlen,rfl,m1⟩:=a1l m hx e1;have hu:u.State=11:=by rw[(c7o ha).res];rfl
  have v1:=(v.weak x.ID).move hx rfl ha hlen;have hlf:=v.lfree hm0 (a35 (by omega) (by omega) (by omega));have hm:y3 u x∈(u0 c i x ⟨c.Today,x.ID,13,x.Custody.Branch,0⟩ u).Items:=(a1d v.items hx).2 (.inr rfl);have hnp:¬a2i (y3 u x).Custody=true:=by
   rw[a35 (x:=y3 u x) (by show u.State≠4;omega) (by show u.State≠9;omega) (by show u.State≠10;omega)]
   decide
  have hidle:b1g c→b1g (u0 c i x ⟨c.Today,x.ID,13,x.Custody.Branch,0⟩ u):=fun h y hy h3=>by
   rcases (a1d v.items hx).1 hy with ⟨hy,_⟩|rfl
   ·exact h y hy h3
   ·rw[show (y3 u x).Custody=u from rfl]at h3;omega
  have hcl:∀c2:Circ,c2.Items=(u0 c i x ⟨c.Today,x.ID,13,x.Custody.Branch,0⟩ u).Items→c2.Loans=c.Loans→Val x.ID c2→b92 c2 x.ID→Val 0 c2:=by
   intro c2 hI hL v2 hf;refine v2.close (x:=y3 u x) (by rw[hI];exact hm) rfl (fun n hn e=>absurd e (hlf n (by rw[←hL];exact hn))) (fun h=>absurd h hnp) (fun h hh hs1 hg=>absurd hg (hf h hh hs1)) (fun h=>?_);rw[show (y3 u x).Custody=u from rfl]at h;omega
  rw[b0k m1.short.holds]at e;dsimp only at e;cases hc:(p7 (u0 c i x ⟨c.Today,x.ID,13,x.Custody.Branch,0⟩ u) x.ID).2 with
  |false=>
   rw[hc]at e;cases e
   refine ⟨hcl _ rfl rfl v1 (fun o ho hs1 hg=>?_),a06,hidle⟩;unfold p7 at hc;cases hq:(u0 c i x ⟨c.Today,x.ID,13,x.Custody.Branch,0⟩ u).Holds.find? (fun h=>h.Got==x.ID) with
   |none=>exact absurd (ybj.1 hq o ho) (by simpa using hg)
   |some p=>rw[hq]at hc;cases hc
  |true=>
   rw[hc]at e;simp only[yaj,yaa]at e;rw[f9k m1.short.holds m1.sorted]at e;dsimp only at e;rcases hd:b13 (u0 c i x ⟨c.Today,x.ID,13,x.Custody.Branch,0⟩ u).Holds x.ID with ⟨l,f⟩;rw[hd]at e;dsimp only at e;have hz:=e9g e;clear e;obtain ⟨rfl,e⟩:=hz;have e:=b6z e;have hk:=c3w (l:=(u0 c i x ⟨c.Today,x.ID,13,x.Custody.Branch,0⟩ u).Holds) (item:=x.ID) (by rw[hd]);rw[hd]at hk;have m2:=b0c m1 hk;obtain ⟨o,ho,hg,rfl⟩:=f1v m1.sorted hd;have hsh:=d5o (a1k v1.holds ho);have v2:=v1.swap ho (p:=c1c o 0 1 0) rfl rfl rfl hsh (fun z hz q=>absurd (show (0:Int)<0 from q) (by decide)) (.inr hg) (fun q=>absurd rfl q);have v3:=hcl (i7 (u0 c i x ⟨c.Today,x.ID,13,x.Custody.Branch,0⟩ u) (b7p (u0 c i x ⟨c.Today,x.ID,13,x.Custody.Branch,0⟩ u).Holds o.ID (c1c o 0 1 0))) rfl rfl v2 (fun p hp hs1 hpg=>by
    rcases (a34 ho).1 hp with ⟨hp,hne⟩|rfl
    ·have:=c1d v1.holds ho hp (by rw[hg];omega) (hg.trans hpg.symm);subst this;exact hne rfl
    ·exact hs1 rfl)
   have I:=c1k m2 v3 e;refine ⟨I.val,a06.trans (a5h.trans I.stp),fun h y hy h3=>?_⟩;by_cases hr:y.Record=x.Record
   ·obtain ⟨j,hj,hjy⟩:=e2f hy;exact I.done j y hj hjy hr h3
   ·have hy2:=I.rest y hy hr;have hn:=hidle h y hy2 h3;intro q hq hw;have hq1:=b0q hw;rcases (a34 ho).1 (I.less.2 q hq hq1.2.1) with ⟨hq2,_⟩|rfl
    ·refine hn q hq2 ?_;rw[I.less.1]at hw;exact hw
    ·have ho1:o.State≠1:=fun q=>by
      have:=(a7x (a1k v1.holds ho)).2.2.2.2.1 q;omega
     obtain ⟨z,hz,hzi,hzr,-⟩:=v1.holdI o ho ho1;have:=y5 v1.items hz hm (hzi.trans hg);subst this;exact absurd (hq1.1.symm.trans hzr.symm) hr
theorem c7e {c d:Circ} (v:Val 0 c) (m:MidP c) {item:Int} (e:qf4 c item=some (d,0)):Res c d:=by
 unfold qf4 at e;rcases y7 m item with ⟨-,h2,-⟩|⟨i,x,-,h2,hx,rfl,-⟩
 ·rw[h2]at e;cases e
 rw[h2]at e;simp only[a09,yaa,c9,hx]at e;have hm0:=yag hx;have hid:=a05 v.items hm0;have hlp:=(a74.1 v.loans).1;rw[show b9 b5o (x.ID,(i:Int),false,0,c,ZN,x,())=_ from b9g m hx]at e;dsimp only at e;rw[b5n m.short.holds]at e;cases hq:c.Holds.find? (fun o:Hold=>o.Item==x.ID||(o.Record==x.Record&&!(b8s c x)&&!(x.Custody.State==12))) with
 |some o=>rw[hq]at e;cases e
 |none=>
  rw[hq]at e;dsimp only at e;rcases e1:qgn c x.ID 15 x.Custody.Branch 0 with _|⟨c1,f⟩
  ·rw[e1]at e;cases e
  rw[e1]at e;dsimp only at e;have hz:=e9g e;clear e;obtain ⟨rfl,e⟩:=hz;have hst:x.Custody.State∈([1,2,3,11,10]:List Int):=a2h m hx e1;have hst:x.Custody.State=1∨x.Custody.State=2∨x.Custody.State=3∨x.Custody.State=11∨x.Custody.State=10:=by simpa using hst
  obtain ⟨u,ha,hlen,rfl,m1⟩:=a1l m hx e1;have hu:u.State=12:=by rw[(c7o ha).res];rfl
  have v1:=(v.weak x.ID).move hx rfl ha hlen;have hf:=v.hfree hm0 (by omega) (by omega);have hm:y3 u x∈(u0 c i x ⟨c.Today,x.ID,15,x.Custody.Branch,0⟩ u).Items:=(a1d v.items hx).2 (.inr rfl);have hnp:¬a2i (y3 u x).Custody=true:=by
   rw[a35 (x:=y3 u x) (by show u.State≠4;omega) (by show u.State≠9;omega) (by show u.State≠10;omega)]
   decide
  have hidle:b1g c→b1g (u0 c i x ⟨c.Today,x.ID,15,x.Custody.Branch,0⟩ u):=fun h y hy h3=>by
   rcases (a1d v.items hx).1 hy with ⟨hy,_⟩|rfl
   ·exact h y hy h3
   ·rw[show (y3 u x).Custody=u from rfl]at h3;omega
  have hcl:∀c2:Circ,c2.Items=(u0 c i x ⟨c.Today,x.ID,15,x.Custody.Branch,0⟩ u).Items→c2.Holds=c.Holds→Val x.ID c2→b6v c2 x.ID→Val 0 c2:=by
   intro c2 hI hH v2 hlf;refine v2.close (x:=y3 u x) (by rw[hI];exact hm) rfl (fun n hn e=>absurd e (hlf n hn)) (fun h=>absurd h hnp) (fun h hh hs1 hg=>absurd hg (hf h (by rw[←hH];exact hh) hs1)) (fun h=>?_);rw[show (y3 u x).Custody=u from rfl]at h;omega
  rw[d32 (show (u0 c i x ⟨c.Today,x.ID,15,x.Custody.Branch,0⟩ u).Loans.length<100000000 by show c.Loans.length<_;omega)]at e;rcases hb:a5q (u0 c i x ⟨c.Today,x.ID,15,x.Custody.Branch,0⟩ u).Loans x.ID with ⟨l,n,f⟩;rw[hb]at e;dsimp only at e;by_cases hz:f=0
  ·subst hz;cases e
   obtain ⟨b1,b2,b3,b4⟩:=d00 v1.loans hb;have v2:=v1.setLoans b3 (fun z hz=>⟨v1.loanP z ((b4 z).1 hz).1,.inl ⟨z,((b4 z).1 hz).1,rfl,rfl⟩⟩) (fun z hz hne=>⟨z,(b4 z).2 ⟨hz,hne⟩,rfl⟩);exact ⟨hcl (i4 (u0 c i x ⟨c.Today,x.ID,15,x.Custody.Branch,0⟩ u) l) rfl rfl v2 (fun z hz=>((b4 z).1 hz).2),a06.trans b0i,hidle⟩
  ·rw[show (f==0)=false by simpa using hz]at e;cases e
   refine ⟨hcl _ rfl rfl v1 (fun z hz2 hzi=>?_),a06,hidle⟩;unfold a5q at hb;cases hq2:(u0 c i x ⟨c.Today,x.ID,15,x.Custody.Branch,0⟩ u).Loans.find? (fun n=>n.Item==x.ID) with
   |none=>exact absurd (ybj.1 hq2 z hz2) (by simpa using hzi)
   |some w=>
    rw[hq2]at hb;cases hb
    exact hz rfl
theorem d7v {c d:Circ} {n:Int} (v:Val 0 c) (m:MidP c) (h:FitP c) {id:Int} (e:qgf c id=some (d,n,0)):Res c d:=by
 unfold qgf at e;rw[b1s m.short.holds]at e;generalize b2m c.Holds id=q at e;obtain ⟨o,b⟩:=q;dsimp only at e;cases b with
 |false=>cases e
 |true=>
  simp only[yaj,yaa]at e;cases h1:o.State==1 with
  |false=>rw[h1]at e;cases e
  |true=>
   rw[h1]at e;simp only[yaj,yaa]at e;obtain ⟨t,ht,hg⟩:=c6y (f:=fun (_:Nat) x s=>e9n c o x s) (b55 c) (l:=c.Items) (i:=0) (s:=(false,a86,a4q)) (fun i x s hx hs=>b2w h hx hs) (.inl ⟨rfl,rfl⟩);have r2:=b9i m.short h o;rw[hg]at r2;rw[show b9 b5s (0,c,ZN,o,(⟨0,0,0,0,0,false⟩:Loan),())=_ from r2]at e;dsimp only at e;cases hb:t.2.1.Item==0 with
   |true=>rw[hb]at e;cases e
   |false=>
    rw[hb]at e;simp only[yaa]at e;rcases y7 m t.2.1.Item with ⟨-,h2,-⟩|⟨i,x,-,h2,hx,hid,-⟩
    ·rw[h2]at e;cases e
    rw[h2]at e;simp only[c9,hx]at e;cases hr:qgz c t.2.1.Patron x with
    |none=>rw[hr]at e;cases e
    |some rb=>
     obtain ⟨r,b⟩:=rb;rw[hr]at e;cases b with
     |false=>cases e
     |true=>
      dsimp only at e;simp only[yaj,yaa]at e;cases hc:qhl c x.Custody.Branch with
      |none=>rw[hc]at e;cases e
      |some cal=>
       rw[hc]at e;dsimp only at e;rcases q1:qgx cal c.Today r.Recall with _|⟨due,f⟩
       ·rw[q1]at e;cases e
       rw[q1]at e;dsimp only at e;have hz:=b6y e;clear e;obtain ⟨rfl,e⟩:=hz;rw[f9g m.short.loans]at e;rcases q2:a6d c.Loans t.2.1.Item due with ⟨l,f⟩;rw[q2]at e;dsimp only at e;have hz:=b6y e;clear e;obtain ⟨rfl,e⟩:=hz;cases e
       exact c4q v (d7u v.loans q2)
end
section
theorem e4h:∀{A B:List Int},A.Nodup→(∀a∈A,a∈B)→A.length≤B.length:=by
 intro A
 induction A with
 |nil=>intro B _ _;simp
 |cons a A ih=>
  intro B hn hs;rw[List.nodup_cons]at hn;have ha:=hs a (yaA ..);have:=ih (B:=B.erase a) hn.2 (fun b hb=>by
   have h1:b≠a:=fun e=>hn.1 (e▸hb)
   exact (List.mem_erase_of_ne h1).2 (hs b (yaC _ hb)))
  rw[List.length_erase_of_mem ha]at this;have hp:=List.length_pos_of_mem ha;simp only[yaK];omega
theorem d0d {c:Circ} {it:Int} (v:Val it c) (r:Int):(c.Holds.filter (fun o=>o.Record==r)).length≤c.Patrons.length:=by
 have hp:=(b0b.1 v.holds).2.2;have h1:((c.Holds.filter (fun o=>o.Record==r)).map (fun o=>o.Patron)).Nodup:=by
  rw[List.nodup_iff_pairwise_ne,yby];refine (hp.filter _).imp_of_mem (fun {a b} ha hb q=>?_);have ha:=(yaz.1 ha).2;have hb:=(yaz.1 hb).2;simp only[ya2]at ha hb;unfold a0p at q;simp only[yai,ybk,yaV,ne_eq]at q;rcases q.1 with w|w
  ·exact fun e=>w e.symm
  ·exact absurd (hb.trans ha.symm) w
 have h2:=e4h h1 (B:=c.Patrons.map (fun p=>p.ID)) (fun a ha=>by
  obtain ⟨o,ho,rfl⟩:=yba.1 ha;have:=(v.holdP o (yaz.1 ho).1).1;unfold a2d at this;cases hq:c.Patrons.find? (fun p=>p.ID==o.Patron) with
  |none=>rw[hq]at this;cases this
  |some p=>exact yba.2 ⟨p,yaG hq,by have:=ya4 hq;simpa using this⟩)
 rw[ybe,ybe]at h2;exact h2
theorem a73 {c:Circ} (h:a04 c=true):c.Items.length≤64∧c.Moves.length≤2000:=by
 unfold a04 at h;simp only[yae,yao,yai,yaf]at h;omega
structure Inv (c:Circ):Prop where
 val:Val 0 c
 short:Short c
 pats:c.Patrons.length≤8
theorem h5a {c d:Circ} (s:Short c) (hp:c.Patrons.length≤8) (v:Val 0 d) (t:Stp c d):Inv d:=by
 obtain ⟨a1,a2,a3,a4,a5,a6,a7,a8,a9,a10,a11,a12,a13⟩:=s;have h1:=a73 v.items;have h2:=(a74.1 v.loans).1;have h3:=(b0b.1 v.holds).1;have h4:=(a90.1 v.charges).1;refine ⟨v,⟨by omega,by rw[t.pats];exact a2,by omega,by omega,by omega,by rw[t.rules];exact a6,by omega,fun x hx=>by have:=(a05 v.items hx).2.2.2.2;omega,by rw[t.pats];exact a9,by rw[t.cals];exact a10,by rw[t.cals];exact a11,by rw[t.cals];exact a12,by rw[t.cals];exact a13⟩,by rw[t.pats];exact hp⟩
theorem Inv.fit {c:Circ} (h:Inv c):FitP c:=h9c (c7b h.val)
theorem Inv.mid {c:Circ} (h:Inv c):MidP c:=by
 have f:=h.fit;have h1:=a73 h.val.items;have h2:=(b0b.1 h.val.holds).1;have h4:=(a90.1 h.val.charges).1;exact ⟨h.short,by omega,by omega,a0a f.holds,fun o ho=>a6q f ho,fun r=>by have:=d0d h.val r;have:=h.pats;omega,a62 f,fun r hr=>c2b f hr,fun x hx=>a8l f hx,b00 h.val.items,by omega⟩
theorem Inv.w {c:Circ} (h:Inv c):MidW c:=by
 have h1:=a73 h.val.items;have h2:=(a74.1 h.val.loans).1;have h3:=(b0b.1 h.val.holds).1;exact ⟨h.short,by omega,by omega,by omega,fun r=>by have:=d0d h.val r;have:=h.pats;omega⟩
theorem Inv.of {c d:Circ} (h:Inv c) (v:Val 0 d) (t:Stp c d):Inv d:=h5a h.short h.pats v t
theorem a9f {c:Circ} (p:Hold→Bool):c7i (i7 c (c.Holds.filter p)) c:=⟨rfl,fun o ho _=>(yaz.1 ho).1⟩
theorem b1g.less {c d:Circ} (h:b1g c) (hi:d.Items=c.Items) (l:c7i d c):b1g d:=fun y hy h3=>(h y (by rw[←hi];exact hy) h3).less l rfl rfl
theorem c35 {c d:Circ} (I:Inv c) {id:Int} (e:qgo c id=some (d,0)):Res c d:=by
 have v:=I.val;have m:=I.mid;have hn:=m.holdsN;unfold qgo at e;rw[c54 (by omega)]at e;unfold a1v at e;cases hq:c.Holds.find? (fun h=>h.ID==id) with
 |none=>rw[hq]at e;cases e
 |some o=>
  have ho:=yaG hq;have hid:o.ID=id:=by have:=ya4 hq;simpa using this
  subst hid;rw[hq]at e;dsimp only at e;simp only[yah,yaj,yaa]at e;have v0:=fun it (q:o.State≠3∨o.Got=it)=>(v.weak it).remove ho q
  have m0:=b74 m (fun x=>!(x.ID==o.ID));cases h3:o.State==3 with
  |false=>
   rw[h3]at e;cases e
   exact ⟨v.remove ho (.inl (by simpa using h3)),a5h,fun h=>h.less rfl (a9f _)⟩
  |true=>
   rw[h3]at e;have h3:o.State=3:=by simpa using h3
   simp only[yaj,yaa]at e;obtain ⟨x,hx,hg,-,hat⟩:=v.holdI o ho (by omega);have hxi:=a05 v.items hx;have hat:=(hat (by omega)).1 h3;obtain ⟨i,hi⟩:=yav hx;rw[←hg]at e;change (match qgn (i7 c (c.Holds.filter (fun x=>!(x.ID==o.ID)))) x.ID 2 o.Pickup 0 with|some (r5,r6)=>(bif !(r6==0) then some (o7,r6) else match qg3 r5 x.ID with|some (r8,r9)=>some (r8,r9)|none=>none)|none=>none)=some (d,0) at e;rcases e1:qgn (i7 c (c.Holds.filter (fun x=>!(x.ID==o.ID)))) x.ID 2 o.Pickup 0 with _|⟨c1,f⟩
   ·rw[e1]at e;cases e
   rw[e1]at e;dsimp only at e;have hz:=e9g e;clear e;obtain ⟨rfl,e⟩:=hz;have e:=b6z e;have hlf:=v.lfree hx (a35 (by omega) (by omega) (by omega));obtain ⟨a,b,_,q⟩:=ma (v0 x.ID (.inr hg.symm)) m0 hi hlf (fun p hp hs1 hpg=>by
    have hp2:=yaz.1 hp;have:=c1d v.holds ho hp2.1 (by omega) (hg.symm.trans hpg.symm);subst this;have:=hp2.2;simp at this) e1 e
   exact ⟨a,a5h.trans b,fun h=>q (b1g.x (b1g.less (d:=i7 c (c.Holds.filter (fun x=>!(x.ID==o.ID)))) h rfl (a9f _)) _)⟩
theorem d49 {c d:Circ} (I:Inv c) {id:Int} (e:qgg c id=some (d,0)):Res c d:=by
 unfold qgg at e;exact c35 I (b6z e)
theorem e4o {l m:List Hold} {h:Hold} (e:a8a l h=(m,0)):m=l++[h]∧t7 (l++[h])=0:=by
 unfold a8a at e;cases hq:((!(h.State==1)||!(h.Got==0))||!(h.Until==0)) with
 |true=>rw[hq]at e;cases e
 |false=>
  rw[hq]at e;simp only[yaa]at e;by_cases he:t7 (l++[h])=0
  ·rw[he]at e;cases e
   exact ⟨rfl,he⟩
  ·rw[show (t7 (l++[h])==0)=false by simpa using he]at e;simp only[yan,yab,yaO]at e;exact absurd e.2 he
theorem f2e {c d:Circ} {n:Int} (I:Inv c) {vid record item pickup:Int} (e:qg8 c vid record item pickup=some (d,n,0)):Res c d:=by
 have v:=I.val;have m:=I.mid;have f:=I.fit;have hn:=m.holdsN;have hnum:=a77 v.nums;unfold qg8 at e;simp -zeta only[a3j m.short.patrons,f9f m.short.items,z6]at e;cases hp:a2d c.Patrons vid with
 |mk p ok=>
 rw[hp]at e;cases ok with
 |false=>cases e
 |true=>
 have hpi:=(c1b hp).2;subst hpi;dsimp only at e;cases hx:c.Items.find? (c3o record item) with
 |none=>rw[hx]at e;cases e
 |some x=>
 rw[hx]at e;simp only[yaj,Bool.or_self,yaa]at e;cases hq:(decide (pickup<1)||decide (4<pickup)) with
 |true=>rw[hq]at e;cases e
 |false=>
 rw[hq]at e;simp only[yaa]at e;cases hb:qf7 c p.ID with
 |none=>rw[hb]at e;cases e
 |some b=>
 rw[hb]at e;cases b with
 |true=>cases e
 |false=>
 dsimp only at e;simp only[yaa,e5e m.short.loans]at e;have hll:(c.Loans.filter (fun x=>x.Patron==p.ID)).length<1000000000:=by have:=yax (fun x:Loan=>x.Patron==p.ID) c.Loans;have:=m.short.loans;omega
 have r2:=b5r (c:=c) (v:=o7) (p:=p.ID) (record:=record) (item:=item) (pickup:=pickup) (y:=x) m.short hll (fun n hn=>by
  obtain ⟨x,p,hx,-⟩:=a43 f (yaz.1 hn).1;rw[hx];rfl)
 rw[show b9 a9o (p.ID,record,item,pickup,c.Loans.filter (fun x=>x.Patron==p.ID),0,c,ZN,x,())=_ from r2]at e;cases hl:(c.Loans.filter (fun x=>x.Patron==p.ID)).find? (b7e c record) with
 |some _=>rw[hl]at e;cases e
 |none=>
 rw[hl]at e;dsimp only at e;cases hnh:decide (99999<c.NextHold) with
 |true=>rw[hnh]at e;cases e
 |false=>
 have hnh2:¬99999<c.NextHold:=by simpa using hnh
 rw[hnh]at e;simp only[yaa]at e;cases hr:qgz c p.ID x with
 |none=>rw[hr]at e;cases e
 |some rb=>
 obtain ⟨r,b⟩:=rb;rw[hr]at e;dsimp only at e;rw[f9i (by omega),a0w (show -9223372036854775808≤c.NextHold+1 by omega) (by omega)]at e;rcases hpl:a8a c.Holds (⟨c.NextHold,p.ID,record,item,pickup,c.Today,1,0,0,0,r.Rank⟩:Hold) with ⟨l,f1⟩;rw[hpl]at e;dsimp only at e;have hz:=b6y e;clear e;obtain ⟨rfl,e⟩:=hz;obtain ⟨rfl,he⟩:=e4o hpl;have v2:=v.place he rfl rfl (by omega) (by show (a2d c.Patrons p.ID).2=true;rw[hp]);have st2:Stp c (b6s (i7 c (c.Holds++[(⟨c.NextHold,p.ID,record,item,pickup,c.Today,1,0,0,0,r.Rank⟩:Hold)])) (c.NextHold+1)):=⟨rfl,rfl,rfl,[],by simp[b6s,i7]⟩
 have I2:=I.of v2 st2;have m2:=I2.mid;generalize hc2:b6s (i7 c (c.Holds++[(⟨c.NextHold,p.ID,record,item,pickup,c.Today,1,0,0,0,r.Rank⟩:Hold)])) (c.NextHold+1)=c2 at v2 st2 m2;have hc3:{c with Holds:=c.Holds++[(⟨c.NextHold,p.ID,record,item,pickup,c.Today,1,0,0,0,r.Rank⟩:Hold)],NextHold:=c.NextHold+1}=c2:=by rw[←hc2];rfl
 rw[hc3]at e;rcases e1:qg1 c2 record with _|⟨d2,f2⟩
 ·rw[e1]at e;cases e
 rw[e1]at e;dsimp only at e;have hz:=b6y e;clear e;obtain ⟨rfl,e⟩:=hz;cases e
 have L:=c1k m2 v2 e1;refine ⟨L.val,st2.trans L.stp,fun h y hy h3=>?_⟩;by_cases hry:y.Record=record
 ·obtain ⟨j,hj,hjy⟩:=e2f hy;exact L.done j y hj hjy hry h3
 ·have hy2:=L.rest y hy hry;have hI:c2.Items=c.Items:=by rw[←hc2];rfl
  have hH:c2.Holds=c.Holds++[(⟨c.NextHold,p.ID,record,item,pickup,c.Today,1,0,0,0,r.Rank⟩:Hold)]:=by rw[←hc2];rfl
  have hT:c2.Today=c.Today:=by rw[←hc2];rfl
  have hno:=h y (by rw[←hI];exact hy2) h3;intro o ho hw;have hw1:=b0q hw;have ho2:=L.less.2 o ho hw1.2.1;rw[hH]at ho2;rcases yas.1 ho2 with ho2|ho2
  ·refine hno o ho2 ?_;rw[L.less.1,hT]at hw;exact hw
  ·have:o=⟨c.NextHold,p.ID,record,item,pickup,c.Today,1,0,0,0,r.Rank⟩:=by simpa using ho2
   subst this;exact absurd hw1.1.symm hry
end
section
theorem c1u {c:Circ} (s:Short c) {item patron branch due:Int} (e:qf5 c item patron branch=some (due,0)):(a2d c.Patrons patron).2=true:=by
 unfold qf5 at e;rw[a3j s.patrons,b5z s.items]at e;dsimp only at e;cases hg:(a2d c.Patrons patron).2 with
 |true=>rfl
 |false=>
  rw[hg]at e;cases hq:decide (a5e (fun x=>x.ID==item) c.Items<0)<;>rw[hq]at e<;>cases e
theorem b3d {c:Circ} {item:Int} (h:(p7 c item).2=false):∀o∈c.Holds,o.Got≠item:=by
 intro o ho e;unfold p7 at h;cases hq:c.Holds.find? (fun h=>h.Got==item) with
 |none=>exact absurd (ybj.1 hq o ho) (by simpa using e)
 |some p=>rw[hq]at h;cases h
theorem f2l {c d:Circ} {n:Int} (I:Inv c) {item patron branch:Int} (e:qg7 c item patron branch=some (d,n,0)):Res c d:=by
 have v:=I.val;have m:=I.mid;have hlp:=(a74.1 v.loans).1;have hhp:=(b0b.1 v.holds).1;unfold qg7 at e;rcases e0:qf5 c item patron branch with _|⟨due,f⟩
 ·rw[e0]at e;cases e
 rw[e0]at e;dsimp only at e;have hz:=b6y e;clear e;obtain ⟨rfl,e⟩:=hz;have hk:=c1u m.short e0;rcases y7 m item with ⟨-,h2,-⟩|⟨i,x,-,h2,hx,rfl,-⟩
 ·rw[h2]at e;cases e
 rw[h2]at e;simp only[c9,hx]at e;rcases e1:qgn c x.ID 3 branch patron with _|⟨c1,f⟩
 ·rw[e1]at e;cases e
 rw[e1]at e;dsimp only at e;have hz:=b6y e;clear e;obtain ⟨rfl,e⟩:=hz;have hm0:=yag hx;have hid:=a05 v.items hm0;have hst:x.Custody.State∈([3,5]:List Int):=a2h m hx e1;have hst:x.Custody.State=3∨x.Custody.State=5:=by simpa using hst
 obtain ⟨u,ha,hlen,hc1,m1⟩:=a1l m hx e1;have hu:u.State=4∧u.Who=patron:=by rw[(c7o ha).res];exact ⟨rfl,rfl⟩
 have v1:=(v.weak x.ID).move hx rfl ha hlen;have hlf:=v.lfree hm0 (a35 (by omega) (by omega) (by omega));have hm1:y3 u x∈(u0 c i x ⟨c.Today,x.ID,3,branch,patron⟩ u).Items:=(a1d v.items hx).2 (.inr rfl);have st1:Stp c (u0 c i x ⟨c.Today,x.ID,3,branch,patron⟩ u):=a06;have hidle:b1g c→b1g (u0 c i x ⟨c.Today,x.ID,3,branch,patron⟩ u):=fun h y hy h3=>by
  rcases (a1d v.items hx).1 hy with ⟨hy,_⟩|rfl
  ·exact h y hy h3
  ·rw[show (y3 u x).Custody=u from rfl]at h3;omega
 rw[←hc1]at v1 hm1 st1 hidle;have hL:c1.Loans=c.Loans:=by rw[hc1];rfl
 have hH:c1.Holds=c.Holds:=by rw[hc1];rfl
 have hP:c1.Patrons=c.Patrons:=by rw[hc1];rfl
 clear hc1;rw[f9m (by rw[hL];omega)]at e;dsimp only at e;rcases hout:e9m c1.Loans ⟨x.ID,patron,c1.Today,due,0,false⟩ with ⟨l,f⟩;rw[hout]at e;dsimp only at e;have hz:=b6y e;clear e;obtain ⟨rfl,e⟩:=hz;obtain ⟨o1,o2,o3⟩:=g7l hout;have v2:=v1.setLoans (l:=l) o1 (fun z hz=>by
  rcases (o2 z).1 hz with rfl|hz
  ·exact ⟨by rw[hP];exact hk,.inr ⟨rfl,y3 u x,hm1,rfl⟩⟩
  ·exact ⟨v1.loanP z hz,.inl ⟨z,hz,rfl,rfl⟩⟩) (fun z hz _=>⟨z,(o2 z).2 (.inr hz),rfl⟩)
 have hc2:{c1 with Loans:=l}=i4 c1 l:=rfl;simp only[hc2]at e;have hH2:(i4 c1 l).Holds=c.Holds:=hH;have hI2:(i4 c1 l).Items=c1.Items:=rfl;have hL2:(i4 c1 l).Loans=l:=rfl;have st2:Stp c (i4 c1 l):=st1.trans b0i;have hid2:b1g c→b1g (i4 c1 l):=hidle;generalize i4 c1 l=c2 at e v2 hH2 hI2 hL2 st2 hid2;have fin:∀d:Circ,d.Items=c1.Items→d.Loans=l→Val x.ID d→b92 d x.ID→Stp c2 d→c7i d c2→Res c d:=by
  intro d qI qL vd hf st hless;refine ⟨vd.close (x:=y3 u x) (by rw[qI];exact hm1) rfl (fun z hz hzi=>?_) (fun _=>⟨⟨x.ID,patron,c1.Today,due,0,false⟩,by rw[qL];exact (o2 _).2 (.inl rfl),rfl⟩) (fun h hh hs1 hg=>absurd hg (hf h hh hs1)) (fun h=>?_),st2.trans st,fun h=>(hid2 h).less (qI.trans hI2.symm) hless⟩
  ·rw[qL]at hz;rcases (o2 z).1 hz with rfl|hz
   ·exact ⟨a8r (u:=u) (.inl hu.1),hu.2⟩
   ·exact absurd hzi (hlf z (by rw[←hL];exact hz))
  ·rw[show (y3 u x).Custody=u from rfl]at h;omega
 have hs2:c2.Holds.length<1000000:=by rw[hH2];omega
 rw[b0k (by omega)]at e;dsimp only at e;have cut:∀o∈c2.Holds,(o.State≠3∨o.Got=x.ID)→(∀p∈c2.Holds,p.State≠1→p.Got=x.ID→p.ID=o.ID)→(match qgh c2.Holds o.ID with
  |some (r23,r24,r25)=>bif !(r25==0) then some (o7,0,r25) else some (i7 c2 r23,due,0)
  |none=>none)=some (d,n,0)→Res c d:=by
  intro o ho hoq hall e;rw[c54 (by omega),a9c (a0a v2.holds) ho]at e;dsimp only at e;simp only[yah,yaj,yaa]at e;cases e
  refine fin _ hI2 hL2 (v2.remove ho hoq) (fun p hp hs1 hpg=>?_) a5h (a9f _);have hp2:=yaz.1 hp;have:=hall p hp2.1 hs1 hpg;have q:=hp2.2;rw[this]at q;simp at q
 cases hcg:(p7 c2 x.ID).2 with
 |true=>
  have hcm:=a5s hcg;rw[hcg]at e;have hw:b9 a2s (patron,due,true,0,c2,o7,x,(p7 c2 x.ID).1,())=some (due,true,c2,o7,(p7 c2 x.ID).1,()):=by
   refine n5 1 (by rw[m5];omega) ?_;simp only[m9,a2s];cases decide ((0:Int)<(c2.Holds.length:Int))<;>rfl
  rw[show b9 a2s (patron,due,true,0,c2,ZN,x,(p7 c2 x.ID).1,())=_ from hw]at e;dsimp only at e;simp only[yab]at e;exact cut _ hcm.1 (.inr hcm.2) (fun p hp hs1 hpg=>by rw[c1d v2.holds hcm.1 hp (by rw[hcm.2];omega) (hcm.2.trans hpg.symm)]) e
 |false=>
  have hno:=b3d hcg;rw[hcg]at e;have hw:=b5q (c:=c2) (v:=o7) (patron:=patron) (due:=due) (x:=x) hs2 c2.Holds.length 0 (p7 c2 x.ID).1 (by omega);have hw2:b9 a2s (patron,due,false,0,c2,o7,x,(p7 c2 x.ID).1,())=_:=n5 (c2.Holds.length+2) (by rw[m5];omega) hw;rw[ybw]at hw2;rw[show b9 a2s (patron,due,false,0,c2,ZN,x,(p7 c2 x.ID).1,())=_ from hw2]at e;dsimp only at e;unfold c8z at e;cases hf:c2.Holds.find? (b4e patron x) with
  |none=>
   rw[hf]at e;dsimp only at e;simp only[yaa]at e;have hcc:i7 c2 c2.Holds=c2:=rfl;have e:some (i7 c2 c2.Holds,due,(0:Int))=some (d,n,0):=e;rw[hcc]at e;cases e
   exact fin _ hI2 hL2 v2 (fun p hp _ hpg=>hno p hp hpg) (.refl _) (.refl _)
  |some o=>
   rw[hf]at e;dsimp only at e;simp only[yab]at e;have hoq:=ya4 hf;unfold b4e at hoq;simp only[yae,ya2]at hoq;exact cut _ (yaG hf) (.inl (by omega)) (fun p hp _ hpg=>absurd hpg (hno p hp)) e
structure Ret (c d:Circ) (i:Nat) (x:Item) (branch:Int):Prop where
 val:Val x.ID d
 mid:MidP d
 items:d.Items=c.Items.set i (y3 ⟨2,branch,0,0⟩ x)
 free:b6v d x.ID
 holds:d.Holds=c.Holds
 today:d.Today=c.Today
 stp:Stp c d
theorem c6t {c d:Circ} (I:Inv c) {i:Nat} {x:Item} (hx:c.Items[i]?=some x) {branch:Int} (e:qf2 c x.ID branch=some (d,0)):Ret c d i x branch:=by
 have v:=I.val;have m:=I.mid;have hlp:=(a74.1 v.loans).1;unfold qf2 at e;rcases e1:qgn c x.ID 4 branch 0 with _|⟨c1,f⟩
 ·rw[e1]at e;cases e
 rw[e1]at e;dsimp only at e;have hz:=e9g e;clear e;obtain ⟨rfl,e⟩:=hz;obtain ⟨u,ha,hlen,hc1,m1⟩:=a1l m hx e1;have hu:u=⟨2,branch,0,0⟩:=(c7o ha).res;subst hu;have v1:=(v.weak x.ID).move hx rfl ha hlen;have st1:Stp c (u0 c i x ⟨c.Today,x.ID,4,branch,0⟩ ⟨2,branch,0,0⟩):=a06;have hx1:=a3i hx ⟨c.Today,x.ID,4,branch,0⟩ ⟨2,branch,0,0⟩;rw[←hc1]at v1 st1 hx1;have hL:c1.Loans=c.Loans:=by rw[hc1];rfl
 have hH:c1.Holds=c.Holds:=by rw[hc1];rfl
 have hI:c1.Items=c.Items.set i (y3 ⟨2,branch,0,0⟩ x):=by rw[hc1];rfl
 have hT:c1.Today=c.Today:=by rw[hc1];rfl
 clear hc1;rw[d32 (by rw[hL];omega)]at e;rcases hb:a5q c1.Loans x.ID with ⟨l,n,f⟩;rw[hb]at e;dsimp only at e;have hz:=e9g e;clear e;obtain ⟨rfl,e⟩:=hz;obtain ⟨b1,b2,b3,b4⟩:=d00 v1.loans hb;have v2:=v1.setLoans b3 (fun z hz=>⟨v1.loanP z ((b4 z).1 hz).1,.inl ⟨z,((b4 z).1 hz).1,rfl,rfl⟩⟩) (fun z hz hne=>⟨z,(b4 z).2 ⟨hz,hne⟩,rfl⟩);have m2:=b4f m1 (l:=l) (by have:=(a74.1 b3).1;omega);have hat:=a6t (c:=i4 c1 l) (x:=y3 ⟨2,branch,0,0⟩ x) m2 hx1;have hc2:{c1 with Loans:=l}=i4 c1 l:=rfl;simp -zeta only[hc2]at e;rw[show qt (i4 c1 l) x.ID=_ from hat]at e;simp -zeta only[c9,hx1]at e;have hpn:(a2d (i4 c1 l).Patrons n.Patron).2=true:=v1.loanP n b1;have hfr:b6v (i4 c1 l) x.ID:=fun z hz=>((b4 z).1 hz).2
 have hI2:(i4 c1 l).Items=c1.Items:=rfl;have hH2:(i4 c1 l).Holds=c1.Holds:=rfl;have hT2:(i4 c1 l).Today=c1.Today:=rfl;have st2:Stp c (i4 c1 l):=st1.trans b0i;have rf:∀c3:Circ,Val x.ID c3→MidP c3→(∃ch nc,c3=a5p (i4 c1 l) ch nc)→(match qgj c3.Charges n.Patron x.ID 2 with
  |some (r21,r22)=>some ({c3 with Charges:=r21},(0:Int))
  |none=>none)=some (d,0)→Ret c d i x branch:=by
  intro c3 v3 m3 h3 e;obtain ⟨w,hw⟩:=f9h (p:=n.Patron) (item:=x.ID) (kind:=2) m3.chN;rw[hw]at e;cases e
  have hfl:=yax (fun y=>!(b57 n.Patron x.ID 2 y)) c3.Charges;have hch:=m3.chN;have v4:=v3.setCharges (b61 v3.charges (fun y=>!(b57 n.Patron x.ID 2 y))) ⟨yb1 _,(a77 v3.nums).2.2.2⟩ (fun y hy=>b3i (v3.chG y (yaz.1 hy).1));have m4:=c3n m3 (l:=c3.Charges.filter (fun y=>!(b57 n.Patron x.ID 2 y))) (by omega) c3.NextCharge;obtain ⟨ch,nc,rfl⟩:=h3;exact ⟨v4,m4,hI2.trans hI,hfr,hH2.trans hH,hT2.trans hT,st2.trans (d9y (l:=(a5p (i4 c1 l) ch nc).Charges.filter (fun y=>!(b57 n.Patron x.ID 2 y))) (n:=nc))⟩
 have core:∀fine:Int,(bif decide (0<fine) then (match qf6 (i4 c1 l) n.Patron x.ID 1 fine with
  |some (r17,r18)=>bif !(r18==0) then some (o7,r18) else (match qgj r17.Charges n.Patron x.ID 2 with
   |some (r21,r22)=>some ({r17 with Charges:=r21},(0:Int))
   |none=>none)
  |none=>none)
  else (match qgj (i4 c1 l).Charges n.Patron x.ID 2 with
   |some (r21,r22)=>some ((⟨(i4 c1 l).Today,(i4 c1 l).Items,(i4 c1 l).Patrons,(i4 c1 l).Loans,(i4 c1 l).Holds,r21,(i4 c1 l).Rules,(i4 c1 l).Cals,(i4 c1 l).Moves,(i4 c1 l).NextHold,(i4 c1 l).NextCharge,(i4 c1 l).Local⟩:Circ),(0:Int))
   |none=>none))=some (d,0)→Ret c d i x branch:=by
  intro fine e;cases hf:decide (0<fine) with
  |false=>
   rw[hf]at e;exact rf (i4 c1 l) v2 m2 ⟨(i4 c1 l).Charges,(i4 c1 l).NextCharge,rfl⟩ e
  |true=>
   rw[hf]at e;simp only[yab]at e;rcases e3:qf6 (i4 c1 l) n.Patron x.ID 1 fine with _|⟨c3,f⟩
   ·rw[e3]at e;cases e
   rw[e3]at e;dsimp only at e;have hz:=e9g e;clear e;obtain ⟨rfl,e⟩:=hz;obtain ⟨v3,m3,h3⟩:=b3j v2 m2 hpn e3;exact rf c3 v3 m3 h3 e
 cases hr:qgz (i4 c1 l) n.Patron (y3 ⟨2,branch,0,0⟩ x) with
 |none=>rw[hr]at e;cases e
 |some rb=>
  obtain ⟨r,b⟩:=rb;rw[hr]at e;cases b with
  |false=>exact core 0 e
  |true=>
   dsimp only at e;simp only[yab]at e;cases hcal:qhl (i4 c1 l) branch with
   |none=>rw[hcal]at e;cases e
   |some cal=>
    rw[hcal]at e;dsimp only at e;cases hlate:qhg r cal n.Due c1.Today with
    |none=>rw[hlate]at e;cases e
    |some fine=>
     rw[hlate]at e;exact core fine e
theorem d36 {c c1 d:Circ} {n:Int} {i:Nat} {x x1:Item} (v1:Val x.ID c1) (m1:MidP c1) (hx:c1.Items[i]?=some x1) (hxi:x1.ID=x.ID) (hf:b6v c1 x.ID) (st:Stp c c1) (hi:b1g c→d8i x.ID c1)
 (hcase:b92 c1 x.ID∨∀o∈c1.Holds,o.State≠1→o.Got=x.ID→o.State=2∧x1.Record=o.Record∧o.Pickup=x1.Custody.Branch) (e:e5y x.ID 0 c1=some (d,n,0)):Res c d:=by
 rw[←hxi]at v1 hf hi hcase e;unfold e5y at e;simp only[yah,yaj,yaa]at e;rw[b0k m1.short.holds]at e;dsimp only at e;have fin:∀{o:Option (Circ×Int)},(match o with
  |some (d,f)=>(bif !(f==0) then some (o7,0,f) else match qaw d x1.ID with
   |some (r,_)=>some (d,r.ID,0)
   |none=>none)
  |none=>none)=some (d,n,0)→o=some (d,0):=by
  intro o e;cases o with
  |none=>cases e
  |some p=>
   obtain ⟨d2,f⟩:=p;dsimp only at e;have hz:=b6y e;clear e;obtain ⟨rfl,e⟩:=hz;cases hc:qaw d2 x1.ID with
   |none=>rw[hc]at e;cases e
   |some q=>rw[hc]at e;cases e;rfl
 cases hc:(p7 c1 x1.ID).2 with
 |false=>
  rw[hc]at e;have e2:qg3 c1 x1.ID=some (d,0):=fin e;have hno:=b3d hc;have r:=c0d m1 hx e2;have f:=c0c v1.holds hx r;exact ⟨d9b v1 hx hf (fun o ho _=>hno o ho) r,st.trans f.stp,fun h=>d9a v1.items m1 hx f (hi h)⟩
 |true=>
  have hcm:=a5s hc;rw[hc]at e;have e2:qgm c1 x1.ID (p7 c1 x1.ID).1=some (d,0):=fin e;have r:=c6m m1 hx e2;have hx1:=a05 v1.items (yag hx);have ho1:(p7 c1 x1.ID).1.State≠1:=fun q=>by
   have:=(a7x (a1k v1.holds hcm.1)).2.2.2.2.1 q;rw[hcm.2]at this;omega
  rcases hcase with hcase|hcase
  ·exact absurd hcm.2 (hcase _ hcm.1 ho1)
  ·obtain ⟨h2,hrec,hpk⟩:=hcase _ hcm.1 ho1 hcm.2;have v3:=e5v v1 hx hf hcm.1 hrec hpk (fun p hp _ hpg=>by rw[c1d v1.holds hcm.1 hp (by rw[hcm.2];omega) (hcm.2.trans hpg.symm)]) r;obtain ⟨u,l,un,ha,hlen,hcc,rfl⟩:=r;have hl:=b0s (c:=u0 c1 i x1 ⟨c1.Today,x1.ID,5,x1.Custody.Branch,(p7 c1 x1.ID).1.Patron⟩ u) v1.holds hcc;refine ⟨v3,st.trans (a06.trans a5h),fun h y hy h3=>?_⟩;have hl2:c7i (i7 (u0 c1 i x1 ⟨c1.Today,x1.ID,5,x1.Custody.Branch,(p7 c1 x1.ID).1.Patron⟩ u) l) c1:=hl.trans ⟨rfl,fun o ho _=>ho⟩;have hy:y∈c1.Items.set i (y3 u x1):=hy;rcases (a5i v1.items hx).1 hy with ⟨hy,hne⟩|rfl
   ·exact (hi h y hy hne h3).less hl2 rfl rfl
   ·rw[show (y3 u x1).Custody=u from rfl,show u=⟨5,x1.Custody.Branch,(p7 c1 x1.ID).1.Patron,0⟩ from (c7o ha).res]at h3;exact absurd (show (5:Int)=3 from h3) (by decide)
theorem e97 {c d:Circ} {n:Int} (I:Inv c) {item branch:Int} (e:qg9 c item branch=some (d,n,0)):Res c d:=by
 have v:=I.val;have m:=I.mid;rcases y7 m item with ⟨-,h2,-⟩|⟨i,x,-,h2,hx,rfl,-⟩
 ·unfold qg9 at e;rw[h2]at e;cases e
 rw[f9d m.short h2 hx]at e;have hm0:=yag hx;have hid:=a05 v.items hm0;have idl:∀c1:Circ,∀u,c1.Items=c.Items.set i (y3 u x)→c1.Holds=c.Holds→c1.Today=c.Today→b1g c→d8i x.ID c1:=by
  intro c1 u hI hH hT h y hy hne h3;rw[hI,a5i v.items hx]at hy;rcases hy with ⟨hy,_⟩|rfl
  ·exact (h y hy h3).less ⟨hT,fun o ho _=>by rw[hH]at ho;exact ho⟩ rfl rfl
  ·exact absurd rfl hne
 have mv:∀kind:Int,a2i x.Custody=false→(b92 c x.ID∨kind=7)→(kind=7→x.Custody.State=6)→d4s x.ID (qgn c x.ID kind branch 0)=some (d,n,0)→Res c d:=by
  intro kind hwp hc h6 e;unfold d4s at e;rcases e1:qgn c x.ID kind branch 0 with _|⟨c1,f⟩
  ·rw[e1]at e;cases e
  rw[e1]at e;dsimp only at e;by_cases hf:f=0
  ·subst hf;obtain ⟨u,ha,hlen,hc1,m1⟩:=a1l m hx e1;subst hc1;refine d36 (x:=x) ((v.weak x.ID).move hx rfl ha hlen) m1 (a3i hx _ u) rfl (v.lfree hm0 hwp) a06 (idl _ u rfl rfl rfl) ?_ e;by_cases hk:kind=7
   ·subst hk;right;intro o ho hs1 hg;obtain ⟨y,hy,hyi,hyr,hat⟩:=v.holdI o ho hs1;have:=y5 v.items hy hm0 (hyi.trans hg);subst this;have hat:=hat (by omega);have hs6:=h6 rfl;have h2:o.State=2:=by
     rcases (a7x (a1k v.holds ho)).2.2.2.1 with q|q|q
     ·exact absurd q hs1
     ·exact q
     ·have:=(hat.1 q).1;omega
    have hto:=(hat.2 h2).2.1;have hu:u=⟨2,branch,0,0⟩:=(c7o ha).res;have hfit:=(c7o ha).fits;unfold c16 at hfit;simp at hfit;refine ⟨h2,hyr,?_⟩;show o.Pickup=u.Branch
    rw[hu];show o.Pickup=branch
    omega
   ·left;rcases hc with hc|hc
    ·exact hc
    ·exact absurd hc hk
  ·exfalso;unfold e5y at e;rw[show (f==0)=false by simpa using hf]at e;cases e
   exact hf rfl
 cases hp:a2i x.Custody with
 |true=>
  rw[hp]at e;simp only[yab]at e;cases hb:(decide (branch<1)||decide (4<branch)) with
  |true=>rw[hb]at e;cases e
  |false=>
   rw[hb]at e;simp only[yaa]at e;unfold d4s at e;rcases e1:qf2 c x.ID branch with _|⟨c1,f⟩
   ·rw[e1]at e;cases e
   rw[e1]at e;dsimp only at e;by_cases hf:f=0
   ·subst hf;have R:=c6t I hx e1;have hst:x.Custody.State=4∨x.Custody.State=9∨x.Custody.State=10:=by
     rw[a0i]at hp;simpa[or_assoc]using hp
    have hfr:=v.hfree hm0 (by omega) (by omega);have hlt:=(zL hx)
    exact d36 (x:=x) R.val R.mid (i:=i) (x1:=y3 ⟨2,branch,0,0⟩ x) (by rw[R.items,ybv hlt]) rfl R.free R.stp (idl _ _ R.items R.holds R.today) (.inl (fun o ho=>hfr o (by rw[←R.holds];exact ho))) e
   ·exfalso;unfold e5y at e;rw[show (f==0)=false by simpa using hf]at e;cases e
    exact hf rfl
 |false=>
  rw[hp]at e;simp only[yaa]at e;cases h8:x.Custody.State==8 with
  |true=>
   rw[h8]at e;have h8:x.Custody.State=8:=by simpa using h8
   exact mv 4 hp (.inl (v.hfree hm0 (by omega) (by omega))) (fun q=>absurd q (by decide)) e
  |false=>
   rw[h8]at e;simp only[yaa]at e;cases h11:x.Custody.State==11 with
   |true=>
    rw[h11]at e;have h11:x.Custody.State=11:=by simpa using h11
    exact mv 14 hp (.inl (v.hfree hm0 (by omega) (by omega))) (fun q=>absurd q (by decide)) e
   |false=>
    rw[h11]at e;simp only[yaa]at e;cases h6:x.Custody.State==6 with
    |true=>
     rw[h6]at e;exact mv 7 hp (.inr rfl) (fun _=>by simpa using h6) e
    |false=>
     rw[h6]at e;cases e
end
section
structure DayI (last:Int) (c0 c:Circ):Prop where
 inv:Inv c
 stp:Stp c0 c
 done:∀y∈c.Items,y.Custody.State=3→y.Record≤last→a9s c y
theorem g5j {c d v:Circ} (I:Inv c) {f:Int} (e:b9 a29 (0,c,v,())=some (f,d,())) (hf:f=0):Inv d∧Stp c d∧b1g d:=by
 have rec1:∀c:Circ,Inv c→∀x∈c.Items,1≤x.Record:=fun c I x hx=>(a05 I.val.items hx).2.2.1
 obtain ⟨b,D,hb⟩:=a8w (fun s:Int×Circ×Circ×Unit=>DayI s.1 c s.2.1) (by
  rintro ⟨last,c1,v1,_⟩ ⟨last2,c2,v2,_⟩ D hs;dsimp only at D;obtain ⟨q1,q2,q3⟩:=a8q last c1.Items 0 (rec1 c1 D.inv);simp only[a29,a5b D.inv.short.items]at hs;by_cases hr:a6a last c1.Items 0=0
  ·rw[show (a6a last c1.Items 0==0)=true by simpa using hr]at hs;cases hs
  ·rw[show (a6a last c1.Items 0==0)=false by simpa using hr]at hs;simp only[yaa]at hs;rcases e1:qg1 c1 (a6a last c1.Items 0) with _|⟨c3,g⟩
   ·rw[e1]at hs;cases hs
   rw[e1]at hs;dsimp only at hs;by_cases hg:g=0
   ·subst hg;simp only[yah,yaj,yaa]at hs;cases hs
    have L:=c1k D.inv.mid D.inv.val e1;refine ⟨D.inv.of L.val L.stp,D.stp.trans L.stp,fun y hy h3 hle=>?_⟩;by_cases hyr:y.Record=a6a last c1.Items 0
    ·obtain ⟨j,hj,hjy⟩:=e2f hy;exact L.done j y hj hjy hyr h3
    ·have hy1:=L.rest y hy hyr;refine (D.done y hy1 h3 ?_).less L.less rfl rfl;by_cases hlt:last<y.Record
     ·have:=(q2 y hy1 h3 hlt).2;have hle:y.Record≤a6a last c1.Items 0:=hle;omega
     ·omega
   ·rw[show (g==0)=false by simpa using hg]at hs;cases hs) (a:=(0,c,v,())) ⟨I,.refl _,fun y hy h3 hle=>by have:=rec1 c I y hy;dsimp only at hle;omega⟩ e
 obtain ⟨last,c1,v1,_⟩:=b;dsimp only at D;obtain ⟨q1,q2,q3⟩:=a8q last c1.Items 0 (rec1 c1 D.inv);simp only[a29,a5b D.inv.short.items]at hb;by_cases hr:a6a last c1.Items 0=0
 ·rw[show (a6a last c1.Items 0==0)=true by simpa using hr]at hb;cases hb
  refine ⟨D.inv,D.stp,fun y hy h3=>D.done y hy h3 ?_⟩;by_cases hlt:last<y.Record
  ·exact absurd hr (q2 y hy h3 hlt).1
  ·omega
 ·rw[show (a6a last c1.Items 0==0)=false by simpa using hr]at hb;simp only[yaa]at hb;rcases e1:qg1 c1 (a6a last c1.Items 0) with _|⟨c3,g⟩
  ·rw[e1]at hb;cases hb
  rw[e1]at hb;dsimp only at hb;by_cases hg:g=0
  ·rw[show (g==0)=true by simpa using hg]at hb;cases hb
  ·rw[show (g==0)=false by simpa using hg]at hb;cases hb
   exact absurd hf hg
theorem f67 {c v:Circ} {ids:List Int} {r:(Circ×Circ×Unit)⊕(Int×Circ×Unit)} (I:Inv c) (e:b9 a5m (ids,0,c,v,())=some r):(∀d w,r=.inl (d,w,())→Inv d∧Stp c d)∧∀g w,r=.inr (g,w,())→g≠0:=by
 obtain ⟨b,D,hb⟩:=a8w (fun s:List Int×Int×Circ×Circ×Unit=>Inv s.2.2.1∧Stp c s.2.2.1) (by
  rintro ⟨l,i,c1,v1,_⟩ ⟨l2,i2,c2,v2,_⟩ ⟨D1,D2⟩ hs;dsimp only at D1 D2;simp only[a5m]at hs;cases hlt:decide (i<(l.length:Int)) with
  |false=>rw[hlt]at hs;cases hs
  |true=>
   rw[hlt]at hs;simp only[yab]at hs;cases hx:m6 l i with
   |none=>rw[hx]at hs;cases hs
   |some x=>
    rw[hx]at hs;dsimp only at hs;rcases e1:qgo c1 x with _|⟨c3,g⟩
    ·rw[e1]at hs;cases hs
    rw[e1]at hs;dsimp only at hs;by_cases hg:g=0
    ·subst hg;simp only[yah,yaj,yaa]at hs;cases hs
     have R:=c35 D1 e1;exact ⟨D1.of R.val R.stp,D2.trans R.stp⟩
    ·rw[show (g==0)=false by simpa using hg]at hs;cases hs) (a:=(ids,0,c,v,())) ⟨I,.refl _⟩ e
 obtain ⟨l,i,c1,v1,_⟩:=b;dsimp only at D;simp only[a5m]at hb;cases hlt:decide (i<(l.length:Int)) with
 |false=>
  rw[hlt]at hb;cases hb
  exact ⟨fun d w q=>(by cases q;exact D),fun g w q=>(by cases q)⟩
 |true=>
  rw[hlt]at hb;simp only[yab]at hb;cases hx:m6 l i with
  |none=>rw[hx]at hb;cases hb
  |some x=>
   rw[hx]at hb;dsimp only at hb;rcases e1:qgo c1 x with _|⟨c3,g⟩
   ·rw[e1]at hb;cases hb
   rw[e1]at hb;dsimp only at hb;by_cases hg:g=0
   ·rw[show (g==0)=true by simpa using hg]at hb;cases hb
   ·rw[show (g==0)=false by simpa using hg]at hb;cases hb
    exact ⟨fun d w q=>(by cases q),fun g w q=>(by cases q;exact hg)⟩
theorem c68 {c:Circ} {n:Int}:Stp c (a1p c n):=⟨rfl,rfl,rfl,[],by simp[a1p]⟩
theorem g5k {c d:Circ} (I:Inv c) (e:qhn c=some (d,0)):Res c d:=by
 have hn:=a77 I.val.nums;unfold qhn at e;cases ht:decide (109572≤c.Today) with
 |true=>rw[ht]at e;cases e
 |false=>
  have ht2:¬109572≤c.Today:=by simpa using ht
  rw[ht]at e;simp only[yaa,d3z,f8u I.short.holds]at e;rw[a0w (show -9223372036854775808≤c.Today+1 by omega) (by omega)]at e;have v1:=I.val.setToday (t:=c.Today+1) ⟨by omega,by omega⟩;have I1:=I.of v1 c68;generalize (c.Holds.filter (e10 (c.Today+1))).map (fun o=>o.ID)=ids at e;change (match b9 a5m (ids,0,a1p c (c.Today+1),o7,()) with
   |some (.inl (c4,v,_))=>(match b9 a29 (0,c4,v,()) with
    |some ((v15,v16,_))=>some (v16,v15)
    |none=>none)
   |some (.inr (v17,v18,_))=>some (v18,v17)
   |none=>none)=some (d,0) at e
  have s1:Stp c (a1p c (c.Today+1)):=c68;generalize a1p c (c.Today+1)=c1 at e v1 I1 s1;rcases e1:b9 a5m (ids,0,c1,o7,()) with _|(⟨c4,v4,_⟩|⟨g,v5,_⟩)
  ·rw[e1]at e;cases e
  ·rw[e1]at e;dsimp only at e;obtain ⟨I4,s4⟩:=(f67 I1 e1).1 _ _ rfl;rcases e2:b9 a29 (0,c4,v4,()) with _|⟨f5,c5,_⟩
   ·rw[e2]at e;cases e
   rw[e2]at e;cases e
   obtain ⟨I5,s5,h5⟩:=g5j I4 e2 rfl;exact ⟨I5.val,s1.trans (s4.trans s5),fun _=>h5⟩
  ·rw[e1]at e;cases e
   exact absurd rfl ((f67 I1 e1).2 _ _ rfl)
theorem g5o {x:Librarylaw33_Deed} {c:Circ} (I:Inv c):∃d e,qeb x c=some (d,e)∧(e=0→Res c d∨d=c):=by
 have m:=I.mid;have f:=I.fit;have hlp:=(a74.1 I.val.loans).1;have hhp:=(b0b.1 I.val.holds).1;have hil:=(a73 I.val.items).1;have a2:∀{a b:Option (Circ×Int)},a80 a b→(∀d,b=some (d,0)→Res c d)→∃d e,a=some (d,e)∧(e=0→Res c d∨d=c):=by
  rintro a b ⟨d,e,h1,h2,-⟩ h;exact ⟨d,e,h1,fun q=>.inl (h d (by rw[h2,q]))⟩
 have a3:∀{a b:Option (Circ×Int×Int)},a6g a b→(∀d n,b=some (d,n,0)→Res c d)→∃d n e,a=some (d,n,e)∧(e=0→Res c d∨d=c):=by
  rintro a b ⟨d,n,e,h1,h2,-⟩ h;exact ⟨d,n,e,h1,fun q=>.inl (h d n (by rw[h2,q]))⟩
 unfold qeb;dsimp only;cases x.Kind==0 with
 |true=>
  obtain ⟨d,e,h1,h2⟩:=a2 (c2a m (item:=x.A) (branch:=x.B)) (fun d q=>c9t I.val m q);rw[h1];exact ⟨d,e,rfl,h2⟩
 |false=>
 cases x.Kind==1 with
 |true=>
  obtain ⟨d,n,e,h1,h2⟩:=a3 (d57 I.w f (item:=x.A) (patron:=x.B) (branch:=x.C)) (fun d n q=>f2l I q);rw[h1];exact ⟨d,e,rfl,h2⟩
 |false=>
 cases x.Kind==2 with
 |true=>
  obtain ⟨d,n,e,h1,h2⟩:=a3 (d4q m f (by omega) (item:=x.A) (branch:=x.B)) (fun d n q=>e97 I q);rw[h1];exact ⟨d,e,rfl,h2⟩
 |false=>
 cases x.Kind==3 with
 |true=>
  obtain ⟨d,n,e,h1,h2⟩:=a3 (c9v m.short f (item:=x.A)) (fun d n q=>e51 I.val m q);rw[h1];exact ⟨d,e,rfl,h2⟩
 |false=>
 cases x.Kind==4 with
 |true=>
  obtain ⟨d,n,e,h1,h2⟩:=a3 (d5z m f (by omega) (fun r=>by have:=d0d I.val r;have:=I.pats;omega) (vid:=x.A) (record:=x.B) (item:=x.C) (pickup:=x.D)) (fun d n q=>f2e I q);rw[h1];exact ⟨d,e,rfl,h2⟩
 |false=>
 cases x.Kind==5 with
 |true=>
  obtain ⟨d,e,h1,h2⟩:=a2 (c3e m f (id:=x.A)) (fun d q=>d49 I q);rw[h1];exact ⟨d,e,rfl,h2⟩
 |false=>
 cases x.Kind==6 with
 |true=>
  obtain ⟨d,n,e,h1,h2⟩:=a3 (c6o m.short f (id:=x.A)) (fun d n q=>d7v I.val m f q);rw[h1];exact ⟨d,e,rfl,h2⟩
 |false=>
 cases x.Kind==7 with
 |true=>
  obtain ⟨d,e,h1,h2⟩:=a2 (c7w m (item:=x.A)) (fun d q=>d90 I.val m q);rw[h1];exact ⟨d,e,rfl,h2⟩
 |false=>
 cases x.Kind==8 with
 |true=>
  obtain ⟨d,e,h1,h2⟩:=a2 (d6n m (item:=x.A)) (fun d q=>f4l I.val m q);rw[h1];exact ⟨d,e,rfl,h2⟩
 |false=>
 cases x.Kind==9 with
 |true=>
  obtain ⟨d,e,h1,h2⟩:=a2 (b7q m (by omega) (item:=x.A) (fun n hn=>by obtain ⟨x,p,hx,-⟩:=a43 f hn;rw[hx];rfl)) (fun d q=>c7e I.val m q);rw[h1];exact ⟨d,e,rfl,h2⟩
 |false=>
 cases x.Kind==10 with
 |true=>
  obtain ⟨d,e,h1,h2⟩:=a2 (d58 m (item:=x.A) (partner:=x.B)) (fun d q=>e3t I.val m q);rw[h1];exact ⟨d,e,rfl,h2⟩
 |false=>
 cases x.Kind==11 with
 |true=>
  obtain ⟨d,e,h1,h2⟩:=a2 (a9x m (item:=x.A) (b:=true)) (fun d q=>b28 I.val m q);rw[h1];exact ⟨d,e,rfl,h2⟩
 |false=>
 cases x.Kind==12 with
 |true=>
  obtain ⟨d,e,h1,h2⟩:=a2 (a9x m (item:=x.A) (b:=false)) (fun d q=>b28 I.val m q);rw[h1];exact ⟨d,e,rfl,h2⟩
 |false=>
 cases x.Kind==13 with
 |true=>
  obtain ⟨d,n,e,h1,h2⟩:=a3 (e4l m.short f (p:=x.A) (amount:=x.B)) (fun d n q=>g7n I.val m q);rw[h1];exact ⟨d,e,rfl,h2⟩
 |false=>
 cases x.Kind==14 with
 |true=>
  obtain ⟨d,e,h1,h2⟩:=a2 (e1x m f (by omega) (by omega) (fun x hx=>c8w f hx)) (fun d q=>g5k I q);rw[h1];exact ⟨d,e,rfl,h2⟩
 |false=>exact ⟨c,21,rfl,fun q=>absurd q (by decide)⟩
theorem f7a {x:Librarylaw33_Deed} {c:Circ} (I:Inv c):∃d e,qeb x c=some (d,e)∧(e=0→Inv d∧Stp c d∧(b1g c→b1g d)):=by
 obtain ⟨d,e,h1,h2⟩:=g5o (x:=x) I;refine ⟨d,e,h1,fun q=>?_⟩;rcases h2 q with R|rfl
 ·exact ⟨I.of R.val R.stp,R.stp,R.idle⟩
 ·exact ⟨I,.refl _,fun h=>h⟩
theorem e8z {c:Circ} (hm:SmallP c) (hr:a5n c=true):Inv c:=⟨h71 hr,hm.short,hm.patrons⟩
end
section
def c1w (x:Librarylaw33_Deed) (c:Circ):Circ:=match qeb x c with|some (d,e)=>bif e==0 then d else c|none=>c
theorem d3r {x:Librarylaw33_Deed} {c:Circ} (I:Inv c):Inv (c1w x c)∧Stp c (c1w x c)∧(b1g c→b1g (c1w x c)):=by
 obtain ⟨d,e,h1,h2⟩:=f7a (x:=x) I;unfold c1w;rw[h1];dsimp only;by_cases he:e=0
 ·rw[show (e==0)=true by simpa using he];exact h2 he
 ·rw[show (e==0)=false by simpa using he];exact ⟨I,.refl _,fun h=>h⟩
theorem e16 {R:Circ→Prop} {β:Type} (g:Circ→β) (hR:∀x c,Inv c→R c→R (c1w x c)):∀(l:List Librarylaw33_Deed) (i:Nat) (c:Circ),Inv c→R c→∃d,a2t (fun (_:Nat) x s=>.inl (c1w x s)) g i l c=g d∧Inv d∧R d:=by
 intro l
 induction l with
 |nil=>intro i c I r;exact ⟨c,rfl,I,r⟩
 |cons x l ih=>intro i c I r;exact ih (i+1) (c1w x c) (d3r I).1 (hR x c I r)
theorem e2t {l:List Librarylaw33_Deed} {i:Int} {c d:Circ} {m:List Move} (h:d.Moves=c.Moves++m) (hl:c.Moves.length<1000000000):b9 b5x (l,i,0,c,d,())=some (.inl (l,i,c,d,())):=by
 have hw:=o8 (step:=b5x) (fun k=>(l,i,(k:Int),c,d,())) c.Moves (fun _ _=>true) (.inr (false,())) (.inl (l,i,c,d,())) hl
  (by simp only[b5x,dge,yaa])
  (fun k x hx=>by
   have hk:=(zL hx)
   have hd:d.Moves[k]?=some x:=by rw[h,yaE hk];exact hx
   simp only[b5x,dlt hk,c9,hx,hd,yab,c07,yaj,yaa,g9 (show k<9223372036854775807 by omega)])
 rw[show b9 b5x (l,i,0,c,d,())=_ from hw,u4,show (c.Moves.all fun _=>true)=true by simp];rfl
theorem e2u {c:Circ} (I:Inv c):b9 b5y (0,c,())=some (.inl ()):=by
 have f:=I.fit;have hil:=(a73 I.val.items).1;have hw:=o8 (step:=b5y) (fun i=>((i:Int),c,())) c.Items (fun _ _=>true) (.inr (false,())) (.inl ()) (by omega)
  (by simp only[b5y,dge,yaa])
  (fun i x hx=>by
   have hi:=(zL hx)
   have hm:=yag hx;have hr:=a5x f.items hm;unfold a00 at hr;simp only[yao,yai,yau,ya2]at hr;have hu:=a1h.1 hr.2;have hg:=f.itemG x hm;have hp:((a0g c.Loans x.ID).2&&!((a0g c.Loans x.ID).1.Patron==x.Custody.Who))=false:=by
    cases hb:(a0g c.Loans x.ID).2 with
    |false=>rfl
    |true=>
     unfold a0g at hb ⊢;cases hq:c.Loans.find? (fun n=>n.Item==x.ID) with
     |none=>rw[hq]at hb;cases hb
     |some n=>
      obtain ⟨y,hy,hyi,hw⟩:=I.val.loanI n (yaG hq);have hni:n.Item=x.ID:=by have:=ya4 hq;simpa using this
      have:=y5 I.val.items hy hm (hyi.trans hni);subst this;have hid:=a05 I.val.items hm;have:=(hw (by omega)).2;simp[this]
   simp -zeta only[b5y,dlt hi,c9,hx,yab,f8j I.short.moves,c5y I.short.loans,g9 (show i<9223372036854775807 by omega),z6,o9];dsimp only;rw[hu,hr.1,hg,a0i,a7i];rw[hg,a0i]at hp;generalize ((a0g c.Loans x.ID).1.Patron==x.Custody.Who)=b at hp ⊢;cases h4:x.Custody.State==4<;>cases h9:x.Custody.State==9<;>cases h10:x.Custody.State==10<;>cases b<;>simp[h4,h9,h10]at hp ⊢)
 rw[show b9 b5y (0,c,())=_ from hw,u4,show (c.Items.all fun _=>true)=true by simp];rfl
theorem f2h {c:Circ} (I:Inv c) {l:List Librarylaw33_Deed} (hl:l.length<1000):∃d,b9 c9l (l,0,c,())=some (.inl (d,()))∧Inv d:=by
 have hw:=s8 (step:=c9l) (fun _ s=>Inv s) (fun i s=>(l,(i:Int),s,())) l (fun _ x s=>.inl (c1w x s)) (fun s=>.inl (s,())) (by rw[m5];omega)
  (fun s _=>by simp only[c9l,dge,yaa])
  (fun i x s hx hs=>by
   have hi:=(zL hx)
   refine ⟨?_,fun s' hs'=>by cases hs';exact (d3r hs).1⟩;obtain ⟨d,e,h1,h2⟩:=f7a (x:=x) hs;simp -zeta only[c9l,dlt hi,c9,hx,yab,h1,g9 (show i<9223372036854775807 by omega)];unfold c1w;rw[h1];dsimp only;by_cases he:e=0
   ·subst he;obtain ⟨Id,st,-⟩:=h2 rfl;obtain ⟨m,hm⟩:=st.moves;have hlen:decide ((d.Moves.length:Int)<(s.Moves.length:Int))=false:=by
     rw[yaf,hm,yaU];omega
    have hR:=c7b Id.val;rw[hlen];simp only[yah,yaj,yaa,yab,h6c Id.short,h66 Id.short,hR,e2t hm hs.short.moves,g9 (show i<9223372036854775807 by omega)]
   ·rw[show (e==0)=false by simpa using he];rfl) c I
 obtain ⟨d,h1,h2,-⟩:=e16 (R:=fun _=>True) (β:=(Circ×Unit)⊕(Bool×Unit)) (fun s=>.inl (s,())) (fun _ _ _ _=>trivial) l 0 c I trivial;exact ⟨d,by rw[show b9 c9l (l,0,c,())=_ from hw,h1],h2⟩
theorem b7j (c:Circ) (l:List Librarylaw33_Deed):qm c l=some true:=by
 unfold qm;simp only[h6n,e91];cases hb:b6k c&&a5n c with
 |false=>rfl
 |true=>
  simp only[yae]at hb;cases hl:decide (12<(l.length:Int)) with
  |true=>rfl
  |false=>
   have hl2:l.length<1000:=by
    simp only[yaf]at hl;omega
   obtain ⟨d,h1,h2⟩:=f2h (e8z (g0t hb.1) hb.2) hl2;simp only[yaj,yaa,h1,e2u h2]
end
end Go.Proofs.YtcebdbdfgkahkaaGreatDoor
