/- InventoryKeeps: a part of the proof of the given statement, which is proved without conditions. -/
import Derived.Test.YteaknldbhmocpaaGreatDoorR6
set_option linter.all false
namespace Go.Proofs.YteaknldbhmocpaaGreatDoor
open Ev
section
open Go (IntKind)
theorem a0s {c d:Circ} (h:MidP c) {i:Nat} {x:Item} (hx:c.Items[i]?=some x) {kind branch who:Int} (e:qfb c x.ID kind branch who=some (d,0)) :
 ∃u,m5 x.Custody ⟨c.Today,x.ID,kind,branch,who⟩=(u,0)∧c.Moves.length<2000∧d=p7 c i x ⟨c.Today,x.ID,kind,branch,who⟩ u∧MidP d:=by
 have hmv:=h.moves;rcases a4z h hx kind branch who with ⟨u,ha,-,m2,hm2⟩|⟨e',he,-,m2⟩
 ·rw[m2]at e;cases e
  have rm:=f28 (kind:=kind) (branch:=branch) (who:=who) h.short (by omega) (a7i h hx) hx rfl;rw[m2,ha]at rm;refine ⟨u,ha,?_,rfl,hm2⟩;by_cases hl:c.Moves.length<2000
  ·exact hl
  ·have e1:b0g c 0=13:=by
    unfold b0g;rw[show decide (2000≤(c.Moves.length:Int))=true by rw[yae];omega];rfl
   rw[e1]at rm;have q:(0:Int)=13:=congrArg Prod.snd (ybL rm);exact absurd q (by decide)
 ·rw[m2]at e;cases e
  exact absurd rfl he
theorem b82.b {a:Option (Unit×Circ_desk)} {b:Option (Circ×Int)} {Q:Circ→Prop} (h:b82 a b Q) {d:Circ} (e:b=some (d,0)):Q d:=by
 rcases h with ⟨d',-,h2,h3⟩|⟨d',e',he,-,h2,-⟩
 ·rw[e]at h2;cases h2
  exact h3
 ·rw[e]at h2;cases h2
  exact absurd rfl he
def Rdy (c d:Circ) (i:Nat) (x:Item) (o:Hold):Prop:=∃u l un,m5 x.Custody ⟨c.Today,x.ID,5,x.Custody.Branch,o.Patron⟩=(u,0)∧c.Moves.length<2000∧a2r c.Holds o.ID x.ID 3 un=(l,0)∧d=u9 (p7 c i x ⟨c.Today,x.ID,5,x.Custody.Branch,o.Patron⟩ u) l
theorem b3d {c d:Circ} (h:MidP c) {i:Nat} {x:Item} (hx:c.Items[i]?=some x) {o:Hold} (e:qfa c x.ID o=some (d,0)):Rdy c d i x o:=by
 obtain ⟨r,b,hr,_⟩:=c6b (p:=o.Patron) (x:=x) h.short;have hb:=h.branch x (yaf hx);unfold qfa at e;simp -zeta only[a7i h hx,d8,hx,hr]at e;have key:∀days:Int,(match qfb c x.ID 5 x.Custody.Branch o.Patron with
  |some (r6,r7)=>bif !(r7==0) then some (o7,r7) else
   match qfx r6 x.Custody.Branch with
   |some r9=>(match qff r9 r6.Today days with
    |some (r11,r12)=>bif !(r12==0) then some (o7,r12) else
     match qfd r6.Holds o.ID x.ID 3 r11 with
     |some (r14,r15)=>bif !(r15==0) then some (o7,r15) else some ({r6 with Holds:=r14},0)
     |none=>none
    |none=>none)
   |none=>none
  |none=>none)=some (d,0)→Rdy c d i x o:=by
  intro days e;cases hm:qfb c x.ID 5 x.Custody.Branch o.Patron with
  |none=>rw[hm]at e;cases e
  |some p=>
   obtain ⟨c2,e2⟩:=p;rw[hm]at e;dsimp only at e;by_cases he2:e2=0
   ·subst he2;obtain ⟨u,ha,hl,rfl,hm2⟩:=a0s h hx hm;simp only[yal,yam,yaa,e0d hb]at e;obtain ⟨dd,ee,hq⟩:=a9d (hm2.cal x.Custody.Branch) (p7 c i x ⟨c.Today,x.ID,5,x.Custody.Branch,o.Patron⟩ u).Today days;rw[hq]at e;dsimp only at e;by_cases hee:ee=0
    ·subst hee;simp only[yal,yam,yaa,c91 hm2.short.holds hm2.sorted]at e;generalize hc:a2r (p7 c i x ⟨c.Today,x.ID,5,x.Custody.Branch,o.Patron⟩ u).Holds o.ID x.ID 3 dd=q at e;obtain ⟨l,e3⟩:=q;dsimp only at e;by_cases he3:e3=0
     ·subst he3;simp only[yal,yam,yaa]at e;cases e
      exact ⟨u,l,dd,ha,hl,hc,rfl⟩
     ·rw[show (e3==0)=false by simpa using he3]at e;simp only[yaq,yac]at e;cases e
      exact absurd rfl he3
    ·rw[show (ee==0)=false by simpa using hee]at e;simp only[yaq,yac]at e;cases e
     exact absurd rfl hee
   ·rw[show (e2==0)=false by simpa using he2]at e;simp only[yaq,yac]at e;cases e
    exact absurd rfl he2
 cases b with
 |true=>exact key _ e
 |false=>exact key _ e
inductive Aw (c d:Circ) (i:Nat) (x:Item):Prop
 |stay (h0:qch c x=some 0) (h3:x.Custody.State=3) (hd:d=c)
 |move (h0:qch c x=some 0) (kind branch:Int) (hk:kind=6∨kind=2) (u:Custody) (ha:m5 x.Custody ⟨c.Today,x.ID,kind,branch,0⟩=(u,0)) (hl:c.Moves.length<2000) (hd:d=p7 c i x ⟨c.Today,x.ID,kind,branch,0⟩ u)
 |ready (o:Hold) (ho:o∈c.Holds) (hw:a0b x.Record c.Today o=true) (hp:o.Pickup=x.Custody.Branch) (hr:Rdy c d i x o)
 |send (o:Hold) (ho:o∈c.Holds) (hw:a0b x.Record c.Today o=true) (u:Custody) (l:List Hold) (ha:m5 x.Custody ⟨c.Today,x.ID,6,o.Pickup,o.Patron⟩=(u,0)) (hl:c.Moves.length<2000) (hc:a2r c.Holds o.ID x.ID 2 0=(l,0))
  (hd:d=u9 (p7 c i x ⟨c.Today,x.ID,6,o.Pickup,o.Patron⟩ u) l)
theorem b0j {c d:Circ} (h:MidP c) {i:Nat} {x:Item} (hx:c.Items[i]?=some x) (e:qfk c x.ID=some (d,0)):Aw c d i x:=by
 obtain ⟨v,p1,p2,g1,g2⟩:=b0v h hx;unfold qfk at e;simp -zeta only[a7i h hx,d8,hx,p2,c92 h.short.holds]at e;dsimp only at e;by_cases hv:v=0
 ·subst hv;simp only[yal,yac]at e;have mv:∀kind branch:Int,(kind=6∨kind=2)→(match qfb c x.ID kind branch 0 with|some (r5,r6)=>some (r5,r6)|none=>none)=some (d,0)→Aw c d i x:=by
   intro kind branch hk e;cases hm:qfb c x.ID kind branch 0 with
   |none=>rw[hm]at e;cases e
   |some p=>
    obtain ⟨c2,e2⟩:=p;rw[hm]at e;cases e
    obtain ⟨u,ha,hl,hd,-⟩:=a0s h hx hm;exact .move p1 kind branch hk u ha hl hd
  cases hb:x.Branch==x.Custody.Branch with
  |false=>
   rw[hb]at e;exact mv 6 _ (.inl rfl) e
  |true=>
   rw[hb]at e;simp only[yam,yaa]at e;cases h3:x.Custody.State==3 with
   |true=>
    rw[h3]at e;cases e
    exact .stay p1 (by simpa using h3) rfl
   |false=>
    rw[h3]at e;exact mv 2 _ (.inr rfl) e
 ·obtain ⟨o,ho,hoi,hg,hw⟩:=g2 hv;rw[show (v==0)=false by simpa using hv,hg]at e;simp only[yaa]at e;cases hpk:o.Pickup==x.Custody.Branch with
  |true=>
   rw[hpk]at e;simp only[yac]at e;cases hm:qfa c x.ID o with
   |none=>rw[hm]at e;cases e
   |some p=>
    obtain ⟨c2,e2⟩:=p;rw[hm]at e;cases e
    exact .ready o ho hw (by simpa using hpk) (b3d h hx hm)
  |false=>
   rw[hpk]at e;simp only[yaa]at e;cases hm:qfb c x.ID 6 o.Pickup o.Patron with
   |none=>rw[hm]at e;cases e
   |some p=>
    obtain ⟨c2,e2⟩:=p;rw[hm]at e;dsimp only at e;by_cases he2:e2=0
    ·subst he2;obtain ⟨u,ha,hl,rfl,hm2⟩:=a0s h hx hm;simp only[yal,yam,yaa,c91 hm2.short.holds hm2.sorted]at e;generalize hc:a2r (p7 c i x ⟨c.Today,x.ID,6,o.Pickup,o.Patron⟩ u).Holds v x.ID 2 0=q at e;obtain ⟨l,e3⟩:=q;dsimp only at e;by_cases he3:e3=0
     ·subst he3;simp only[yal,yam,yaa]at e;cases e
      exact .send o ho hw u l ha hl (by rw[hoi];exact hc) rfl
     ·rw[show (e3==0)=false by simpa using he3]at e;simp only[yaq,yac]at e;cases e
      exact absurd rfl he3
    ·rw[show (e2==0)=false by simpa using he2]at e;simp only[yaq,yac]at e;cases e
     exact absurd rfl he2
end
section
open Go (IntKind)
theorem a79 {l m:List Hold} (hs:∀i x,l[i]?=some x→p8 l i (fun y=>decide (x.ID≤y.ID))=false) {id it st un:Int} (h:a2r l id it st un=(m,0)) :
 ∃o∈l,o.ID=id∧(1≤it∧it≤9999)∧((st=3∧1≤un∧un≤109572)∨(st=2∧un=0))∧(o.State=1∨(o.State=2∧o.Got=it∧st=3))∧(∀p∈l,p.Got=it→p.ID=id)∧m=b3q l o.ID (b44 o it st un):=by
 unfold a2r at h;rcases o6 (fun x:Hold=>x.ID==id) l with ⟨h1,h2⟩|⟨i,x,h1,h2,h3,h4⟩
 ·rw[h2]at h;cases h
 ·rw[h4]at h;simp only at h;have hid:x.ID=id:=by simpa using h3
  cases hq:(!(rng 1 9999 it)||!(okS st un)) with
  |true=>rw[hq]at h;cases h
  |false=>
   rw[hq]at h;simp only[yaa]at h;cases hq2:(!(x.State==1)&&((!(x.State==2)||!(x.Got==it))||!(st==3))) with
   |true=>rw[hq2]at h;cases h
   |false=>
    rw[hq2]at h;simp only[yaa]at h;cases hq3:l.any (fun o=>o.Got==it&&!(o.ID==id)) with
    |true=>rw[hq3]at h;cases h
    |false=>
     rw[hq3]at h;simp only[yaa,h1,yaI,ya4,and_true]at h;subst h;simp only[yai,yaw,y2]at hq;refine ⟨x,yaf h2,hid,hq.1,?_,?_,fun p hp e=>?_,?_⟩
     ·have:=hq.2;unfold okS at this;simp only[ybk,yad,ya5,y2]at this;rcases this with q|q
      ·exact .inl ⟨q.1,q.2.1,q.2.2⟩
      ·exact .inr q
     ·simp only[ybj,yai,yaw,ya5]at hq2;rcases hq2 with q|q
      ·exact .inl q
      ·exact .inr ⟨q.1.1,q.1.2,q.2⟩
     ·rw[yb6]at hq3;have:=hq3 p hp;simp only[yad,ya5,yan,yaX,ne_eq,not_and,Decidable.not_not]at this;exact this e
     ·exact (a62 hs h2 (y:=b44 x it st un) rfl).symm
theorem d7h {o:Hold} (h:m6 o=0) {it st un:Int} (h1:1≤it∧it≤9999) (h2:(st=3∧1≤un∧un≤109572)∨(st=2∧un=0)):m6 (b44 o it st un)=0:=by
 rw[e3d]at h ⊢;obtain ⟨⟨a1,a2,a3,a4,a5,a6,a7,a8,a9,a10⟩,b,c,d⟩:=h;have e1:1≤st∧st≤3:=by omega
 have e2:¬st=1:=by omega
 have e3:0≤un∧un≤109572:=by omega
 have e4:0<un↔st=3:=by omega
 exact ⟨⟨a1,a2,a3,a4,a5,a6,.inr h1,e3,a9,a10⟩,e1,⟨fun _=>e2,fun _=>(by have:=h1.1;show 0<it;omega)⟩,e4⟩
theorem Val.catch {it:Int} {c:Circ} (v:Val it c) {id st un:Int} {l:List Hold} (h:a2r c.Holds id it st un=(l,0)) {x:Item} (hx:x∈c.Items) (hi:x.ID=it) (hr:∀o∈c.Holds,o.ID=id→x.Record=o.Record):Val it (u9 c l):=by
 obtain ⟨o,ho,hid,h1,h2,h3,h4,rfl⟩:=a79 (a2m v.holds) h;refine v.swap ho rfl rfl rfl (d7h (a01 v.holds ho) h1 h2) (fun z hz _ e=>(h4 z hz e).trans hid.symm) (.inl (by omega)) (fun _=>⟨rfl,x,hx,hi,hr o ho hid⟩)
def b80 (c:Circ) (it:Int):Prop:=∀n∈c.Loans,n.Item≠it
def b8z (c:Circ) (it:Int):Prop:=∀h∈c.Holds,h.State≠1→h.Got≠it
theorem e0w {c d:Circ} {i:Nat} {x:Item} {o:Hold} (v:Val x.ID c) (hx:c.Items[i]?=some x) (hl:b80 c x.ID) (ho:o∈c.Holds) (hrec:x.Record=o.Record) (hp:o.Pickup=x.Custody.Branch)
 (hf:∀h∈c.Holds,h.State≠1→h.Got=x.ID→h.ID=o.ID) (r:Rdy c d i x o):Val 0 d:=by
 obtain ⟨u,l,un,ha,hlen,hc,rfl⟩:=r;have v2:=v.move hx rfl ha hlen;have hm:t8 u x∈(p7 c i x ⟨c.Today,x.ID,5,x.Custody.Branch,o.Patron⟩ u).Items:=(a2x v.items hx).2 (.inr rfl);have v3:=v2.catch hc hm rfl (fun p hp e=>by rw[a6j v.holds hp ho e];exact hrec);have hu:u=⟨5,x.Custody.Branch,o.Patron,0⟩:=(b9d ha).res;obtain ⟨p,hpm,hid,h1,h2,h3,h4,rfl⟩:=a79 (a2m v.holds) hc;have:=a6j v.holds hpm ho hid;subst this;refine v3.close hm rfl (fun n hn e=>absurd e (hl n hn)) (fun h=>?_) (fun h hh hs1 hg=>?_) (fun _=>⟨b44 p x.ID 3 un,(a2y hpm).2 (.inr rfl),rfl,rfl⟩)
 ·rw[show (t8 u x).Custody=u from rfl,hu]at h;cases h
 ·rw[show (t8 u x).Custody=u from rfl,hu];rcases (a2y hpm).1 hh with ⟨hh,hne⟩|rfl
  ·exact absurd (hf h hh hs1 hg) hne
  ·exact ⟨fun _=>⟨rfl,hp.symm,rfl⟩,fun e=>absurd (show (3:Int)=2 from e) (by decide)⟩
theorem b03 {r t:Int} {o:Hold} (h:a0b r t o=true):o.Record=r∧o.State=1∧o.Asleep≤t:=by
 unfold a0b at h;simp only[yad,ya5,yae]at h;exact ⟨h.1.1,h.1.2,h.2⟩
theorem d40 {c d:Circ} {i:Nat} {x:Item} (v:Val x.ID c) (hx:c.Items[i]?=some x) (hl:b80 c x.ID) (hf:b8z c x.ID) (r:Aw c d i x):Val 0 d:=by
 have hm0:=yaf hx;cases r with
 |stay _ h3 hd=>
  subst hd;refine v.close hm0 rfl (fun n hn e=>absurd e (hl n hn)) (fun h=>?_) (fun h hh hs1 hg=>absurd hg (hf h hh hs1)) (fun h=>by omega);unfold a1j at h;rw[h3]at h;cases h
 |move _ kind branch hk u ha hlen hd=>
  subst hd;have v2:=v.move hx rfl ha hlen;have hm:t8 u x∈(p7 c i x ⟨c.Today,x.ID,kind,branch,0⟩ u).Items:=(a2x v.items hx).2 (.inr rfl);have hu:=(b9d ha).res;have hs:u.State=6∨u.State=3:=by
   rcases hk with rfl|rfl
   ·left;rw[hu];rfl
   ·right;rw[hu];rfl
  refine v2.close hm rfl (fun n hn e=>absurd e (hl n hn)) (fun h=>?_) (fun h hh hs1 hg=>absurd hg (hf h hh hs1)) (fun h=>?_)
  ·rw[show (t8 u x).Custody=u from rfl,a06]at h;rcases hs with e|e<;>rw[e]at h<;>cases h
  ·rw[show (t8 u x).Custody=u from rfl]at h;omega
 |ready o ho hw hp hr=>exact e0w v hx hl ho (b03 hw).1.symm hp (fun h hh hs1 hg=>absurd hg (hf h hh hs1)) hr
 |send o ho hw u l ha hlen hc hd=>
  subst hd;have v2:=v.move hx rfl ha hlen;have hm:t8 u x∈(p7 c i x ⟨c.Today,x.ID,6,o.Pickup,o.Patron⟩ u).Items:=(a2x v.items hx).2 (.inr rfl);have v3:=v2.catch hc hm rfl (fun p hp e=>by rw[a6j v.holds hp ho e];exact (b03 hw).1.symm);have hu:u=⟨6,x.Custody.Branch,o.Patron,o.Pickup⟩:=(b9d ha).res;obtain ⟨p,hpm,hid,h1,h2,h3,h4,rfl⟩:=a79 (a2m v.holds) hc;have:=a6j v.holds hpm ho hid;subst this;refine v3.close hm rfl (fun n hn e=>absurd e (hl n hn)) (fun h=>?_) (fun h hh hs1 hg=>?_) (fun h=>?_)
  ·rw[show (t8 u x).Custody=u from rfl,hu]at h;cases h
  ·rw[show (t8 u x).Custody=u from rfl,hu];rcases (a2y hpm).1 hh with ⟨hh,hne⟩|rfl
   ·exact absurd hg (hf h hh hs1)
   ·exact ⟨fun e=>absurd (show (2:Int)=3 from e) (by decide),fun _=>⟨rfl,rfl,rfl⟩⟩
  ·rw[show (t8 u x).Custody=u from rfl,hu]at h;cases h
def a9p (c:Circ) (x:Item):Prop:=∀o∈c.Holds,a0b x.Record c.Today o=true→(o.Item==0||o.Item==x.ID)=false
theorem b2r (b:Int) (v:Bool) (x:Item) (h:Hold) (f:Int):((h.Item==0||h.Item==x.ID)=false∧b4h b v x h f=.inl f)∨((h.Item==0||h.Item==x.ID)=true∧(b4h b v x h f=.inr h.ID∨b4h b v x h f=.inl (bif f==0 then h.ID else f))):=by
 unfold b4h;cases h.Item==0<;>cases h.Item==x.ID<;>cases (!v||h.Pickup==b)<;>simp
theorem e8v {b:Int} {v:Bool} {x:Item}:∀{q:List Hold} {f:Int},(∀h∈q,h.ID≠0)→f≠0→b2t b v x q f≠0:=by
 intro q
 induction q with
 |nil=>intro f _ hf;exact hf
 |cons h q ih=>
  intro f hq hf;have hq2:=fun y hy=>hq y (yaR _ hy)
  unfold b2t;rcases b2r b v x h f with ⟨-,e⟩|⟨-,e|e⟩
  ·rw[e];exact ih hq2 hf
  ·rw[e];exact hq h (yaE ..)
  ·rw[e];have h0:(f==0)=false:=by simpa using hf
   rw[h0];exact ih hq2 hf
theorem d2j {b:Int} {v:Bool} {x:Item}:∀{q:List Hold},(∀h∈q,h.ID≠0)→(b2t b v x q 0=0↔∀h∈q,(h.Item==0||h.Item==x.ID)=false):=by
 intro q
 induction q with
 |nil=>intro _;exact ⟨fun _ h hh=>(by cases hh),fun _=>rfl⟩
 |cons h q ih=>
  intro hq;have hq2:=fun y hy=>hq y (yaR _ hy)
  have h1:=hq h (yaE ..);unfold b2t;rcases b2r b v x h 0 with ⟨k,e⟩|⟨k,e|e⟩
  ·rw[e];constructor
   ·intro p y hy;rcases yaL.1 hy with rfl|hy
    ·exact k
    ·exact (ih hq2).1 p y hy
   ·intro p;exact (ih hq2).2 (fun y hy=>p y (yaR _ hy))
  ·rw[e];constructor
   ·intro p;exact absurd p h1
   ·intro p;have:=p h (yaE ..);rw[k]at this;cases this
  ·rw[e];constructor
   ·intro p;exact absurd p (e8v hq2 h1)
   ·intro p;have:=p h (yaE ..);rw[k]at this;cases this
theorem d2e {q:List Hold} {o:Hold} (h:o∈q) (hr:rng 0 9 o.Rank=true):o∈s7 q:=by
 rw[y2]at hr;have k:∀n:Int,o.Rank=n→o∈rk n q:=fun n e=>yaS.2 ⟨h,by simpa using e⟩
 have:o.Rank=0∨o.Rank=1∨o.Rank=2∨o.Rank=3∨o.Rank=4∨o.Rank=5∨o.Rank=6∨o.Rank=7∨o.Rank=8∨o.Rank=9:=by omega
 unfold s7;simp only[yat];rcases this with e|e|e|e|e|e|e|e|e|e<;>simp[k _ e]
theorem d9n {c:Circ} (h:MidP c) (x:Item) (branch:Int):∃v,qa6 c.Holds x branch c.Today c.Local=some v∧(v=0↔a9p c x):=by
 refine ⟨_,e8o h x branch,?_⟩;have hm:∀o∈s7 (c.Holds.filter (a0b x.Record c.Today)),o∈c.Holds∧a0b x.Record c.Today o=true:=fun o ho=>yaS.1 (a5f ho)
 rw[d2j (fun o ho=>(h.rank o (hm o ho).1).2)];constructor
 ·intro p o ho hw;exact p o (d2e (yaS.2 ⟨ho,hw⟩) (h.rank o ho).1)
 ·intro p o ho;exact p o (hm o ho).1 (hm o ho).2
theorem c9y {c:Circ} (h:MidP c) {x:Item} (e:qch c x=some 0):a9p c x:=by
 obtain ⟨v,hv,hz⟩:=d9n h x x.Custody.Branch;unfold qch at e;rw[hv]at e;cases e
 exact hz.1 rfl
end
section
open Go (IntKind)
def d0l (d c:Circ):Prop:=d.Today=c.Today∧∀o∈d.Holds,o.State=1→o∈c.Holds
theorem d0l.refl (c:Circ):d0l c c:=⟨rfl,fun _ h _=>h⟩
theorem d0l.trans {a b c:Circ} (h:d0l a b) (k:d0l b c):d0l a c:=⟨h.1.trans k.1,fun o ho hs=>k.2 o (h.2 o ho hs) hs⟩
theorem a9p.less {c d:Circ} {x y:Item} (h:a9p c x) (l:d0l d c) (e1:y.ID=x.ID) (e2:y.Record=x.Record):a9p d y:=by
 intro o ho hw;rw[l.1,e2]at hw;rw[e1];exact h o (l.2 o ho (b03 hw).2.1) hw
structure Stp (c d:Circ):Prop where
 pats:d.Patrons=c.Patrons
 cals:d.Cals=c.Cals
 rules:d.Rules=c.Rules
 moves:∃m,d.Moves=c.Moves++m
theorem Stp.refl (c:Circ):Stp c c:=⟨rfl,rfl,rfl,[],by simp⟩
theorem Stp.trans {a b c:Circ} (h:Stp a b) (k:Stp b c):Stp a c:=by
 obtain ⟨m,e⟩:=h.moves;obtain ⟨n,f⟩:=k.moves;exact ⟨k.pats.trans h.pats,k.cals.trans h.cals,k.rules.trans h.rules,m++n,by rw[f,e,ybl]⟩
theorem a15 {c:Circ} {i:Nat} {x:Item} {m:Move} {u:Custody}:Stp c (p7 c i x m u):=⟨rfl,rfl,rfl,[m],rfl⟩
theorem a8k {c:Circ} {l:List Hold}:Stp c (u9 c l):=⟨rfl,rfl,rfl,[],by simp[u9]⟩
theorem d81 {c:Circ} {l:List Loan}:Stp c (j9 c l):=⟨rfl,rfl,rfl,[],by simp[j9]⟩
theorem f03 {c:Circ} {l:List Charge} {n:Int}:Stp c (a4s c l n):=⟨rfl,rfl,rfl,[],by simp[a4s]⟩
def d31 (it:Int) (c:Circ):Prop:=∀y∈c.Items,y.ID≠it→y.Custody.State=3→a9p c y
def d0k (c:Circ):Prop:=∀y∈c.Items,y.Custody.State=3→a9p c y
theorem a81 {c:Circ} (hs:w6 c.Holds=0) {id it st un:Int} {l:List Hold} (h:a2r c.Holds id it st un=(l,0)):d0l (u9 c l) c:=by
 obtain ⟨o,ho,hid,h1,h2,h3,h4,rfl⟩:=a79 (a2m hs) h;refine ⟨rfl,fun z hz e=>?_⟩;rcases (a2y ho).1 hz with ⟨hz,_⟩|rfl
 ·exact hz
 ·have e:st=1:=e;omega
structure AwF (c d:Circ) (i:Nat) (x:Item):Prop where
 items:∃u,d.Items=c.Items.set i (t8 u x)∧(u.State=3→qch c x=some 0)
 stp:Stp c d
 less:d0l d c
theorem b63 {c d:Circ} {i:Nat} {x:Item} (hs:w6 c.Holds=0) (hx:c.Items[i]?=some x) (r:Aw c d i x):AwF c d i x:=by
 cases r with
 |stay h0 h3 hd=>subst hd;exact ⟨⟨x.Custody,(b8q hx).symm,fun _=>h0⟩,.refl _,.refl _⟩
 |move h0 kind branch hk u ha hlen hd=>subst hd;exact ⟨⟨u,rfl,fun _=>h0⟩,a15,⟨rfl,fun o ho _=>ho⟩⟩
 |ready o ho hw hp hr=>
  obtain ⟨u,l,un,ha,hlen,hc,rfl⟩:=hr;have hl:=a81 (c:=p7 c i x ⟨c.Today,x.ID,5,x.Custody.Branch,o.Patron⟩ u) hs hc;refine ⟨⟨u,rfl,fun e=>?_⟩,a15.trans a8k,hl.trans ⟨rfl,fun o ho _=>ho⟩⟩;rw[show u=⟨5,x.Custody.Branch,o.Patron,0⟩ from (b9d ha).res]at e;exact absurd (show (5:Int)=3 from e) (by decide)
 |send o ho hw u l ha hlen hc hd=>
  subst hd;have hl:=a81 (c:=p7 c i x ⟨c.Today,x.ID,6,o.Pickup,o.Patron⟩ u) hs hc;refine ⟨⟨u,rfl,fun e=>?_⟩,a15.trans a8k,hl.trans ⟨rfl,fun o ho _=>ho⟩⟩;rw[show u=⟨6,x.Custody.Branch,o.Patron,o.Pickup⟩ from (b9d ha).res]at e;exact absurd (show (6:Int)=3 from e) (by decide)
theorem a1s {c:Circ} (h:a0g c=true) {i:Nat} {x:Item} (hx:c.Items[i]?=some x) {u:Custody} {y:Item}:y∈c.Items.set i (t8 u x)↔(y∈c.Items∧y.ID≠x.ID)∨y=t8 u x:=a2x (m:=⟨0,0,0,0,0⟩) h hx
theorem d4z {c d:Circ} {i:Nat} {x:Item} (hi:a0g c=true) (m:MidP c) (hx:c.Items[i]?=some x) (f:AwF c d i x) (h:d31 x.ID c):d0k d:=by
 obtain ⟨u,e,hu⟩:=f.items;intro y hy h3;rw[e,a1s hi hx]at hy;rcases hy with ⟨hy,hne⟩|rfl
 ·exact (h y hy hne h3).less f.less rfl rfl
 ·exact (c9y m (hu h3)).less f.less rfl rfl
theorem ma {c c1 d:Circ} {i:Nat} {x:Item} {kind branch who:Int} (v:Val x.ID c) (m:MidP c) (hx:c.Items[i]?=some x) (hl:b80 c x.ID) (hf:b8z c x.ID)
 (e1:qfb c x.ID kind branch who=some (c1,0)) (e2:qfk c1 x.ID=some (d,0)):Val 0 d∧Stp c d∧d0l d c∧(d31 x.ID c→d0k d):=by
 obtain ⟨u,ha,hlen,rfl,m1⟩:=a0s m hx e1;have v1:=v.move hx rfl ha hlen;have hx1:=a3k hx ⟨c.Today,x.ID,kind,branch,who⟩ u;have r:=b0j m1 (x:=t8 u x) hx1 e2;have f:=b63 v1.holds hx1 r;refine ⟨d40 (x:=t8 u x) v1 hx1 hl hf r,a15.trans f.stp,f.less.trans ⟨rfl,fun o ho _=>ho⟩,fun h=>d4z v1.items m1 hx1 f (fun y hy hne h3=>?_)⟩;rcases (a2x v.items hx).1 hy with ⟨hy,_⟩|rfl
 ·exact h y hy hne h3
 ·exact absurd rfl hne
theorem Val.lfree {c:Circ} (v:Val 0 c) {x:Item} (hx:x∈c.Items) (h:a1j x.Custody=false):b80 c x.ID:=by
 intro n hn e;obtain ⟨y,hy,hi,hw⟩:=v.loanI n hn;have:=u6 v.items hy hx (hi.trans e);subst this;have:=a1o v.items hy;rw[(hw (by omega)).1]at h;cases h
theorem Val.hfree {c:Circ} (v:Val 0 c) {x:Item} (hx:x∈c.Items) (h5:x.Custody.State≠5) (h6:x.Custody.State≠6):b8z c x.ID:=by
 intro o ho hs1 e;obtain ⟨y,hy,hi,-,hw⟩:=v.holdI o ho hs1;have:=u6 v.items hy hx (hi.trans e);subst this;have:=a1o v.items hy;have hw:=hw (by omega);rcases (a6h (a01 v.holds ho)).2.2.2.1 with q|q|q
 ·exact hs1 q
 ·exact h6 (hw.2 q).1
 ·exact h5 (hw.1 q).1
theorem d0k.x {c:Circ} (h:d0k c) (it:Int):d31 it c:=fun y hy _ h3=>h y hy h3
theorem c0x {c v:Circ} (h:MidP c) {record:Int} {i:Nat} {x:Item} (hx:c.Items[i]?=some x):∃w,qch c x=some w∧
 a4q (record,(i:Int),c,v,())=(bif (x.Record==record&&x.Custody.State==3)&&!(w==0) then (match qfk c x.ID with|some (r5,r6)=>(bif !(r6==0) then some (.inr (.inr (r6,o7,()))) else some (.inl (record,((i+1:Nat):Int),r5,v,())))|none=>none) else some (.inl (record,((i+1:Nat):Int),c,v,()))):=by
 obtain ⟨w,p1,p2,-,-⟩:=b0v h hx;refine ⟨w,p1,?_⟩;have hlt:=(zL hx)
 have:=h.short.items;simp -zeta only[a4q,dlt hlt,yac,d8,hx,p2,a0i,f7 (show i<9223372036854775807 by omega)];dsimp only;cases x.Record==record<;>cases x.Custody.State==3<;>cases w==0<;>rfl
theorem c67 {c d:Circ} {i:Nat} {x:Item} (hx:c.Items[i]?=some x) (r:Aw c d i x):∃u,d.Items=c.Items.set i (t8 u x)∧u.Branch=x.Custody.Branch:=by
 cases r with
 |stay h0 h3 hd=>subst hd;exact ⟨x.Custody,(b8q hx).symm,rfl⟩
 |move h0 kind branch hk u ha hlen hd=>
  subst hd;refine ⟨u,rfl,?_⟩;have hu:=(b9d ha).res;rcases hk with rfl|rfl<;>rw[hu]<;>rfl
 |ready o ho hw hp hr=>
  obtain ⟨u,l,un,ha,hlen,hc,rfl⟩:=hr;exact ⟨u,rfl,by rw[(b9d ha).res];rfl⟩
 |send o ho hw u l ha hlen hc hd=>
  subst hd;exact ⟨u,rfl,by rw[(b9d ha).res];rfl⟩
structure LentI (record:Int) (c0 c:Circ) (k:Nat):Prop where
 mid:MidP c
 val:Val 0 c
 stp:Stp c0 c
 less:d0l c c0
 done:∀(j:Nat) (y:Item),j<k→c.Items[j]?=some y→y.Record=record→y.Custody.State=3→a9p c y
 rest:∀y∈c.Items,y.Record≠record→y∈c0.Items
 shelf:∀y∈c.Items,y.Custody.State=3→y∈c0.Items
 kin:∀y∈c.Items,∃x∈c0.Items,x.ID=y.ID∧(y.Custody=x.Custody∨(x.Custody.State=3∧y.Custody.Branch=x.Custody.Branch))
theorem c9f {c d:Circ} {record:Int} (m:MidP c) (v:Val 0 c) (e:qfj c record=some (d,0)):LentI record c d d.Items.length:=by
 unfold qfj at e;cases hw:c9 a4q (record,0,c,o7,()) with
 |none=>rw[show c9 a4q (record,0,c,ZN,())=_ from hw]at e;cases e
 |some r=>
  rw[show c9 a4q (record,0,c,ZN,())=_ from hw]at e;obtain ⟨b,⟨hb1,k,hb2,hk,I⟩,hb⟩:=d3u (fun s:Int×Int×Circ×Circ×Unit=>s.1=record∧∃k:Nat,s.2.1=(k:Int)∧k≤s.2.2.1.Items.length∧LentI record c s.2.2.1 k) (by
   rintro ⟨rr,ii,c1,v1,_⟩ ⟨rr2,ii2,c2,v2,_⟩ ⟨h1,k,h2,hk,I⟩ hs;dsimp only at h1 h2 hk I;subst h1 h2;by_cases hlt:k<c1.Items.length
   ·have hx:c1.Items[k]?=some (c1.Items[k]):=yab hlt;generalize c1.Items[k]=x at hx;obtain ⟨w,p1,hst⟩:=c0x (v:=v1) (record:=rr) I.mid hx;rw[hst]at hs;cases hq:(x.Record==rr&&x.Custody.State==3)&&!(w==0) with
    |false=>
     rw[hq]at hs;cases hs
     refine ⟨rfl,k+1,rfl,(by show k+1≤c1.Items.length;omega),I.mid,I.val,I.stp,I.less,fun j y hj hy hr h3=>?_,I.rest,I.shelf,I.kin⟩;by_cases ejk:j=k
     ·subst ejk;rw[hx]at hy;cases hy
      rw[hr,h3]at hq;have:w=0:=by simpa using hq
      subst this;exact c9y I.mid p1
     ·exact I.done j y (by omega) hy hr h3
    |true=>
     rw[hq]at hs;simp only[yac]at hs;simp only[yad,ya5,yan,yaX,ne_eq]at hq;cases ha:qfk c1 x.ID with
     |none=>rw[ha]at hs;cases hs
     |some p=>
      obtain ⟨c3,e3⟩:=p;rw[ha]at hs;dsimp only at hs;by_cases he3:e3=0
      ·subst he3;simp only[yal,yam,yaa]at hs;cases hs
       have hm:=yaf hx;have r:=b0j I.mid hx ha;have f:=b63 I.val.holds hx r;have hm3:=((b1b I.mid hx).b ha).1.1;have hwp:a1j x.Custody=false:=by unfold a1j;rw[hq.1.2];rfl
       have v3:=d40 (I.val.weak x.ID) hx (I.val.lfree hm hwp) (I.val.hfree hm (by omega) (by omega)) r;obtain ⟨u,eI,hu⟩:=f.items;have hu3:u.State≠3:=fun e=>by
        have:=hu e;rw[p1]at this;exact hq.2 (ybL this)
       refine ⟨rfl,k+1,rfl,(by show k+1≤c2.Items.length;rw[eI,List.length_set];omega),hm3,v3,I.stp.trans f.stp,f.less.trans I.less,fun j y hj hy hr h3=>?_,fun y hy hr=>?_,fun y hy h3=>?_,fun y hy=>?_⟩
       ·rw[eI]at hy;by_cases ejk:j=k
        ·subst ejk;rw[ybt hlt]at hy;cases hy
         exact absurd h3 hu3
        ·rw[List.getElem?_set_ne (fun e=>ejk e.symm)]at hy;exact (I.done j y (by omega) hy hr h3).less f.less rfl rfl
       ·rw[eI,a1s I.val.items hx]at hy;rcases hy with ⟨hy,_⟩|rfl
        ·exact I.rest y hy hr
        ·exact absurd hq.1.1 hr
       ·rw[eI,a1s I.val.items hx]at hy;rcases hy with ⟨hy,_⟩|rfl
        ·exact I.shelf y hy h3
        ·exact absurd h3 hu3
       ·obtain ⟨w,eW,hw⟩:=c67 hx r;rw[eW,a1s I.val.items hx]at hy;rcases hy with ⟨hy,_⟩|rfl
        ·exact I.kin y hy
        ·obtain ⟨z,hz,hzi,hzc⟩:=I.kin x hm;refine ⟨z,hz,hzi,.inr ?_⟩;rcases hzc with e|⟨e1,e2⟩
         ·rw[←e];exact ⟨hq.1.2,hw⟩
         ·exact ⟨e1,hw.trans e2⟩
      ·rw[show (e3==0)=false by simpa using he3]at hs;cases hs
   ·have:k=c1.Items.length:=by omega
    subst this;simp only[a4q,dge,yaa]at hs;cases hs) ⟨rfl,0,rfl,ybD _,m,v,.refl _,.refl _,fun j y hj=>absurd hj (by omega),fun y hy _=>hy,fun y hy _=>hy,fun y hy=>⟨y,hy,rfl,.inl rfl⟩⟩ hw
  obtain ⟨rr,ii,c1,v1,_⟩:=b;dsimp only at hb1 hb2 hk I;subst hb1 hb2;by_cases hlt:k<c1.Items.length
  ·have hx:c1.Items[k]?=some (c1.Items[k]):=yab hlt;generalize c1.Items[k]=x at hx;obtain ⟨w,p1,hst⟩:=c0x (v:=v1) (record:=rr) I.mid hx;rw[hst]at hb;cases hq:(x.Record==rr&&x.Custody.State==3)&&!(w==0) with
   |false=>rw[hq]at hb;cases hb
   |true=>
    rw[hq]at hb;simp only[yac]at hb;cases ha:qfk c1 x.ID with
    |none=>rw[ha]at hb;cases hb
    |some p=>
     obtain ⟨c3,e3⟩:=p;rw[ha]at hb;dsimp only at hb;by_cases he3:e3=0
     ·rw[show (e3==0)=true by simpa using he3]at hb;cases hb
     ·rw[show (e3==0)=false by simpa using he3]at hb;cases hb
      cases e
      exact absurd rfl he3
  ·have:k=c1.Items.length:=by omega
   subst this;simp only[a4q,dge,yaa]at hb;cases hb
   cases e
   exact I
end
section
open Go (IntKind)
theorem h27 {X:Type} (key:X→Int) {l:List X} (hs:l.Pairwise (fun a b=>key a<key b)) {i:Nat} {x:X} (hx:l[i]?=some x):l.take i++l.drop (i+1)=l.filter (fun y=>!(key y==key x)):=by
 have hlt:=(yaG.1 hx)
 have e:l=l.take i++x::l.drop (i+1):=by
  rw[←hlt.2,←ybN hlt.1,List.take_append_drop]
 have hs2:=hs;rw[e,List.pairwise_append,List.pairwise_cons]at hs2;obtain ⟨-,⟨h2,-⟩,h3⟩:=hs2;have e1:(l.take i).filter (fun y=>!(key y==key x))=l.take i:=List.filter_eq_self.2 (fun a ha=>by
  have:=h3 a ha x (yaE ..);have:¬key a=key x:=by omega
  simpa using this)
 have e2:(l.drop (i+1)).filter (fun y=>!(key y==key x))=l.drop (i+1):=List.filter_eq_self.2 (fun a ha=>by
  have:=h2 a ha;have:¬key a=key x:=by omega
  simpa using this)
 have e3:l.filter (fun y=>!(key y==key x))=(l.take i++x::l.drop (i+1)).filter (fun y=>!(key y==key x)):=by rw[←e]
 rw[e3,List.filter_append,ybh,e1,e2];simp
theorem e4o {l m:List Loan} {n:Loan} {item:Int} (hs:y8 l=0) (h:a7l l item=(m,n,0)):n∈l∧n.Item=item∧y8 m=0∧∀z,z∈m↔z∈l∧z.Item≠item:=by
 have hp:=b2h.1 hs;unfold a7l at h;rcases o6 (fun x:Loan=>x.Item==item) l with ⟨h1,h2⟩|⟨i,x,h1,h2,h3,h4⟩
 ·rw[h2]at h;cases h
 ·rw[h4,h1]at h;simp only[yaI,ya4,and_true]at h;obtain ⟨e,rfl⟩:=h;have hi:x.Item=item:=by simpa using h3
  rw[h27 (fun n:Loan=>n.Item) hp.2.2 h2]at e;have hm:∀z,z∈m↔z∈l∧z.Item≠item:=by
   intro z;rw[←e,yaS,hi];simp
  refine ⟨yaf h2,hi,?_,hm⟩;rw[b2h];have:=yax (fun y:Loan=>!(y.Item==x.Item)) l;rw[←e];exact ⟨by omega,fun z hz=>hp.2.1 z (yaS.1 hz).1,hp.2.2.filter _⟩
theorem b33 {l:List Charge} (h:m8 l=0) (p:Charge→Bool):m8 (l.filter p)=0:=by
 rw[b7b]at h ⊢;have:=yax p l;exact ⟨by omega,fun x hx=>h.2.1 x (yaS.1 hx).1,h.2.2.filter p⟩
end
section
open Go (IntKind)
theorem d43 {f:Int} {X:Option (Circ×Int)} {d:Circ} (e:(bif !(f==0) then some (o7,f) else X)=some (d,0)):f=0∧X=some (d,0):=by
 by_cases hf:f=0
 ·subst hf;exact ⟨rfl,e⟩
 ·rw[show (f==0)=false by simpa using hf]at e;cases e
  exact absurd rfl hf
theorem g6c {f:Int} {X:Option (Circ×Int×Int)} {d:Circ} {n:Int} (e:(bif !(f==0) then some (o7,0,f) else X)=some (d,n,0)):f=0∧X=some (d,n,0):=by
 by_cases hf:f=0
 ·subst hf;exact ⟨rfl,e⟩
 ·rw[show (f==0)=false by simpa using hf]at e;cases e
  exact absurd rfl hf
theorem d0w {o:Option (Circ×Int)} {d:Circ} (e:(match o with|some (r,f)=>some (r,f)|none=>none)=some (d,0)):o=some (d,0):=by
 cases o with
 |none=>cases e
 |some p=>obtain ⟨r,f⟩:=p;exact e
structure Res (c d:Circ):Prop where
 val:Val 0 d
 stp:Stp c d
 idle:d0k c→d0k d
theorem g8l {c c1 d:Circ} {i:Nat} {x:Item} {kind branch who:Int} (v:Val 0 c) (m:MidP c) (hx:c.Items[i]?=some x) (hl:b80 c x.ID) (hf:b8z c x.ID)
 (e1:qfb c x.ID kind branch who=some (c1,0)) (e2:qfk c1 x.ID=some (d,0)):Res c d:=by
 obtain ⟨a,b,-,e⟩:=ma (v.weak x.ID) m hx hl hf e1 e2;exact ⟨a,b,fun h=>e (h.x _)⟩
theorem a7r {c d:Circ} (h:MidP c) {i:Nat} {x:Item} (hx:c.Items[i]?=some x) {kind branch who:Int} (e:qfb c x.ID kind branch who=some (d,0)):x.Custody.State∈c5j kind:=by
 obtain ⟨u,ha,-⟩:=a0s h hx e;exact e4j (b9d ha).allow
theorem a8s {x:Item} (h:x.Custody.State≠4) (h2:x.Custody.State≠9) (h3:x.Custody.State≠10):a1j x.Custody=false:=by
 rw[a06];simp[h,h2,h3]
theorem c54 {c d:Circ} (v:Val 0 c) (m:MidP c) {item branch:Int} (e:qe1 c item branch=some (d,0)):Res c d:=by
 unfold qe1 at e;rcases a1d m item with ⟨-,h2,-⟩|⟨i,x,-,h2,hx,rfl,-⟩
 ·rw[h2]at e;cases e
 ·rw[h2]at e;simp only[a39,yaa]at e;rcases e1:qfb c x.ID 1 branch 0 with _|⟨c1,f⟩
  ·rw[e1]at e;cases e
  rw[e1]at e;have hz:=d43 e;clear e;obtain ⟨rfl,e2⟩:=hz;have e2:=d0w e2;have hs:x.Custody.State∈([1]:List Int):=a7r m hx e1;have hs:x.Custody.State=1:=by simpa using hs
  have hm:=yaf hx;exact g8l v m hx (v.lfree hm (a8s (by omega) (by omega) (by omega))) (v.hfree hm (by omega) (by omega)) e1 e2
end
section
open Go (IntKind)
theorem a63 {u:Custody} (h:u.State=4∨u.State=9∨u.State=10):a1j u=true:=by
 rw[a06];rcases h with h|h|h<;>simp[h]
theorem c7z {c d:Circ} {i:Nat} {x:Item} {kind branch who:Int} (v:Val 0 c) (m:MidP c) (hx:c.Items[i]?=some x) (hs:x.Custody.State=4∨x.Custody.State=9)
 (e:qfb c x.ID kind branch who=some (d,0)) (hk:kind=11∨kind=12):Res c d:=by
 obtain ⟨u,ha,hlen,rfl,m1⟩:=a0s m hx e;have hu:(u.State=9∨u.State=10)∧u.Who=x.Custody.Who:=by
  rw[(b9d ha).res];rcases hk with rfl|rfl
  ·exact ⟨.inl rfl,rfl⟩
  ·exact ⟨.inr rfl,rfl⟩
 have hm0:=yaf hx;have hid:=a1o v.items hm0;have hm:t8 u x∈(p7 c i x ⟨c.Today,x.ID,kind,branch,who⟩ u).Items:=(a2x v.items hx).2 (.inr rfl);have hf:=v.hfree hm0 (by omega) (by omega);have hp:a1j (t8 u x).Custody=true:=a63 (u:=u) (by omega);refine ⟨((v.weak x.ID).move hx rfl ha hlen).close hm rfl (fun n hn e=>⟨hp,?_⟩) (fun _=>?_) (fun h hh hs1 hg=>absurd hg (hf h hh hs1)) (fun h=>?_),a15,fun h y hy h3=>?_⟩
 ·obtain ⟨y,hy,hi,hw⟩:=v.loanI n hn;have:=u6 v.items hy hm0 (hi.trans e);subst this;exact hu.2.trans (hw (by omega)).2
 ·exact v.itemL x hm0 (by omega) (a63 (by omega))
 ·rw[show (t8 u x).Custody=u from rfl]at h;omega
 ·rcases (a2x v.items hx).1 hy with ⟨hy,_⟩|rfl
  ·exact h y hy h3
  ·rw[show (t8 u x).Custody=u from rfl]at h3;omega
theorem Res.trans {a b c:Circ} (h:Res a b) (k:Res b c):Res a c:=⟨k.val,h.stp.trans k.stp,fun q=>k.idle (h.idle q)⟩
theorem a7m {c d:Circ} {it:Int} (v:Val it c) (m:MidP c) {p item kind amount:Int} (hp:(a3j c.Patrons p).2=true) (e:qe0 c p item kind amount=some (d,0)):Val it d∧MidP d∧∃ch nc,d=a4s c ch nc:=by
 obtain ⟨hd,he,hn⟩:=(a85 m p item kind amount).b e;have hv:=c5g v.nums;rw[a1h (by omega) (by omega)]at hd;subst hd;refine ⟨v.setCharges he ⟨by omega,by omega⟩ (fun x hx=>?_),b9z m (a7n he) _,_,_,rfl⟩;rcases yat.1 hx with hx|hx
 ·have:=b90 (v.chG x hx);exact ⟨this.1,by omega⟩
 ·have:x=⟨c.NextCharge,p,item,c.Today,kind,amount,0⟩:=by simpa using hx
  subst this;exact ⟨hp,by show c.NextCharge<c.NextCharge+1;omega⟩
theorem c36 {c d:Circ} (v:Val 0 c) (m:MidP c) {p item kind amount:Int} (hp:(a3j c.Patrons p).2=true) (e:qe0 c p item kind amount=some (d,0)):Res c d:=by
 obtain ⟨h,-,ch,nc,rfl⟩:=a7m v m hp e;exact ⟨h,f03,fun k=>k⟩
theorem c4z {l:List Hold} (h:w6 l=0) {o p:Hold} (ho:o∈l) (hp:p∈l) (hg:0<o.Got) (e:o.Got=p.Got):o=p:=by
 obtain ⟨i,hi⟩:=yaF ho;obtain ⟨j,hj⟩:=yaF hp;have h4:=(b48.1 h).2.2;rw[ya2]at h4;obtain ⟨hil,rfl⟩:=yaG.1 hi;obtain ⟨hjl,rfl⟩:=yaG.1 hj;rcases Nat.lt_trichotomy i j with q|q|q
 ·have:=h4 i j hil hjl q;unfold z8 at this;simp only[yai,ybj,yag,yaX,ne_eq]at this;rcases this.2 with w|w
  ·omega
  ·exact absurd e.symm w
 ·subst q;rfl
 ·have:=h4 j i hjl hil q;unfold z8 at this;simp only[yai,ybj,yag,yaX,ne_eq]at this;rcases this.2 with w|w
  ·omega
  ·exact absurd e w
theorem c7q {l m:List Hold} (hs:∀i x,l[i]?=some x→p8 l i (fun y=>decide (x.ID≤y.ID))=false) {item:Int} (h:a89 l item=(m,0)):∃o∈l,o.Got=item∧m=b3q l o.ID (b44 o 0 1 0):=by
 unfold a89 at h;rcases o6 (fun x:Hold=>x.Got==item) l with ⟨h1,h2⟩|⟨i,x,h1,h2,h3,h4⟩
 ·rw[h2]at h;cases h
 ·rw[h4,h1]at h;simp only[yaI]at h;cases h0:item==0 with
  |true=>rw[h0]at h;cases h
  |false=>
   rw[h0]at h;simp only[yaa,ya4,and_true]at h;subst h;exact ⟨x,yaf h2,by simpa using h3,(a62 hs h2 (y:=b44 x 0 1 0) rfl).symm⟩
theorem b4z {o:Hold} (h:m6 o=0):m6 (b44 o 0 1 0)=0:=by
 rw[e3d]at h ⊢;obtain ⟨⟨a1,a2,a3,a4,a5,a6,a7,a8,a9,a10⟩,b,c,d⟩:=h;have z:¬(0:Int)<0:=by decide
 exact ⟨⟨a1,a2,a3,a4,a5,a6,.inl rfl,⟨Int.le_refl 0,(show (0:Int)≤109572 by decide)⟩,a9,a10⟩,⟨Int.le_refl 1,(show (1:Int)≤3 by decide)⟩,⟨fun q=>absurd (show (0:Int)<0 from q) z,fun q=>absurd rfl q⟩,⟨fun q=>absurd (show (0:Int)<0 from q) z,fun q=>absurd (show (1:Int)=3 from q) (by decide)⟩⟩
theorem g77 {c:Circ} {y:Item} (hy:y∈c.Items):∃j,j<c.Items.length∧c.Items[j]?=some y:=by
 obtain ⟨j,hj⟩:=yaF hy;exact ⟨j,(zL hj),hj⟩
theorem e8n {c d:Circ} (v:Val 0 c) (m:MidP c) {item:Int} (e:qfm c item=some (d,0)):Res c d:=by
 unfold qfm at e;rcases a1d m item with ⟨-,h2,-⟩|⟨i,x,-,h2,hx,rfl,-⟩
 ·rw[h2]at e;cases e
 rw[h2]at e;simp -zeta only[a39,yaa,d8,hx,a0i]at e;dsimp only at e;have hm0:=yaf hx;have hid:=a1o v.items hm0;cases hs:x.Custody.State==4||x.Custody.State==9 with
 |true=>
  rw[hs]at e;simp only[yac]at e;have hs2:x.Custody.State=4∨x.Custody.State=9:=by simpa using hs
  rcases e1:qfb c x.ID 12 x.Custody.Branch 0 with _|⟨c1,f⟩
  ·rw[e1]at e;cases e
  rw[e1]at e;dsimp only at e;have hz:=d43 e;clear e;obtain ⟨rfl,e⟩:=hz;have r1:=c7z v m hx hs2 e1 (.inr rfl);obtain ⟨u,ha,hlen,hc1,m1⟩:=a0s m hx e1;cases hp:x.Price==0 with
  |true=>
   rw[hp]at e;cases e
   exact r1
  |false=>
   rw[hp]at e;have e:=d0w e;obtain ⟨n,hn,hni⟩:=v.itemL x hm0 (by omega) (a63 (by omega));have hw:x.Custody.Who=n.Patron:=by
    obtain ⟨y,hy,hi,hw⟩:=v.loanI n hn;have:=u6 v.items hy hm0 (hi.trans hni);subst this;exact (hw (by omega)).2
   have hpk:(a3j c1.Patrons x.Custody.Who).2=true:=by
    rw[hw,hc1];exact v.loanP n hn
   exact r1.trans (c36 r1.val m1 hpk e)
 |false=>
  rw[hs]at e;simp only[yaa]at e;have hs2:¬(x.Custody.State=4∨x.Custody.State=9):=by simpa using hs
  rcases e1:qfb c x.ID 13 x.Custody.Branch 0 with _|⟨c1,f⟩
  ·rw[e1]at e;cases e
  rw[e1]at e;dsimp only at e;have hz:=d43 e;clear e;obtain ⟨rfl,e⟩:=hz;have hst:x.Custody.State∈([2,3,5,6,7]:List Int):=a7r m hx e1;have hst:x.Custody.State=2∨x.Custody.State=3∨x.Custody.State=5∨x.Custody.State=6∨x.Custody.State=7:=by simpa using hst
  obtain ⟨u,ha,hlen,rfl,m1⟩:=a0s m hx e1;have hu:u.State=11:=by rw[(b9d ha).res];rfl
  have v1:=(v.weak x.ID).move hx rfl ha hlen;have hlf:=v.lfree hm0 (a8s (by omega) (by omega) (by omega));have hm:t8 u x∈(p7 c i x ⟨c.Today,x.ID,13,x.Custody.Branch,0⟩ u).Items:=(a2x v.items hx).2 (.inr rfl);have hnp:¬a1j (t8 u x).Custody=true:=by
   rw[a8s (x:=t8 u x) (by show u.State≠4;omega) (by show u.State≠9;omega) (by show u.State≠10;omega)]
   decide
  have hidle:d0k c→d0k (p7 c i x ⟨c.Today,x.ID,13,x.Custody.Branch,0⟩ u):=fun h y hy h3=>by
   rcases (a2x v.items hx).1 hy with ⟨hy,_⟩|rfl
   ·exact h y hy h3
   ·rw[show (t8 u x).Custody=u from rfl]at h3;omega
  have hcl:∀c2:Circ,c2.Items=(p7 c i x ⟨c.Today,x.ID,13,x.Custody.Branch,0⟩ u).Items→c2.Loans=c.Loans→Val x.ID c2→b8z c2 x.ID→Val 0 c2:=by
   intro c2 hI hL v2 hf;refine v2.close (x:=t8 u x) (by rw[hI];exact hm) rfl (fun n hn e=>absurd e (hlf n (by rw[←hL];exact hn))) (fun h=>absurd h hnp) (fun h hh hs1 hg=>absurd hg (hf h hh hs1)) (fun h=>?_);rw[show (t8 u x).Custody=u from rfl]at h;omega
  rw[a8u m1.short.holds]at e;dsimp only at e;cases hc:(o3 (p7 c i x ⟨c.Today,x.ID,13,x.Custody.Branch,0⟩ u) x.ID).2 with
  |false=>
   rw[hc]at e;cases e
   refine ⟨hcl _ rfl rfl v1 (fun o ho hs1 hg=>?_),a15,hidle⟩;unfold o3 at hc;cases hq:(p7 c i x ⟨c.Today,x.ID,13,x.Custody.Branch,0⟩ u).Holds.find? (fun h=>h.Got==x.ID) with
   |none=>exact absurd (ybs.1 hq o ho) (by simpa using hg)
   |some p=>rw[hq]at hc;cases hc
  |true=>
   rw[hc]at e;simp only[yam,yaa]at e;rw[e0b m1.short.holds m1.sorted]at e;dsimp only at e;rcases hd:a89 (p7 c i x ⟨c.Today,x.ID,13,x.Custody.Branch,0⟩ u).Holds x.ID with ⟨l,f⟩;rw[hd]at e;dsimp only at e;have hz:=d43 e;clear e;obtain ⟨rfl,e⟩:=hz;have e:=d0w e;have hk:=b1y (l:=(p7 c i x ⟨c.Today,x.ID,13,x.Custody.Branch,0⟩ u).Holds) (item:=x.ID) (by rw[hd]);rw[hd]at hk;have m2:=a6i m1 hk;obtain ⟨o,ho,hg,rfl⟩:=c7q m1.sorted hd;have hsh:=b4z (a01 v1.holds ho);have v2:=v1.swap ho (p:=b44 o 0 1 0) rfl rfl rfl hsh (fun z hz q=>absurd (show (0:Int)<0 from q) (by decide)) (.inr hg) (fun q=>absurd rfl q);have v3:=hcl (u9 (p7 c i x ⟨c.Today,x.ID,13,x.Custody.Branch,0⟩ u) (b3q (p7 c i x ⟨c.Today,x.ID,13,x.Custody.Branch,0⟩ u).Holds o.ID (b44 o 0 1 0))) rfl rfl v2 (fun p hp hs1 hpg=>by
    rcases (a2y ho).1 hp with ⟨hp,hne⟩|rfl
    ·have:=c4z v1.holds ho hp (by rw[hg];omega) (hg.trans hpg.symm);subst this;exact hne rfl
    ·exact hs1 rfl)
   have I:=c9f m2 v3 e;refine ⟨I.val,a15.trans (a8k.trans I.stp),fun h y hy h3=>?_⟩;by_cases hr:y.Record=x.Record
   ·obtain ⟨j,hj,hjy⟩:=g77 hy;exact I.done j y hj hjy hr h3
   ·have hy2:=I.rest y hy hr;have hn:=hidle h y hy2 h3;intro q hq hw;have hq1:=b03 hw;rcases (a2y ho).1 (I.less.2 q hq hq1.2.1) with ⟨hq2,_⟩|rfl
    ·refine hn q hq2 ?_;rw[I.less.1]at hw;exact hw
    ·have ho1:o.State≠1:=fun q=>by
      have:=(a6h (a01 v1.holds ho)).2.2.2.2.1 q;omega
     obtain ⟨z,hz,hzi,hzr,-⟩:=v1.holdI o ho ho1;have:=u6 v1.items hz hm (hzi.trans hg);subst this;exact absurd (hq1.1.symm.trans hzr.symm) hr
end
section
open Go (IntKind)
theorem d9h:∀{A B:List Int},A.Nodup→(∀a∈A,a∈B)→A.length≤B.length:=by
 intro A
 induction A with
 |nil=>intro B _ _;simp
 |cons a A ih=>
  intro B hn hs;rw[List.nodup_cons]at hn;have ha:=hs a (yaE ..);have:=ih (B:=B.erase a) hn.2 (fun b hb=>by
   have h1:b≠a:=fun e=>hn.1 (e▸hb)
   exact (List.mem_erase_of_ne h1).2 (hs b (yaR _ hb)))
  rw[List.length_erase_of_mem ha]at this;have hp:=List.length_pos_of_mem ha;simp only[yaD];omega
theorem e3q {c:Circ} {it:Int} (v:Val it c) (r:Int):(c.Holds.filter (fun o=>o.Record==r)).length≤c.Patrons.length:=by
 have hp:=(b48.1 v.holds).2.2;have h1:((c.Holds.filter (fun o=>o.Record==r)).map (fun o=>o.Patron)).Nodup:=by
  rw[List.nodup_iff_pairwise_ne,List.pairwise_map];refine (hp.filter _).imp_of_mem (fun {a b} ha hb q=>?_);have ha:=(yaS.1 ha).2;have hb:=(yaS.1 hb).2;simp only[ya5]at ha hb;unfold z8 at q;simp only[yai,ybj,yaX,ne_eq]at q;rcases q.1 with w|w
  ·exact fun e=>w e.symm
  ·exact absurd (hb.trans ha.symm) w
 have h2:=d9h h1 (B:=c.Patrons.map (fun p=>p.ID)) (fun a ha=>by
  obtain ⟨o,ho,rfl⟩:=ybb.1 ha;have:=(v.holdP o (yaS.1 ho).1).1;unfold a3j at this;cases hq:c.Patrons.find? (fun p=>p.ID==o.Patron) with
  |none=>rw[hq]at this;cases this
  |some p=>exact ybb.2 ⟨p,yaV hq,by have:=ybp hq;simpa using this⟩)
 rw[ya1,ya1]at h2;exact h2
theorem a8o {c:Circ} (h:a0g c=true):c.Items.length≤64∧c.Moves.length≤2000:=by
 unfold a0g at h;simp only[yad,yan,yai,yag]at h;omega
structure Inv (c:Circ):Prop where
 val:Val 0 c
 short:Short c
 pats:c.Patrons.length≤8
theorem g78 {c d:Circ} (s:Short c) (hp:c.Patrons.length≤8) (v:Val 0 d) (t:Stp c d):Inv d:=by
 obtain ⟨a1,a2,a3,a4,a5,a6,a7,a8,a9,a10,a11,a12,a13⟩:=s;have h1:=a8o v.items;have h2:=(b2h.1 v.loans).1;have h3:=(b48.1 v.holds).1;have h4:=(b7b.1 v.charges).1;refine ⟨v,⟨by omega,by rw[t.pats];exact a2,by omega,by omega,by omega,by rw[t.rules];exact a6,by omega,fun x hx=>by have:=(a1o v.items hx).2.2.2.2;omega,by rw[t.pats];exact a9,by rw[t.cals];exact a10,by rw[t.cals];exact a11,by rw[t.cals];exact a12,by rw[t.cals];exact a13⟩,by rw[t.pats];exact hp⟩
theorem Inv.fit {c:Circ} (h:Inv c):FitP c:=h2t (c3h h.val)
theorem Inv.mid {c:Circ} (h:Inv c):MidP c:=by
 have f:=h.fit;have h1:=a8o h.val.items;have h2:=(b48.1 h.val.holds).1;have h4:=(b7b.1 h.val.charges).1;exact ⟨h.short,by omega,by omega,a2m f.holds,fun o ho=>d1n f ho,fun r=>by have:=e3q h.val r;have:=h.pats;omega,f4q f,fun r hr=>g10 f hr,fun x hx=>b43 f hx,a9b h.val.items,by omega⟩
theorem Inv.w {c:Circ} (h:Inv c):MidW c:=by
 have h1:=a8o h.val.items;have h2:=(b2h.1 h.val.loans).1;have h3:=(b48.1 h.val.holds).1;exact ⟨h.short,by omega,by omega,by omega,fun r=>by have:=e3q h.val r;have:=h.pats;omega⟩
theorem Inv.of {c d:Circ} (h:Inv c) (v:Val 0 d) (t:Stp c d):Inv d:=g78 h.short h.pats v t
theorem d0k.less {c d:Circ} (h:d0k c) (hi:d.Items=c.Items) (l:d0l d c):d0k d:=fun y hy h3=>(h y (by rw[←hi];exact hy) h3).less l rfl rfl
end
section
open Go (IntKind)
theorem c32 {c:Circ} {item:Int} (h:(o3 c item).2=false):∀o∈c.Holds,o.Got≠item:=by
 intro o ho e;unfold o3 at h;cases hq:c.Holds.find? (fun h=>h.Got==item) with
 |none=>exact absurd (ybs.1 hq o ho) (by simpa using e)
 |some p=>rw[hq]at h;cases h
structure Ret (c d:Circ) (i:Nat) (x:Item) (branch:Int):Prop where
 val:Val x.ID d
 mid:MidP d
 items:d.Items=c.Items.set i (t8 ⟨2,branch,0,0⟩ x)
 free:b80 d x.ID
 holds:d.Holds=c.Holds
 today:d.Today=c.Today
 stp:Stp c d
theorem a92 {c d:Circ} (I:Inv c) {i:Nat} {x:Item} (hx:c.Items[i]?=some x) {branch:Int} (e:qex c x.ID branch=some (d,0)):Ret c d i x branch:=by
 have v:=I.val;have m:=I.mid;have hlp:=(b2h.1 v.loans).1;unfold qex at e;rcases e1:qfb c x.ID 4 branch 0 with _|⟨c1,f⟩
 ·rw[e1]at e;cases e
 rw[e1]at e;dsimp only at e;have hz:=d43 e;clear e;obtain ⟨rfl,e⟩:=hz;obtain ⟨u,ha,hlen,hc1,m1⟩:=a0s m hx e1;have hu:u=⟨2,branch,0,0⟩:=(b9d ha).res;subst hu;have v1:=(v.weak x.ID).move hx rfl ha hlen;have st1:Stp c (p7 c i x ⟨c.Today,x.ID,4,branch,0⟩ ⟨2,branch,0,0⟩):=a15;have hx1:=a3k hx ⟨c.Today,x.ID,4,branch,0⟩ ⟨2,branch,0,0⟩;rw[←hc1]at v1 st1 hx1;have hL:c1.Loans=c.Loans:=by rw[hc1];rfl
 have hH:c1.Holds=c.Holds:=by rw[hc1];rfl
 have hI:c1.Items=c.Items.set i (t8 ⟨2,branch,0,0⟩ x):=by rw[hc1];rfl
 have hT:c1.Today=c.Today:=by rw[hc1];rfl
 clear hc1;rw[f3a (by rw[hL];omega)]at e;rcases hb:a7l c1.Loans x.ID with ⟨l,n,f⟩;rw[hb]at e;dsimp only at e;have hz:=d43 e;clear e;obtain ⟨rfl,e⟩:=hz;obtain ⟨b1,b2,b3,b4⟩:=e4o v1.loans hb;have v2:=v1.setLoans b3 (fun z hz=>⟨v1.loanP z ((b4 z).1 hz).1,.inl ⟨z,((b4 z).1 hz).1,rfl,rfl⟩⟩) (fun z hz hne=>⟨z,(b4 z).2 ⟨hz,hne⟩,rfl⟩);have m2:=c00 m1 (l:=l) (by have:=(b2h.1 b3).1;omega);have hat:=a7i (c:=j9 c1 l) (x:=t8 ⟨2,branch,0,0⟩ x) m2 hx1;have hc2:{c1 with Loans:=l}=j9 c1 l:=rfl;simp -zeta only[hc2]at e;rw[show qq (j9 c1 l) x.ID=_ from hat]at e;simp -zeta only[d8,hx1]at e;have hpn:(a3j (j9 c1 l).Patrons n.Patron).2=true:=v1.loanP n b1;have hfr:b80 (j9 c1 l) x.ID:=fun z hz=>((b4 z).1 hz).2
 have hI2:(j9 c1 l).Items=c1.Items:=rfl;have hH2:(j9 c1 l).Holds=c1.Holds:=rfl;have hT2:(j9 c1 l).Today=c1.Today:=rfl;have st2:Stp c (j9 c1 l):=st1.trans d81;have rf:∀c3:Circ,Val x.ID c3→MidP c3→(∃ch nc,c3=a4s (j9 c1 l) ch nc)→(match qe5 c3.Charges n.Patron x.ID 2 with
  |some (r21,r22)=>some ({c3 with Charges:=r21},(0:Int))
  |none=>none)=some (d,0)→Ret c d i x branch:=by
  intro c3 v3 m3 h3 e;obtain ⟨w,hw⟩:=f27 (p:=n.Patron) (item:=x.ID) (kind:=2) m3.chN;rw[hw]at e;cases e
  have hfl:=yax (fun y=>!(b3e n.Patron x.ID 2 y)) c3.Charges;have hch:=m3.chN;have v4:=v3.setCharges (b33 v3.charges (fun y=>!(b3e n.Patron x.ID 2 y))) ⟨Int.le_refl _,(c5g v3.nums).2.2.2⟩ (fun y hy=>b90 (v3.chG y (yaS.1 hy).1));have m4:=b9z m3 (l:=c3.Charges.filter (fun y=>!(b3e n.Patron x.ID 2 y))) (by omega) c3.NextCharge;obtain ⟨ch,nc,rfl⟩:=h3;exact ⟨v4,m4,hI2.trans hI,hfr,hH2.trans hH,hT2.trans hT,st2.trans (f03 (l:=(a4s (j9 c1 l) ch nc).Charges.filter (fun y=>!(b3e n.Patron x.ID 2 y))) (n:=nc))⟩
 have core:∀fine:Int,(bif decide (0<fine) then (match qe0 (j9 c1 l) n.Patron x.ID 1 fine with
  |some (r17,r18)=>bif !(r18==0) then some (o7,r18) else (match qe5 r17.Charges n.Patron x.ID 2 with
   |some (r21,r22)=>some ({r17 with Charges:=r21},(0:Int))
   |none=>none)
  |none=>none)
  else (match qe5 (j9 c1 l).Charges n.Patron x.ID 2 with
   |some (r21,r22)=>some ((⟨(j9 c1 l).Today,(j9 c1 l).Items,(j9 c1 l).Patrons,(j9 c1 l).Loans,(j9 c1 l).Holds,r21,(j9 c1 l).Rules,(j9 c1 l).Cals,(j9 c1 l).Moves,(j9 c1 l).NextHold,(j9 c1 l).NextCharge,(j9 c1 l).Local⟩:Circ),(0:Int))
   |none=>none))=some (d,0)→Ret c d i x branch:=by
  intro fine e;cases hf:decide (0<fine) with
  |false=>
   rw[hf]at e;exact rf (j9 c1 l) v2 m2 ⟨(j9 c1 l).Charges,(j9 c1 l).NextCharge,rfl⟩ e
  |true=>
   rw[hf]at e;simp only[yac]at e;rcases e3:qe0 (j9 c1 l) n.Patron x.ID 1 fine with _|⟨c3,f⟩
   ·rw[e3]at e;cases e
   rw[e3]at e;dsimp only at e;have hz:=d43 e;clear e;obtain ⟨rfl,e⟩:=hz;obtain ⟨v3,m3,h3⟩:=a7m v2 m2 hpn e3;exact rf c3 v3 m3 h3 e
 cases hr:qfh (j9 c1 l) n.Patron (t8 ⟨2,branch,0,0⟩ x) with
 |none=>rw[hr]at e;cases e
 |some rb=>
  obtain ⟨r,b⟩:=rb;rw[hr]at e;cases b with
  |false=>exact core 0 e
  |true=>
   dsimp only at e;simp only[yac]at e;cases hcal:qfx (j9 c1 l) branch with
   |none=>rw[hcal]at e;cases e
   |some cal=>
    rw[hcal]at e;dsimp only at e;cases hlate:qfs r cal n.Due c1.Today with
    |none=>rw[hlate]at e;cases e
    |some fine=>
     rw[hlate]at e;exact core fine e
theorem c98 {c c1 d:Circ} {n:Int} {i:Nat} {x x1:Item} (v1:Val x.ID c1) (m1:MidP c1) (hx:c1.Items[i]?=some x1) (hxi:x1.ID=x.ID) (hf:b80 c1 x.ID) (st:Stp c c1) (hi:d0k c→d31 x.ID c1)
 (hcase:b8z c1 x.ID∨∀o∈c1.Holds,o.State≠1→o.Got=x.ID→o.State=2∧x1.Record=o.Record∧o.Pickup=x1.Custody.Branch) (e:c55 x.ID 0 c1=some (d,n,0)):Res c d:=by
 rw[←hxi]at v1 hf hi hcase e;unfold c55 at e;simp only[yal,yam,yaa]at e;rw[a8u m1.short.holds]at e;dsimp only at e;have fin:∀{o:Option (Circ×Int)},(match o with
  |some (d,f)=>(bif !(f==0) then some (o7,0,f) else match qai d x1.ID with
   |some (r,_)=>some (d,r.ID,0)
   |none=>none)
  |none=>none)=some (d,n,0)→o=some (d,0):=by
  intro o e;cases o with
  |none=>cases e
  |some p=>
   obtain ⟨d2,f⟩:=p;dsimp only at e;have hz:=g6c e;clear e;obtain ⟨rfl,e⟩:=hz;cases hc:qai d2 x1.ID with
   |none=>rw[hc]at e;cases e
   |some q=>rw[hc]at e;cases e;rfl
 cases hc:(o3 c1 x1.ID).2 with
 |false=>
  rw[hc]at e;have e2:qfk c1 x1.ID=some (d,0):=fin e;have hno:=c32 hc;have r:=b0j m1 hx e2;have f:=b63 v1.holds hx r;exact ⟨d40 v1 hx hf (fun o ho _=>hno o ho) r,st.trans f.stp,fun h=>d4z v1.items m1 hx f (hi h)⟩
 |true=>
  have hcm:=a59 hc;rw[hc]at e;have e2:qfa c1 x1.ID (o3 c1 x1.ID).1=some (d,0):=fin e;have r:=b3d m1 hx e2;have hx1:=a1o v1.items (yaf hx);have ho1:(o3 c1 x1.ID).1.State≠1:=fun q=>by
   have:=(a6h (a01 v1.holds hcm.1)).2.2.2.2.1 q;rw[hcm.2]at this;omega
  rcases hcase with hcase|hcase
  ·exact absurd hcm.2 (hcase _ hcm.1 ho1)
  ·obtain ⟨h2,hrec,hpk⟩:=hcase _ hcm.1 ho1 hcm.2;have v3:=e0w v1 hx hf hcm.1 hrec hpk (fun p hp _ hpg=>by rw[c4z v1.holds hcm.1 hp (by rw[hcm.2];omega) (hcm.2.trans hpg.symm)]) r;obtain ⟨u,l,un,ha,hlen,hcc,rfl⟩:=r;have hl:=a81 (c:=p7 c1 i x1 ⟨c1.Today,x1.ID,5,x1.Custody.Branch,(o3 c1 x1.ID).1.Patron⟩ u) v1.holds hcc;refine ⟨v3,st.trans (a15.trans a8k),fun h y hy h3=>?_⟩;have hl2:d0l (u9 (p7 c1 i x1 ⟨c1.Today,x1.ID,5,x1.Custody.Branch,(o3 c1 x1.ID).1.Patron⟩ u) l) c1:=hl.trans ⟨rfl,fun o ho _=>ho⟩;have hy:y∈c1.Items.set i (t8 u x1):=hy;rcases (a1s v1.items hx).1 hy with ⟨hy,hne⟩|rfl
   ·exact (hi h y hy hne h3).less hl2 rfl rfl
   ·rw[show (t8 u x1).Custody=u from rfl,show u=⟨5,x1.Custody.Branch,(o3 c1 x1.ID).1.Patron,0⟩ from (b9d ha).res]at h3;exact absurd (show (5:Int)=3 from h3) (by decide)
theorem e4r {c d:Circ} {n:Int} (I:Inv c) {item branch:Int} (e:qfn c item branch=some (d,n,0)):Res c d:=by
 have v:=I.val;have m:=I.mid;rcases a1d m item with ⟨-,h2,-⟩|⟨i,x,-,h2,hx,rfl,-⟩
 ·unfold qfn at e;rw[h2]at e;cases e
 rw[d99 m.short h2 hx]at e;have hm0:=yaf hx;have hid:=a1o v.items hm0;have idl:∀c1:Circ,∀u,c1.Items=c.Items.set i (t8 u x)→c1.Holds=c.Holds→c1.Today=c.Today→d0k c→d31 x.ID c1:=by
  intro c1 u hI hH hT h y hy hne h3;rw[hI,a1s v.items hx]at hy;rcases hy with ⟨hy,_⟩|rfl
  ·exact (h y hy h3).less ⟨hT,fun o ho _=>by rw[hH]at ho;exact ho⟩ rfl rfl
  ·exact absurd rfl hne
 have mv:∀kind:Int,a1j x.Custody=false→(b8z c x.ID∨kind=7)→(kind=7→x.Custody.State=6)→c3m x.ID (qfb c x.ID kind branch 0)=some (d,n,0)→Res c d:=by
  intro kind hwp hc h6 e;unfold c3m at e;rcases e1:qfb c x.ID kind branch 0 with _|⟨c1,f⟩
  ·rw[e1]at e;cases e
  rw[e1]at e;dsimp only at e;by_cases hf:f=0
  ·subst hf;obtain ⟨u,ha,hlen,hc1,m1⟩:=a0s m hx e1;subst hc1;refine c98 (x:=x) ((v.weak x.ID).move hx rfl ha hlen) m1 (a3k hx _ u) rfl (v.lfree hm0 hwp) a15 (idl _ u rfl rfl rfl) ?_ e;by_cases hk:kind=7
   ·subst hk;right;intro o ho hs1 hg;obtain ⟨y,hy,hyi,hyr,hat⟩:=v.holdI o ho hs1;have:=u6 v.items hy hm0 (hyi.trans hg);subst this;have hat:=hat (by omega);have hs6:=h6 rfl;have h2:o.State=2:=by
     rcases (a6h (a01 v.holds ho)).2.2.2.1 with q|q|q
     ·exact absurd q hs1
     ·exact q
     ·have:=(hat.1 q).1;omega
    have hto:=(hat.2 h2).2.1;have hu:u=⟨2,branch,0,0⟩:=(b9d ha).res;have hfit:=(b9d ha).fits;unfold b4i at hfit;simp at hfit;refine ⟨h2,hyr,?_⟩;show o.Pickup=u.Branch
    rw[hu];show o.Pickup=branch
    omega
   ·left;rcases hc with hc|hc
    ·exact hc
    ·exact absurd hc hk
  ·exfalso;unfold c55 at e;rw[show (f==0)=false by simpa using hf]at e;cases e
   exact hf rfl
 cases hp:a1j x.Custody with
 |true=>
  rw[hp]at e;simp only[yac]at e;cases hb:(decide (branch<1)||decide (4<branch)) with
  |true=>rw[hb]at e;cases e
  |false=>
   rw[hb]at e;simp only[yaa]at e;unfold c3m at e;rcases e1:qex c x.ID branch with _|⟨c1,f⟩
   ·rw[e1]at e;cases e
   rw[e1]at e;dsimp only at e;by_cases hf:f=0
   ·subst hf;have R:=a92 I hx e1;have hst:x.Custody.State=4∨x.Custody.State=9∨x.Custody.State=10:=by
     rw[a06]at hp;simpa[or_assoc]using hp
    have hfr:=v.hfree hm0 (by omega) (by omega);have hlt:=(zL hx)
    exact c98 (x:=x) R.val R.mid (i:=i) (x1:=t8 ⟨2,branch,0,0⟩ x) (by rw[R.items,ybt hlt]) rfl R.free R.stp (idl _ _ R.items R.holds R.today) (.inl (fun o ho=>hfr o (by rw[←R.holds];exact ho))) e
   ·exfalso;unfold c55 at e;rw[show (f==0)=false by simpa using hf]at e;cases e
    exact hf rfl
 |false=>
  rw[hp]at e;simp only[yaa]at e;cases h8:x.Custody.State==8 with
  |true=>
   rw[h8]at e;have h8:x.Custody.State=8:=by simpa using h8
   exact mv 4 hp (.inl (v.hfree hm0 (by omega) (by omega))) (fun q=>absurd q (by decide)) e
  |false=>
   rw[h8]at e;simp only[yaa]at e;cases h11:x.Custody.State==11 with
   |true=>
    rw[h11]at e;have h11:x.Custody.State=11:=by simpa using h11
    exact mv 14 hp (.inl (v.hfree hm0 (by omega) (by omega))) (fun q=>absurd q (by decide)) e
   |false=>
    rw[h11]at e;simp only[yaa]at e;cases h6:x.Custody.State==6 with
    |true=>
     rw[h6]at e;exact mv 7 hp (.inr rfl) (fun _=>by simpa using h6) e
    |false=>
     rw[h6]at e;cases e
end
section
open Go (IntKind)
theorem e3g {c:Circ} (hm:SmallP c) (hr:a35 c=true):Inv c:=⟨h03 hr,hm.short,hm.patrons⟩
end
section
open Go (IntKind Lit)
def g6b (x:Int):Bool:=decide (x<1)||decide (9999<x)
def h1d (l:List Int):Int:=bif decide (200<(l.length:Int)) then 13 else bif l.any g6b then 2 else 0
theorem c3p {X:Type} (p:X→Bool):∀l:List X,l.all (fun x=>!p x)=!l.any p:=by
 intro l
 induction l with
 |nil=>rfl
 |cons x l ih=>simp only[ybJ,List.any_cons,ih];cases p x<;>rfl
theorem g80 {l:List Int} (hl:l.length<1000000000):qae l=some (h1d l):=by
 unfold qae h1d;have h:=m0 (step:=b5u) (fun i=>(l,(i:Int),())) l (fun _ x=>!g6b x) (.inr (2,())) (.inl ()) hl
  (by simp only[b5u,dge,yaa])
  (fun i x hx=>by
   have hi:=(zL hx)
   simp -zeta only[b5u,dlt hi,d8,hx,yac,f7 (show i<9223372036854775807 by omega),a0i];show _=bif !g6b x then _ else _
   unfold g6b;dsimp only;cases (decide (x<1)||decide (9999<x))<;>rfl)
 rw[show c9 b5u (l,0,())=_ from h,o8,c3p];cases decide (200<(l.length:Int)) with
 |true=>rfl
 |false=>simp only[yaa];cases l.any g6b<;>rfl
def a7a (branch:Int) (x:Item):Bool:=(x.Custody.Branch==branch)&&((x.Custody.State==2||x.Custody.State==3)||x.Custody.State==5)
theorem d90 (x:Item) (b:Int):qbu x b=some (a7a b x):=by
 unfold qbu a7a;simp -zeta only[a0i];dsimp only;cases (x.Custody.Branch==b)<;>rfl
def d3y (c:Circ) (b:Int):List Int:=(c.Items.filter (a7a b)).map (·.ID)
theorem b6s {α β X:Type} {p:X→Bool} {f:X→α} {fin:List α→β}:∀{l:List X} {i:Nat} {s:List α},a04 (fun _ x s=>.inl (bif p x then s++[f x] else s)) fin i l s=fin (s++(l.filter p).map f):=by
 intro l
 induction l with
 |nil=>intro i s;simp[a04]
 |cons x l ih=>
  intro i s;simp only[a04,ybh];rw[ih];cases p x<;>simp
theorem d9t {c:Circ} {b:Int} (hc:c.Items.length<1000000000):qag c b=some (d3y c b):=by
 unfold qag d3y;have h:=n9 (step:=b5w) (fun i (s:List Int)=>s.length≤i) (fun i s=>(b,c.Items,(c.Items.length:Int),(i:Int),s,())) c.Items (fun _ x s=>.inl (bif a7a b x then s++[x.ID] else s)) (fun s=>(s,())) (by rw[m7];omega)
  (fun s hs=>by simp only[b5w,dge,yaa])
  (fun i x s hx hs=>by
   have hi:=(zL hx)
   have hlim:decide (s.length+([x.ID]:List Int).length≤LIM)=true:=by rw[a4f,yae];simp only[yaD,yaU];omega
   constructor
   ·simp only[b5w,dlt hi,d8,hx,yac,d90,f7 (show i<9223372036854775807 by omega),hlim];cases a7a b x<;>rfl
   ·intro s' e;injection e with e;subst e;cases a7a b x<;>simp<;>omega) [] (ybD _)
 rw[show c9 b5w (b,c.Items,(c.Items.length:Int),0,([]:List Int),())=_ from h,b6s];rfl
theorem b0m (c:Circ) (b:Int):(d3y c b).length≤c.Items.length:=by
 unfold d3y;rw[ya1];exact yax _ _
end
section
open Go (IntKind Lit)
def cs (l:List Int):List Int:=Go.Lib.compact (l.mergeSort fun x y=>decide (x≤y))
theorem c7n (l:List Int):(cs l).Pairwise (fun a b=>a<b):=(c7h l).1
theorem d60 (l:List Int) (x:Int):x∈cs l↔x∈l:=(c7h l).2 x
theorem f4n:∀{a b:List Int},a.Pairwise (fun x y=>x<y)→b.Pairwise (fun x y=>x<y)→(∀x,x∈a↔x∈b)→a=b:=by
 intro a
 induction a with
 |nil=>
  intro b _ _ h;cases b with
  |nil=>rfl
  |cons y b=>have:=(h y).2 (yaE ..);cases this
 |cons x a ih=>
  intro b ha hb h;cases b with
  |nil=>have:=(h x).1 (yaE ..);cases this
  |cons y b=>
   rw[List.pairwise_cons]at ha hb;have e:x=y:=by
    have h1:=(h x).1 (yaE ..);have h2:=(h y).2 (yaE ..);rcases yaL.1 h1 with e|h1
    ·exact e
    rcases yaL.1 h2 with e|h2
    ·exact e.symm
    have:=hb.1 x h1;have:=ha.1 y h2;omega
   subst e;rw[ih ha.2 hb.2 (fun z=>?_)];constructor
   ·intro hz;rcases yaL.1 ((h z).1 (yaR _ hz)) with e|h1
    ·have:=ha.1 z hz;omega
    ·exact h1
   ·intro hz;rcases yaL.1 ((h z).2 (yaR _ hz)) with e|h1
    ·have:=hb.1 z hz;omega
    ·exact h1
theorem b1q {l:List Int} (h:l.Pairwise (fun x y=>x<y)):cs l=l:=f4n (c7n l) h (d60 l)
theorem c7o (l:List Int):(cs l).length≤l.length:=by
 have q1:∀(d:Array Int) (k:Nat),(Go.Lib.compactUpTo d k).length≤k:=by
  intro d k;unfold Go.Lib.compactUpTo;rw[ya1];exact yba (yax _ _) (by rw[List.length_range];exact yau _)
 unfold cs Go.Lib.compact;refine yba (q1 _ _) ?_;rw[List.length_mergeSort];exact yau _
theorem a5t {l:List Int} (h:l.length<1000000000):qbe l=some (l.mergeSort fun x y=>decide (x≤y)):=by
 unfold qbe;rw[show decide (l.length≤LIM)=true by rw[a4f,yae];omega,yac]
theorem a5r {l:List Int} (h:l.length<1000000000):qbd (l.mergeSort fun x y=>decide (x≤y))=some (cs l):=by
 unfold qbd;rw[show decide ((l.mergeSort fun x y=>decide (x≤y)).length≤LIM)=true by rw[a4f,yae,List.length_mergeSort];omega,yac];rfl
def tms (l:List Int) (n:Int):Int:=((l.filter (fun x=>x==n)).length:Int)
theorem d0e (x:Int) (l:List Int) (n:Int):tms (x::l) n=(bif x==n then 1 else 0)+tms l n:=by
 unfold tms;rw[ybh];cases x==n with
 |true=>simp only[yby,yaD,yac];omega
 |false=>simp
theorem h01 (l:List Int) (n:Int):0≤tms l n∧tms l n≤l.length:=by
 unfold tms;have:=yax (fun x:Int=>x==n) l;omega
theorem e9i (l:List Int) (n:Int):(tms l n==0)=!l.contains n:=by
 induction l with
 |nil=>rfl
 |cons x l ih=>
  rw[d0e,List.contains_cons];have:=h01 l n;cases h:x==n with
  |true=>
   have e:x=n:=by simpa using h
   subst e;simp only[yac,yal,Bool.true_or,yam,yaX,ne_eq];omega
  |false=>
   have e:(n==x)=false:=by rw[yaX]at h ⊢;exact fun q=>h q.symm
   simp only[yaa,Int.zero_add,ih,e,ybd]
theorem d7k (k n:Int) (e:MapI) (he:e.key=k):∀m:List MapI,b39 MapI.key n (c3n MapI.key k e m)=bif k==n then some e else b39 MapI.key n m:=by
 intro m
 induction m with
 |nil=>
  unfold c3n b39;rw[he];cases k==n<;>rfl
 |cons x m ih=>
  unfold c3n;cases hx:x.key==k with
  |true=>
   rw[yac];unfold b39;rw[he];have:x.key=k:=by simpa using hx
   rw[this];cases k==n<;>rfl
  |false=>
   rw[yaa];unfold b39;rw[ih];cases hn:x.key==n with
   |true=>
    have h1:x.key=n:=by simpa using hn
    have h2:(k==n)=false:=by
     rw[yaX]at hx ⊢;intro q;exact hx (h1.trans q.symm)
    rw[h2];rfl
   |false=>cases k==n<;>rfl
def g4u (x:Int) (m:List MapI):List MapI:=c3n MapI.key x (⟨x,wr .i64 ((a49 MapI.key MapI.val m x)+1)⟩:MapI) m
theorem e55 (x n:Int) (m:List MapI):a49 MapI.key MapI.val (g4u x m) n=bif x==n then wr .i64 (a49 MapI.key MapI.val m n+1) else a49 MapI.key MapI.val m n:=by
 unfold g4u a49;rw[d7k x n _ rfl];cases h:x==n with
 |true=>
  have e:x=n:=by simpa using h
  subst e;rfl
 |false=>rfl
theorem d7i:∀(l:List Int) (m:List MapI) (n:Int),0≤a49 MapI.key MapI.val m n→a49 MapI.key MapI.val m n+l.length<1000000000→a49 MapI.key MapI.val (l.foldl (fun s x=>g4u x s) m) n=a49 MapI.key MapI.val m n+tms l n:=by
 intro l
 induction l with
 |nil=>intro m n _ _;simp[tms]
 |cons x l ih=>
  intro m n h1 h2;have hl:((x::l).length:Int)=l.length+1:=by simp
  rw[ybn,d0e];have e:=e55 x n m;rw[a1h (by omega) (by omega)]at e;cases h:x==n with
  |true=>rw[h,yac]at e;rw[ih _ _ (by omega) (by omega),e,yac];omega
  |false=>rw[h,yaa]at e;rw[ih _ _ (by omega) (by omega),e,yaa];omega
theorem g85 {l:List Int} (hl:l.length<100000000):∃m,qau l=some (cs l,m)∧∀n,a49 MapI.key MapI.val m n=tms l n:=by
 have h:=a7x (step:=b55) (fun i m=>(l,l,(l.length:Int),(i:Int),m,())) l g4u (fun m=>(l,m,())) (by omega)
  (fun s=>by simp only[b55,dge,yaa])
  (fun i x s hx=>by
   have hi:=(zL hx)
   simp only[b55,dlt hi,d8,hx,yac,f7 (show i<9223372036854775807 by omega),g4u]) []
 refine ⟨l.foldl (fun s x=>g4u x s) [],?_,fun n=>?_⟩
 ·unfold qau;rw[show c9 b55 (l,l,(l.length:Int),0,([]:List MapI),())=_ from h];have hc:qep l=some l:=by
   unfold qep;rw[show decide (([]:List Int).length+l.length≤LIM)=true by rw[a4f,yae];simp only[yaU];omega,yac];rfl
  simp only[hc,a5t (show l.length<1000000000 by omega),a5r (show l.length<1000000000 by omega)]
 ·have e:a49 MapI.key MapI.val [] n=0:=rfl;rw[d7i l [] n (by rw[e];omega) (by rw[e];omega),e,Int.zero_add]
def itm (c:Circ) (n:Int):Item×Bool:=match c.Items.find? (fun x=>x.ID==n) with
 |some x=>(x,true)
 |none=>((⟨0,0,0,0,0,[],⟨0,0,0,0⟩⟩:Item),false)
theorem e6p {X Y:Type} {p:X→Bool} {d:Y} {f:X→Y}:∀(l:List X) (pre:List X),(match a2t (β:=Unit⊕(Int×Unit)) p (fun i _=>.inr ((i:Int),())) (.inl ()) pre.length l with
 |.inl _=>some d
 |.inr (v,_)=>(match n5 (pre++l) v with|some x=>some (f x)|none=>none))=some (match l.find? p with|some x=>f x|none=>d):=by
 intro l
 induction l with
 |nil=>intro pre;rfl
 |cons x l ih=>
  intro pre;simp only[a2t,List.find?_cons];cases hp:p x with
  |true=>
   simp only[yac,d8];rw[yaA (yau _)];simp
  |false=>
   simp only[yaa];have:=ih (pre++[x]);rw[yaP,ybl]at this;exact this
theorem f2i {c:Circ} (hc:c.Items.length<1000000000) (n:Int):qav c n=some (itm c n):=by
 have h:=u7 (step:=b3a (fun (g:Unit×Int×Unit) x0=>qb1 x0 g.2.1)) (fun i=>(c.Items,((),(n,())),(c.Items.length:Int),(i:Int),())) c.Items (fun x=>x.ID==n) (fun i _=>.inr ((i:Int),())) (.inl ()) hc
  (by simp only[b3a,dge,yaa])
  (fun i x hx=>by
   have hi:=(zL hx)
   simp only[b3a,dlt hi,d8,hx,yac,qb1,f7 (show i<9223372036854775807 by omega)])
 unfold qav qk;rw[show c9 (b3a (fun (g:Unit×Int×Unit) x0=>qb1 x0 g.2.1)) (c.Items,((),(n,())),(c.Items.length:Int),0,())=_ from h];have k:=e6p (p:=fun x:Item=>x.ID==n) (d:=((⟨0,0,0,0,0,[],⟨0,0,0,0⟩⟩:Item),false)) (f:=fun x=>(x,true)) c.Items [];have hpos:∀(l:List Item) (i:Nat) v,a2t (β:=Unit⊕(Int×Unit)) (fun x:Item=>x.ID==n) (fun i _=>.inr ((i:Int),())) (.inl ()) i l=.inr v→0≤v.1:=by
  intro l
  induction l with
  |nil=>intro i v h;cases h
  |cons x l ih=>
   intro i v h;simp only[a2t]at h;cases hx:x.ID==n with
   |true=>rw[hx,yac]at h;cases h;simp
   |false=>rw[hx,yaa]at h;exact ih _ _ h
 have hp:=hpos c.Items 0;simp only[yaU,ya7]at k;unfold itm;generalize a2t (β:=Unit⊕(Int×Unit)) (fun x:Item=>x.ID==n) (fun i _=>.inr ((i:Int),())) (.inl ()) 0 c.Items=r at k hp;rcases r with u|⟨v,u⟩
 ·simp only at k ⊢;rw[show decide ((-1:Int)<0)=true from rfl,yac,k];congr 1;cases c.Items.find? (fun x=>x.ID==n)<;>rfl
 ·simp only at k ⊢;have:=hp _ rfl;rw[show decide (v<0)=false by rw[yag];simp only at this;omega,yaa];cases hg:n5 c.Items v with
  |none=>rw[hg]at k;cases k
  |some x=>
   rw[hg]at k;simp only at k ⊢;rw[k];cases c.Items.find? (fun x=>x.ID==n)<;>rfl
end
section
open Go (IntKind Lit)
def pr (k n:Int):Problem:=⟨k,n,[],0⟩
theorem a6s {α β X:Type} {f:X→α} {fin:List α→β}:∀{l:List X} {i:Nat} {s:List α},a04 (fun _ x s=>.inl (s++[f x])) fin i l s=fin (s++l.map f):=by
 intro l
 induction l with
 |nil=>intro i s;simp[a04]
 |cons x l ih=>
  intro i s;simp only[a04];rw[ih];simp
def kn (b:Int):Bool:=decide (1≤b)&&decide (b≤4)
theorem d92 (b:Int):qca b=some (kn b):=by
 unfold qca kn;cases decide (1≤b)<;>rfl
def d9e (c:Circ) (b:Int) (l:List Int):List Int:=(d3y c b).filter (fun n=>tms l n==0)
theorem g6m {c:Circ} {b:Int} {ids v:List Int} {m:List MapI} {l:List Int} (hm:∀n,a49 MapI.key MapI.val m n=tms l n) (hv:v.length≤1000) :
 c9 c5k (b,ids,v,(v.length:Int),0,c,m,([]:List Int),())=some (b,ids,c,m,v.filter (fun n=>tms l n==0),()):=by
 have h:=n9 (step:=c5k) (fun i (s:List Int)=>s.length≤i) (fun i s=>(b,ids,v,(v.length:Int),(i:Int),c,m,s,())) v (fun _ x s=>.inl (bif tms l x==0 then s++[(fun x=>x) x] else s)) (fun s=>(b,ids,c,m,s,())) (by rw[m7];omega)
  (fun s hs=>by simp only[c5k,dge,yaa])
  (fun i x s hx hs=>by
   have hi:=(zL hx)
   have hlim:decide (s.length+([x]:List Int).length≤LIM)=true:=by rw[a4f,yae];simp only[yaD,yaU];omega
   constructor
   ·simp only[c5k,dlt hi,d8,hx,yac,hm,f7 (show i<9223372036854775807 by omega),hlim];cases tms l x==0<;>rfl
   ·intro s' e;injection e with e;subst e;cases tms l x==0<;>simp<;>omega) [] (ybD _)
 rw[show c9 c5k (b,ids,v,(v.length:Int),0,c,m,([]:List Int),())=_ from h,b6s];simp only[ya7,List.map_id']
def fnd (c:Circ) (b n:Int):Bool:=(itm c n).2&&(!kn b||!a7a b (itm c n).1)
def dup (l:List Int) (n:Int):Bool:=decide (1<tms l n)
def g8g (c:Circ) (b:Int) (l:List Int) (x:Int) (s:List Int×List Int×List Int):List Int×List Int×List Int:=
 (bif !(itm c x).2 then s.1++[x] else s.1,bif fnd c b x then s.2.1++[x] else s.2.1,bif dup l x then s.2.2++[x] else s.2.2)
theorem e6y {c:Circ} {b:Int} {l:List Int}:∀(v:List Int) (s:List Int×List Int×List Int),v.foldl (fun s x=>g8g c b l x s) s=(s.1++v.filter (fun n=>!(itm c n).2),s.2.1++v.filter (fnd c b),s.2.2++v.filter (dup l)):=by
 intro v
 induction v with
 |nil=>intro s;simp
 |cons x v ih=>
  intro s;rw[ybn,ih];simp only[g8g,ybh];cases (itm c x).2<;>cases fnd c b x<;>cases dup l x<;>simp
theorem d5n {c:Circ} {b:Int} {v:List Int} {m:List MapI} {l a:List Int} (hm:∀n,a49 MapI.key MapI.val m n=tms l n) (hv:v.length≤1000) (hc:c.Items.length<1000000000) :
 c9 a90 (b,v,(v.length:Int),0,c,m,a,([]:List Int),([]:List Int),([]:List Int),())=some (a,v.filter (fun n=>!(itm c n).2),v.filter (fnd c b),v.filter (dup l),()):=by
 have h:=n9 (step:=a90) (fun i (s:List Int×List Int×List Int)=>s.1.length≤i∧s.2.1.length≤i∧s.2.2.length≤i) (fun i s=>(b,v,(v.length:Int),(i:Int),c,m,a,s.1,s.2.1,s.2.2,())) v (fun _ x s=>.inl (g8g c b l x s)) (fun s=>(a,s.1,s.2.1,s.2.2,())) (by rw[m7];omega)
  (fun s hs=>by simp only[a90,dge,yaa])
  (fun i x s hx hs=>by
   have hi:=(zL hx)
   obtain ⟨h1,h2,h3⟩:=hs;obtain ⟨U,F,T⟩:=s;simp only at h1 h2 h3;have l1:decide (U.length+([x]:List Int).length≤LIM)=true:=by rw[a4f,yae];simp only[yaD,yaU];omega
   have l2:decide (F.length+([x]:List Int).length≤LIM)=true:=by rw[a4f,yae];simp only[yaD,yaU];omega
   have l3:decide (T.length+([x]:List Int).length≤LIM)=true:=by rw[a4f,yae];simp only[yaD,yaU];omega
   constructor
   ·simp -zeta only[a90,dlt hi,d8,hx,yac,hm,f2i hc,d92,d90,f7 (show i<9223372036854775807 by omega),l1,l2,l3,a0i];simp only[g8g,fnd,dup];rcases itm c x with ⟨y,is⟩;cases is<;>cases kn b<;>cases a7a b y<;>cases decide (1<tms l x)<;>rfl
   ·intro s' e;injection e with e;subst e;simp only[g8g];refine ⟨?_,?_,?_⟩
    ·cases !(itm c x).2<;>simp<;>omega
    ·cases fnd c b x<;>simp<;>omega
    ·cases dup l x<;>simp<;>omega) ([],[],[]) ⟨ybD _,ybD _,ybD _⟩
 rw[show c9 a90 (b,v,(v.length:Int),0,c,m,a,([]:List Int),([]:List Int),([]:List Int),())=_ from h,a1y,e6y];simp only[ya7]
theorem b92 {v:List Int} {s0:List Problem} {xa xb xc xd:List Int} (hv:v.length≤1000) (hs0:s0.length≤100000) :
 c9 qeu ((v.length:Int),0,s0,xa,xb,xc,xd,v,())=some (s0++v.map (pr 0),xa,xb,xc,xd,()):=by
 have h:=n9 (step:=qeu) (fun i (s:List Problem)=>s.length≤s0.length+i) (fun i s=>((v.length:Int),(i:Int),s,xa,xb,xc,xd,v,())) v (fun _ x s=>.inl (s++[pr 0 x])) (fun s=>(s,xa,xb,xc,xd,())) (by rw[m7];omega)
  (fun s hs=>by simp only[qeu,dge,yaa])
  (fun i x s hx hs=>by
   have hi:=(zL hx)
   have hlim:decide (s.length+([(⟨0,x,[],0⟩:Problem)]:List Problem).length≤LIM)=true:=by rw[a4f,yae];simp only[yaD,yaU];omega
   constructor
   ·simp only[qeu,dlt hi,d8,hx,yac,yaI,f7 (show i<9223372036854775807 by omega),hlim];rfl
   ·intro s' e;injection e with e;subst e;simp;omega) s0 (yau _)
 rw[show c9 qeu ((v.length:Int),0,s0,xa,xb,xc,xd,v,())=_ from h,a6s]
theorem b93 {v:List Int} {s0:List Problem} {xa xb xc:List Int} (hv:v.length≤1000) (hs0:s0.length≤100000) :
 c9 qet ((v.length:Int),0,s0,xa,xb,xc,v,())=some (s0++v.map (pr 1),xa,xb,xc,()):=by
 have h:=n9 (step:=qet) (fun i (s:List Problem)=>s.length≤s0.length+i) (fun i s=>((v.length:Int),(i:Int),s,xa,xb,xc,v,())) v (fun _ x s=>.inl (s++[pr 1 x])) (fun s=>(s,xa,xb,xc,())) (by rw[m7];omega)
  (fun s hs=>by simp only[qet,dge,yaa])
  (fun i x s hx hs=>by
   have hi:=(zL hx)
   have hlim:decide (s.length+([(⟨1,x,[],0⟩:Problem)]:List Problem).length≤LIM)=true:=by rw[a4f,yae];simp only[yaD,yaU];omega
   constructor
   ·simp only[qet,dlt hi,d8,hx,yac,yaI,f7 (show i<9223372036854775807 by omega),hlim];rfl
   ·intro s' e;injection e with e;subst e;simp;omega) s0 (yau _)
 rw[show c9 qet ((v.length:Int),0,s0,xa,xb,xc,v,())=_ from h,a6s]
theorem b94 {v:List Int} {s0:List Problem} {xa xb:List Int} (hv:v.length≤1000) (hs0:s0.length≤100000) :
 c9 qes ((v.length:Int),0,s0,xa,xb,v,())=some (s0++v.map (pr 2),xa,xb,()):=by
 have h:=n9 (step:=qes) (fun i (s:List Problem)=>s.length≤s0.length+i) (fun i s=>((v.length:Int),(i:Int),s,xa,xb,v,())) v (fun _ x s=>.inl (s++[pr 2 x])) (fun s=>(s,xa,xb,())) (by rw[m7];omega)
  (fun s hs=>by simp only[qes,dge,yaa])
  (fun i x s hx hs=>by
   have hi:=(zL hx)
   have hlim:decide (s.length+([(⟨2,x,[],0⟩:Problem)]:List Problem).length≤LIM)=true:=by rw[a4f,yae];simp only[yaD,yaU];omega
   constructor
   ·simp only[qes,dlt hi,d8,hx,yac,yaI,f7 (show i<9223372036854775807 by omega),hlim];rfl
   ·intro s' e;injection e with e;subst e;simp;omega) s0 (yau _)
 rw[show c9 qes ((v.length:Int),0,s0,xa,xb,v,())=_ from h,a6s]
theorem b95 {v:List Int} {s0:List Problem} {xa:List Int} (hv:v.length≤1000) (hs0:s0.length≤100000) :
 c9 qer ((v.length:Int),0,s0,xa,v,())=some (s0++v.map (pr 3),xa,()):=by
 have h:=n9 (step:=qer) (fun i (s:List Problem)=>s.length≤s0.length+i) (fun i s=>((v.length:Int),(i:Int),s,xa,v,())) v (fun _ x s=>.inl (s++[pr 3 x])) (fun s=>(s,xa,())) (by rw[m7];omega)
  (fun s hs=>by simp only[qer,dge,yaa])
  (fun i x s hx hs=>by
   have hi:=(zL hx)
   have hlim:decide (s.length+([(⟨3,x,[],0⟩:Problem)]:List Problem).length≤LIM)=true:=by rw[a4f,yae];simp only[yaD,yaU];omega
   constructor
   ·simp only[qer,dlt hi,d8,hx,yac,yaI,f7 (show i<9223372036854775807 by omega),hlim];rfl
   ·intro s' e;injection e with e;subst e;simp;omega) s0 (yau _)
 rw[show c9 qer ((v.length:Int),0,s0,xa,v,())=_ from h,a6s]
theorem b96 {v:List Int} {s0:List Problem} (hv:v.length≤1000) (hs0:s0.length≤100000) :
 c9 qeq ((v.length:Int),0,s0,v,())=some (s0++v.map (pr 4),()):=by
 have h:=n9 (step:=qeq) (fun i (s:List Problem)=>s.length≤s0.length+i) (fun i s=>((v.length:Int),(i:Int),s,v,())) v (fun _ x s=>.inl (s++[pr 4 x])) (fun s=>(s,())) (by rw[m7];omega)
  (fun s hs=>by simp only[qeq,dge,yaa])
  (fun i x s hx hs=>by
   have hi:=(zL hx)
   have hlim:decide (s.length+([(⟨4,x,[],0⟩:Problem)]:List Problem).length≤LIM)=true:=by rw[a4f,yae];simp only[yaD,yaU];omega
   constructor
   ·simp only[qeq,dlt hi,d8,hx,yac,yaI,f7 (show i<9223372036854775807 by omega),hlim];rfl
   ·intro s' e;injection e with e;subst e;simp;omega) s0 (yau _)
 rw[show c9 qeq ((v.length:Int),0,s0,v,())=_ from h,a6s]
def b91 (c:Circ) (b:Int) (l:List Int):List Problem:=
 (cs (bif kn b then d9e c b l else [])).map (pr 1)++((cs l).filter (fnd c b)).map (pr 2)++((cs l).filter (fun n=>!(itm c n).2)).map (pr 3)++((cs l).filter (dup l)).map (pr 4)
theorem a80 {l:List Int} (h:l.Pairwise (fun a b=>a<b)) (p:Int→Bool):(l.filter p).Pairwise (fun a b=>a<b):=h.sublist (List.filter_sublist ..)
theorem h15 {c:Circ} {b:Int} {l:List Int} (hc:c.Items.length≤10) (hl:l.length≤60):qb c b l=some (b91 c b l):=by
 obtain ⟨m,hcnt,hm⟩:=g85 (l:=l) (by omega);have hids:=c7o l;have hex:=b0m c b;have hmiss:(d9e c b l).length≤10:=yba (yax _ _) (by omega);have hU:=yax (fun n=>!(itm c n).2) (cs l);have hF:=yax (fnd c b) (cs l);have hT:=yax (dup l) (cs l);have aU:=b1q (a80 (c7n l) (fun n=>!(itm c n).2));have aF:=b1q (a80 (c7n l) (fnd c b));have aT:=b1q (a80 (c7n l) (dup l));have hM:=c7o (d9e c b l);unfold qb b91;rw[hcnt];simp only[d92];have z0:qbe ([]:List Int)=some (([]:List Int).mergeSort fun x y=>decide (x≤y)):=a5t (by simp);have z1:qbd ([]:List Int)=some []:=by
  have:=a5r (l:=[]) (by simp);rw[show (([]:List Int).mergeSort fun x y=>decide (x≤y))=[] by simp]at this;rw[this,b1q (l:=[]) List.Pairwise.nil]
 generalize hgU:(cs l).filter (fun n=>!(itm c n).2)=U at *;generalize hgF:(cs l).filter (fnd c b)=F at *;generalize hgT:(cs l).filter (dup l)=T at *;have q:∀(A:List Int),A.length≤10→A.length≤60:=fun A h=>by omega
 cases hk:kn b with
 |true=>
  simp only[yac,d9t (show c.Items.length<1000000000 by omega)];rw[g6m hm (show (d3y c b).length≤1000 by omega)];simp only;rw[d5n hm (show (cs l).length≤1000 by omega) (show c.Items.length<1000000000 by omega),hgU,hgF,hgT];simp only[z0,z1];rw[show c9 qeu _=_ from b92 (v:=[]) (s0:=[]) (xa:=(d3y c b).filter (fun n=>tms l n==0)) (xb:=U) (xc:=F) (xd:=T) (by simp) (by simp)];simp only[ya7,yb2];show (match qbe (d9e c b l) with|some l45=>_|none=>none)=_
  rw[a5t (show (d9e c b l).length<1000000000 by omega)];simp only[a5r (show (d9e c b l).length<1000000000 by omega)];rw[b93 (show (cs (d9e c b l)).length≤1000 by omega) (by simp)];simp only[ya7];rw[a5t (show F.length<1000000000 by omega)];simp only[a5r (show F.length<1000000000 by omega),aF];rw[b94 (show F.length≤1000 by omega) (by rw[ya1];omega)];simp only;rw[a5t (show U.length<1000000000 by omega)];simp only[a5r (show U.length<1000000000 by omega),aU];rw[b95 (show U.length≤1000 by omega) (by simp only[yaP,ya1];omega)];simp only;rw[a5t (show T.length<1000000000 by omega)];simp only[a5r (show T.length<1000000000 by omega),aT];rw[b96 (show T.length≤1000 by omega) (by simp only[yaP,ya1];omega)]
 |false=>
  simp only[yaa];rw[d5n hm (show (cs l).length≤1000 by omega) (show c.Items.length<1000000000 by omega),hgU,hgF,hgT];simp only[z0,z1];rw[show c9 qeu _=_ from b92 (v:=[]) (s0:=[]) (xa:=[]) (xb:=U) (xc:=F) (xd:=T) (by simp) (by simp)];simp only[ya7,yb2,z0];rw[show qbd (([]:List Int).mergeSort fun x y=>decide (x≤y))=some [] by rw[show (([]:List Int).mergeSort fun x y=>decide (x≤y))=[] by simp];exact z1];simp only;rw[show c9 qet _=_ from b93 (v:=[]) (s0:=[]) (xa:=U) (xb:=F) (xc:=T) (by simp) (by simp)];simp only[ya7,yb2];rw[a5t (show F.length<1000000000 by omega)];simp only[a5r (show F.length<1000000000 by omega),aF];rw[b94 (show F.length≤1000 by omega) (by simp)];simp only;rw[a5t (show U.length<1000000000 by omega)];simp only[a5r (show U.length<1000000000 by omega),aU];rw[b95 (show U.length≤1000 by omega) (by simp only[yaP,ya1,yaU];omega)];simp only;rw[a5t (show T.length<1000000000 by omega)];simp only[a5r (show T.length<1000000000 by omega),aT];rw[b96 (show T.length≤1000 by omega) (by simp only[yaP,ya1,yaU];omega)];rw[b1q (l:=[]) List.Pairwise.nil];rfl
end
section
open Go (IntKind Lit)
theorem e93:∀{l:List Int},l.Pairwise (fun a b=>a<b)→∀{i j:Nat} {x y:Int},l[i]?=some x→l[j]?=some y→i<j→x<y:=by
 intro l h i j x y hx hy hij;rw[ya2]at h;obtain ⟨h1,e1⟩:=yaG.1 hx;obtain ⟨h2,e2⟩:=yaG.1 hy;have:=h i j h1 h2 hij;omega
structure InvS (c:Circ):Prop where
 br:∀x∈c.Items,1≤x.Custody.Branch∧x.Custody.Branch≤4
 asc:(c.Items.map (·.ID)).Pairwise (fun a b=>a<b)
theorem h3b {c:Circ} (h:FitP c):InvS c:=by
 refine ⟨fun x hx=>?_,?_⟩
 ·have:=b43 h hx;unfold rng at this;simp only[yad,yae]at this;exact this
 ·rw[ya2];intro i j hi hj hij;rw[ya1]at hi hj;have:=a19 (key:=fun y:Item=>y.ID) (a1p h.items) j i c.Items[i] c.Items[j] hij (yab hi) (yab hj);simpa using this
theorem c47 {c:Circ} {n:Int} (h:(itm c n).2=true):(itm c n).1∈c.Items∧(itm c n).1.ID=n:=by
 unfold itm at h ⊢;cases hf:c.Items.find? (fun x=>x.ID==n) with
 |none=>rw[hf]at h;cases h
 |some x=>
  have:=ybp hf;exact ⟨yaV hf,by simpa using this⟩
end
section
open Go (IntKind Lit)
theorem g9k (c:Circ) (l:List Int):qdg c l=some ((b3p c&&a35 c)&&(decide ((l.length:Int)≤60)&&(h1d l==0))):=by
 unfold qdg;rw[h14];cases hs:b3p c with
 |false=>rfl
 |true=>
  simp only[yac,g8r (f4d hs).short];cases hr:a35 c with
  |false=>rfl
  |true=>
   cases hl:decide ((l.length:Int)≤60) with
   |false=>rfl
   |true=>
    rw[yae]at hl;simp only[yac,g80 (show l.length<1000000000 by omega)];rfl
theorem e54 {c:Circ} {b:Int} {l:List Int} (hc:c.Items.length≤10) (hl:l.length≤60):(b91 c b l).length≤190:=by
 have hids:=c7o l;have hex:=b0m c b;have hmiss:(d9e c b l).length≤10:=yba (yax _ _) (by omega);have hU:=yax (fun n=>!(itm c n).2) (cs l);have hF:=yax (fnd c b) (cs l);have hT:=yax (dup l) (cs l);have hM:=c7o (bif kn b then d9e c b l else []);have hM2:(bif kn b then d9e c b l else []).length≤10:=by cases kn b<;>simp<;>omega
 unfold b91;simp only[yaP,ya1];omega
end
section
open Go (IntKind Lit)
def g40 (c:Custody):Prop:=1≤c.State∧c.State≤12
theorem e4i (k:Int):1≤w9 k∧w9 k≤12:=by
 unfold w9;simp only[Bool.cond_eq_ite]
 repeat' split
 all_goals omega
theorem d4x {c:Custody} {m:Move} (h:((m5 c m).2==0)=true):g40 (m5 c m).1:=by
 have ha:=e4i m.Kind;unfold m5 at h ⊢;cases e1:(!(a7c c)||!(a7d m)) with
 |true=>rw[e1]at h;cases h
 |false=>
  rw[e1]at h;simp only[yaa]at h ⊢;cases e2:!(a5e c.State m.Kind) with
  |true=>rw[e2]at h;cases h
  |false=>
   rw[e2]at h;simp only[yaa]at h ⊢;cases e3:(m.Kind==3&&c.State==5&&!(m.Who==c.Who)) with
   |true=>rw[e3]at h;cases h
   |false=>
    rw[e3]at h;simp only[yaa]at h ⊢;cases e4:!(b4i c m) with
    |true=>rw[e4]at h;cases h
    |false=>
     simp only[yaa];cases (w9 m.Kind==2) with
     |true=>exact ha
     |false=>
      simp only[yaa];cases (w9 m.Kind==4||(w9 m.Kind==5||w9 m.Kind==8)) with
      |true=>exact ha
      |false=>
       simp only[yaa];cases e5:(w9 m.Kind==6) with
       |true=>exact ha
       |false=>
        simp only[yaa];cases (w9 m.Kind==9||w9 m.Kind==10) with
        |true=>exact ha
        |false=>exact ha
theorem d3c:∀{l:List Move} {i:Nat} {item:Int} {c d:Custody},g40 c→t6 i l item c=.inl d→g40 d:=by
 intro l
 induction l with
 |nil=>intro i item c d hc h;simp only[t6]at h;cases h;exact hc
 |cons x l ih=>
  intro i item c d hc h;simp only[t6]at h;cases e:x.Item==item with
  |false=>rw[e]at h;exact ih hc h
  |true=>
   rw[e]at h;simp only[yac]at h;cases e2:(m5 c x).2==0 with
   |true=>rw[e2]at h;exact ih (d4x e2) h
   |false=>rw[e2]at h;cases h
theorem c58 {c:Circ} {x:Item} (h:a0e c x=true):g40 x.Custody:=by
 unfold a0e at h;simp only[yan,yai,yaw,ya5]at h;obtain ⟨h1,h2⟩:=h;have e:=a0z.1 h2;rw[←e];unfold y9 at h1 ⊢;cases hb:(decide (x.Branch<1)||decide (4<x.Branch)) with
 |true=>rw[hb]at h1;cases h1
 |false=>
  rw[hb]at h1;simp only[yaa]at h1 ⊢;have hb2:g40 (a8w x.Branch):=⟨by show (1:Int)≤1;decide,by show (1:Int)≤12;decide⟩
  cases hr:t6 0 c.Moves x.ID (a8w x.Branch) with
  |inl d=>exact d3c hb2 hr
  |inr p=>
   rw[hr]at h1;exfalso;obtain ⟨i,e⟩:=p;simp only at h1;have key:∀(l:List Move) (i:Nat) (c:Custody) (p:Int×Int),t6 i l x.ID c=.inr p→p.2≠0:=by
    intro l
    induction l with
    |nil=>intro i c p h;simp only[t6]at h;cases h
    |cons y l ih=>
     intro i c p h;simp only[t6]at h;cases e:y.Item==x.ID with
     |false=>rw[e]at h;exact ih _ _ _ h
     |true=>
      rw[e]at h;simp only[yac]at h;cases e2:(m5 c y).2==0 with
      |true=>rw[e2]at h;exact ih _ _ _ h
      |false=>rw[e2]at h;cases h;simpa using e2
   exact key _ _ _ _ hr h1
theorem g74 {c:Circ} (h:FitP c) {x:Item} (hx:x∈c.Items):g40 x.Custody:=c58 (a4y h.items hx)
def e3y (a b:Option (Circ×Int)):Prop:=∃d e,a=some (d,e)∧b=some (d,e)∧(e=0→Inv d)∧Short d
theorem a8r {c:Circ} (I:Inv c) (item:Int):e3y (qcx c item) (qfm c item):=by
 obtain ⟨d,e,h1,h2,h3⟩:=d2c I.mid (item:=item);exact ⟨d,e,h1,h2,fun q=>by subst q;have R:=e8n I.val I.mid h2;exact I.of R.val R.stp,h3⟩
theorem c2q {c:Circ} (I:Inv c) (item branch:Int):e3y (qcs c item branch) (qe1 c item branch):=by
 obtain ⟨d,e,h1,h2,h3⟩:=b8j I.mid (item:=item) (branch:=branch);exact ⟨d,e,h1,h2,fun q=>by subst q;have R:=c54 I.val I.mid h2;exact I.of R.val R.stp,h3⟩
def b1c (c:Circ) (item branch:Int):Option (Circ×Int):=match qfn c item branch with
 |some (d,_,e)=>some (d,e)
 |none=>none
theorem b9f {c:Circ} (I:Inv c) (item branch:Int):e3y (qc3 c item branch) (b1c c item branch):=by
 have hl:=(b2h.1 I.val.loans).1;obtain ⟨d,n,e,h1,h2,h3⟩:=d0v I.mid I.fit (by omega) (item:=item) (branch:=branch);refine ⟨d,e,?_,?_,fun q=>by subst q;have R:=e4r I h2;exact I.of R.val R.stp,h3⟩
 ·unfold qc3;rw[h1]
 ·unfold b1c;rw[h2]
def lbR (c:Circ) (item branch:Int):Option (Circ×Int):=match qfm c item with
 |some (d,e)=>bif !(e==0) then some (o7,e) else b1c d item branch
 |none=>none
def f18 (c:Circ) (x:Item) (b:Int):Option (Circ×Int):=
 bif x.Custody.State==12 then some (c,0)
 else bif x.Custody.State==1 then qe1 c x.ID b
 else bif ((((x.Custody.State==6&&!(x.Custody.To==b))||x.Custody.State==2)||x.Custody.State==3)||x.Custody.State==5)||x.Custody.State==7 then lbR c x.ID b
 else b1c c x.ID b
theorem b65:∀{o r:Option (Circ×Int)},e3y o r→e3y (match o with|some (r7,r8)=>some (r7,r8)|none=>none) r:=by
 intro o r h;rcases o with _|⟨d,e⟩<;>exact h
theorem f96 {c:Circ} (I:Inv c) (item b:Int):e3y (match qcx c item with
 |some (r20,r21)=>bif !(r21==0) then some (ZN,r21) else (match qc3 r20 item b with|some (r23,r24)=>some (r23,r24)|none=>none)
 |none=>none) (lbR c item b):=by
 obtain ⟨d,e,h1,h2,h3,h4⟩:=a8r I item;unfold lbR;rw[h1,h2];simp only;by_cases he:e=0
 ·subst he;simp only[yal,yam,yaa];exact b65 (b9f (h3 rfl) item b)
 ·rw[show (e==0)=false by simpa using he];exact ⟨o7,e,rfl,rfl,fun q=>absurd q he,a3t⟩
theorem b97 {c:Circ} (I:Inv c) {x:Item} (hx:x∈c.Items) (b:Int):e3y (qc6 c x b) (f18 c x b):=by
 obtain ⟨s1,s2⟩:=g74 I.fit hx;have lb:=f96 I x.ID b;have bk:=b65 (b9f I x.ID b);unfold qc6 f18;have hs:x.Custody.State=1∨x.Custody.State=2∨x.Custody.State=3∨x.Custody.State=4∨x.Custody.State=5∨x.Custody.State=6∨x.Custody.State=7∨x.Custody.State=8∨x.Custody.State=9∨x.Custody.State=10∨x.Custody.State=11∨x.Custody.State=12:=by omega
 rcases hs with h|h|h|h|h|h|h|h|h|h|h|h<;>rw[h]
 ·exact b65 (c2q I x.ID b)
 ·exact lb
 ·exact lb
 ·exact bk
 ·exact lb
 ·cases ht:x.Custody.To==b with
  |true=>exact bk
  |false=>exact lb
 ·exact lb
 ·exact bk
 ·exact bk
 ·exact bk
 ·exact bk
 ·exact ⟨c,0,rfl,rfl,fun _=>I,I.short⟩
theorem d9g {c:Circ} (I:Inv c):qq c 0=some (-1):=by
 rcases a1d I.mid 0 with ⟨-,h,-⟩|⟨i,x,-,-,hx,h0,-⟩
 ·exact h
 ·have:=a1o I.val.items (yaf hx);omega
theorem a9t {c:Circ} (I:Inv c) (b:Int):e3y (qc6 c (⟨0,0,0,0,0,[],⟨0,0,0,0⟩⟩:Item) b) (f18 c (⟨0,0,0,0,0,[],⟨0,0,0,0⟩⟩:Item) b):=by
 have h0:=d9g I;have l:qfm c 0=some (o7,9):=by unfold qfm;rw[h0];rfl
 have k:b1c c 0 b=some (o7,9):=by unfold b1c qfn;rw[h0];rfl
 obtain ⟨d,e,h1,h2,h3,h4⟩:=a8r I 0;rw[l]at h2;cases h2
 refine ⟨o7,9,?_,k,fun q=>(by cases q),a3t⟩;show (match qcx c 0 with
  |some (r20,r21)=>bif !(r21==0) then some (ZN,r21) else (match qc3 r20 0 b with|some (r23,r24)=>some (r23,r24)|none=>none)
  |none=>none)=_
 rw[h1];rfl
theorem d1m {c:Circ} (I:Inv c) (n b:Int):e3y (qc6 c (itm c n).1 b) (f18 c (itm c n).1 b):=by
 cases h:(itm c n).2 with
 |true=>exact b97 I (c47 h).1 b
 |false=>
  have e:(itm c n).1=(⟨0,0,0,0,0,[],⟨0,0,0,0⟩⟩:Item):=by
   unfold itm at h ⊢;cases hf:c.Items.find? (fun x=>x.ID==n) with
   |none=>rfl
   |some x=>rw[hf]at h;cases h
  rw[e];exact a9t I b
def h0y (b:Int) (p:Problem) (c:Circ):Option (Circ×Int):=
 bif p.Kind==1&&a7a b (itm c p.Index).1 then qfm c (itm c p.Index).1.ID
 else bif p.Kind==2&&!a7a b (itm c p.Index).1 then f18 c (itm c p.Index).1 b
 else some (c,0)
def h2o (b:Int) (p:Problem) (c:Circ):Option (Circ×Int):=
 bif p.Kind==1&&a7a b (itm c p.Index).1 then qcx c (itm c p.Index).1.ID
 else bif p.Kind==2&&!a7a b (itm c p.Index).1 then qc6 c (itm c p.Index).1 b
 else some (c,0)
theorem b00 {c:Circ} (I:Inv c) (b:Int) (p:Problem):e3y (h2o b p c) (h0y b p c):=by
 unfold h2o h0y;cases p.Kind==1&&a7a b (itm c p.Index).1 with
 |true=>exact a8r I _
 |false=>
  cases p.Kind==2&&!a7a b (itm c p.Index).1 with
  |true=>exact d1m I _ b
  |false=>exact ⟨c,0,rfl,rfl,fun _=>I,I.short⟩
abbrev g46:=(Circ×Circ×Unit)⊕(Int×Circ×Unit)
def e38 (b:Int) (p:Problem) (c:Circ):Circ⊕g46:=match h0y b p c with
 |some (d,e)=>bif e==0 then .inl d else .inr (.inr (e,o7,()))
 |none=>.inl c
def h0x (b:Int) (ps:List Problem) (c:Circ):g46:=a04 (fun _ p s=>e38 b p s) (fun s=>.inl (s,o7,())) 0 ps c
theorem e9a {c:Circ} (I:Inv c) {b:Int} {p:Problem} {d:Circ} (h:e38 b p c=.inl d):Inv d:=by
 obtain ⟨d',e,-,h2,h3,-⟩:=b00 I b p;unfold e38 at h;rw[h2]at h;simp only at h;by_cases he:e=0
 ·subst he;cases h;exact h3 rfl
 ·rw[show (e==0)=false by simpa using he]at h;cases h
theorem b7y {c:Circ} (I:Inv c) {b:Int} {ps:List Problem} (hp:ps.length≤1000):c9 b5o (b,ps,(ps.length:Int),0,c,o7,())=some (h0x b ps c):=by
 have h:=n9 (step:=b5o) (fun _ s=>Inv s) (fun i s=>(b,ps,(ps.length:Int),(i:Int),s,o7,())) ps (fun _ p s=>e38 b p s) (fun s=>.inl (s,o7,())) (by rw[m7];omega)
  (fun s hs=>by simp only[b5o,dge,yaa])
  (fun i p s hx hs=>by
   have hi:=(zL hx)
   refine ⟨?_,fun s' e=>e9a hs e⟩;have hsi:=hs.short.items;obtain ⟨d,e,h1,h2,h3,-⟩:=b00 hs b p;simp -zeta only[b5o,dlt hi,d8,hx,yac,f2i hsi,d90,f7 (show i<9223372036854775807 by omega)];unfold e38;rw[h2];unfold h2o at h1;cases k1:p.Kind==1 with
   |true=>
    have k2:(p.Kind==2)=false:=by
     have:p.Kind=1:=by simpa using k1
     rw[this];rfl
    rw[k1,k2]at h1;rw[k2];cases hb:a7a b (itm s p.Index).1 with
    |true=>rw[hb]at h1;simp only[yac,yaa,yaQ,ya9,yam,yaq]at h1 ⊢;rw[h1];simp only;cases e==0<;>rfl
    |false=>rw[hb]at h1;simp only[yac,yaa,yaQ,ya9,yam,yaq]at h1 ⊢;cases h1;rfl
   |false=>
    rw[k1]at h1;cases k2:p.Kind==2 with
    |true=>
     rw[k2]at h1;cases hb:a7a b (itm s p.Index).1 with
     |true=>rw[hb]at h1;simp only[yac,yaa,yaQ,ya9,yam,yaq]at h1 ⊢;cases h1;rfl
     |false=>rw[hb]at h1;simp only[yac,yaa,yaQ,ya9,yam,yaq]at h1 ⊢;rw[h1];simp only;cases e==0<;>rfl
    |false=>rw[k2]at h1;simp only[yac,yaa,yaQ,ya9,yam,yaq]at h1 ⊢;cases h1;rfl) c I
 exact h
end
section
open Go (IntKind Lit)
def e39 (b:Int) (ps:List Problem) (c:Circ):Circ×Int:=match h0x b ps c with
 |.inl (d,_)=>(d,0)
 |.inr (e,d,_)=>(d,e)
theorem g8v {c:Circ} (I:Inv c) {b:Int} {l:List Int} (hc:c.Items.length≤10) (hl:l.length≤60):qa7 c b l=some (bif kn b then e39 b (b91 c b l) c else (o7,2)):=by
 have hp:=e54 (b:=b) hc hl;unfold qa7;simp only[d92,h15 hc hl];have hw:=b7y I (b:=b) (ps:=b91 c b l) (by omega);unfold o7 at hw;rw[hw];unfold e39;cases kn b with
 |false=>rfl
 |true=>rcases h0x b (b91 c b l) c with ⟨d,v,u⟩|⟨e,d,u⟩<;>rfl
theorem d0b {b:Int}:∀(ps:List Problem) (i:Nat) (c:Circ),Inv c→(∃d,a04 (fun (_:Nat) p s=>e38 b p s) (fun s=>(.inl (s,o7,()):g46)) i ps c=.inl (d,o7,())∧Inv d)∨(∃e,a04 (fun (_:Nat) p s=>e38 b p s) (fun s=>(.inl (s,o7,()):g46)) i ps c=.inr (e,o7,())∧e≠0):=by
 intro ps
 induction ps with
 |nil=>intro i c I;exact .inl ⟨c,rfl,I⟩
 |cons p ps ih=>
  intro i c I;obtain ⟨d,e,-,h2,h3,-⟩:=b00 I b p;simp only[a04];unfold e38;rw[h2];simp only;by_cases he:e=0
  ·subst he;exact ih (i+1) d (h3 rfl)
  ·rw[show (e==0)=false by simpa using he];exact .inr ⟨e,rfl,he⟩
theorem e9c {b:Int} {ps:List Problem} {c:Circ} (I:Inv c):Short (e39 b ps c).1∧((e39 b ps c).2=0→Inv (e39 b ps c).1):=by
 unfold e39 h0x;rcases d0b (b:=b) ps 0 c I with ⟨d,h1,h2⟩|⟨e,h1,h2⟩
 ·rw[h1];exact ⟨h2.short,fun _=>h2⟩
 ·rw[h1];exact ⟨a3t,fun q=>absurd q h2⟩
end
section
open Go (IntKind Lit)
theorem g79 {c:Circ} (h:InvS c) {x:Item} (hx:x∈c.Items):itm c x.ID=(x,true):=by
 unfold itm;have hn:(c.Items.map (·.ID)).Pairwise (fun a b=>a<b):=h.asc;cases hf:c.Items.find? (fun y=>y.ID==x.ID) with
 |none=>
  have:=ybs.1 hf x hx;simp at this
 |some y=>
  have hy:=yaV hf;have he:y.ID=x.ID:=by have:=ybp hf;simpa using this
  obtain ⟨i,hi⟩:=yaF hx;obtain ⟨j,hj⟩:=yaF hy;have hi2:(c.Items.map (·.ID))[i]?=some x.ID:=by rw[yaM,hi];rfl
  have hj2:(c.Items.map (·.ID))[j]?=some y.ID:=by rw[yaM,hj];rfl
  rcases Nat.lt_trichotomy i j with q|q|q
  ·have:=e93 hn hi2 hj2 q;omega
  ·subst q;rw[hi]at hj;cases hj;rfl
  ·have:=e93 hn hj2 hi2 q;omega
end
section
open Go (IntKind Lit)
def b4r (j b:Int) (c d:Circ):Prop:=∀y∈d.Items,y.ID≠j→a7a b y=true→∃x∈c.Items,x.ID=y.ID∧a7a b x=true
def d0j (j b:Int) (d:Circ):Prop:=∀y∈d.Items,y.ID=j→a7a b y=false
theorem b4r.refl (j b:Int) (c:Circ):b4r j b c c:=fun y hy _ he=>⟨y,hy,rfl,he⟩
theorem b4r.trans {j b:Int} {c d e:Circ} (h:b4r j b c d) (k:b4r j b d e):b4r j b c e:=fun y hy hne he=>by
 obtain ⟨x,hx,hi,hb⟩:=k y hy hne he;obtain ⟨z,hz,hj,hc⟩:=h x hx (by rw[hi];exact hne) hb;exact ⟨z,hz,hj.trans hi,hc⟩
theorem b4r.of {j b:Int} {c d e:Circ} (h:b4r j b c d) (k:e.Items=d.Items):b4r j b c e:=fun y hy=>h y (by rw[←k];exact hy)
theorem a5z {c d:Circ} {i:Nat} {x:Item} {u:Custody} (hi:a0g c=true) (hx:c.Items[i]?=some x) (h:d.Items=c.Items.set i (t8 u x)) (b:Int):b4r x.ID b c d:=by
 intro y hy hne he;rw[h,a1s hi hx]at hy;rcases hy with ⟨hy,_⟩|rfl
 ·exact ⟨y,hy,rfl,he⟩
 ·exact absurd rfl hne
theorem d66 {b:Int} {x y:Item} (h:y.Custody=x.Custody∨(x.Custody.State=3∧y.Custody.Branch=x.Custody.Branch)) (he:a7a b y=true):a7a b x=true:=by
 rcases h with h|⟨h1,h2⟩
 ·unfold a7a at he ⊢;rw[←h];exact he
 ·unfold a7a at he ⊢;rw[←h2,h1];rw[yad]at he;rw[he.1];rfl
theorem d67 {b:Int} {x:Item} (h2:x.Custody.State≠2) (h3:x.Custody.State≠3) (h5:x.Custody.State≠5):a7a b x=false:=by
 unfold a7a;rw[show (x.Custody.State==2)=false by simpa using h2,show (x.Custody.State==3)=false by simpa using h3,show (x.Custody.State==5)=false by simpa using h5,Bool.or_self,Bool.or_self,Bool.and_false]
theorem b01 {c d:Circ} {i:Nat} {x:Item} {u:Custody} (hi:a0g c=true) (hx:c.Items[i]?=some x) (h:d.Items=c.Items.set i (t8 u x)) {b:Int} (hu:a7a b (t8 u x)=false):d0j x.ID b d:=by
 intro y hy he;rw[h,a1s hi hx]at hy;rcases hy with ⟨_,hne⟩|rfl
 ·exact absurd he hne
 ·exact hu
theorem c9t {c d:Circ} (v:Val 0 c) (m:MidP c) {item:Int} (b:Int) (e:qfm c item=some (d,0)):b4r item b c d∧d0j item b d:=by
 unfold qfm at e;rcases a1d m item with ⟨-,h2,-⟩|⟨i,x,-,h2,hx,rfl,-⟩
 ·rw[h2]at e;cases e
 rw[h2]at e;simp -zeta only[a39,yaa,d8,hx,a0i]at e;dsimp only at e;have hm0:=yaf hx;have hid:=a1o v.items hm0;cases hs:x.Custody.State==4||x.Custody.State==9 with
 |true=>
  rw[hs]at e;simp only[yac]at e;have hs2:x.Custody.State=4∨x.Custody.State=9:=by simpa using hs
  rcases e1:qfb c x.ID 12 x.Custody.Branch 0 with _|⟨c1,f⟩
  ·rw[e1]at e;cases e
  rw[e1]at e;dsimp only at e;have hz:=d43 e;clear e;obtain ⟨rfl,e⟩:=hz;have r1:=c7z v m hx hs2 e1 (.inr rfl);obtain ⟨u,ha,hlen,hc1,m1⟩:=a0s m hx e1;have hu:u.State=10:=by rw[(b9d ha).res];rfl
  have hI:c1.Items=c.Items.set i (t8 u x):=by rw[hc1];rfl
  have hx0:a7a b (t8 u x)=false:=d67 (by show u.State≠2;omega) (by show u.State≠3;omega) (by show u.State≠5;omega);cases hp:x.Price==0 with
  |true=>
   rw[hp]at e;cases e
   exact ⟨a5z v.items hx hI b,b01 v.items hx hI hx0⟩
  |false=>
   rw[hp]at e;have e:=d0w e;obtain ⟨n,hn,hni⟩:=v.itemL x hm0 (by omega) (a63 (by omega));have hw:x.Custody.Who=n.Patron:=by
    obtain ⟨y,hy,hi,hw⟩:=v.loanI n hn;have:=u6 v.items hy hm0 (hi.trans hni);subst this;exact (hw (by omega)).2
   have hpk:(a3j c1.Patrons x.Custody.Who).2=true:=by
    rw[hw,hc1];exact v.loanP n hn
   obtain ⟨-,-,ch,nc,rfl⟩:=a7m r1.val m1 hpk e;exact ⟨a5z v.items hx hI b,b01 v.items hx hI hx0⟩
 |false=>
  rw[hs]at e;simp only[yaa]at e;have hs2:¬(x.Custody.State=4∨x.Custody.State=9):=by simpa using hs
  rcases e1:qfb c x.ID 13 x.Custody.Branch 0 with _|⟨c1,f⟩
  ·rw[e1]at e;cases e
  rw[e1]at e;dsimp only at e;have hz:=d43 e;clear e;obtain ⟨rfl,e⟩:=hz;have hst:x.Custody.State∈([2,3,5,6,7]:List Int):=a7r m hx e1;have hst:x.Custody.State=2∨x.Custody.State=3∨x.Custody.State=5∨x.Custody.State=6∨x.Custody.State=7:=by simpa using hst
  obtain ⟨u,ha,hlen,rfl,m1⟩:=a0s m hx e1;have hu:u.State=11:=by rw[(b9d ha).res];rfl
  have v1:=(v.weak x.ID).move hx rfl ha hlen;have hx0:a7a b (t8 u x)=false:=d67 (by show u.State≠2;omega) (by show u.State≠3;omega) (by show u.State≠5;omega);have hlf:=v.lfree hm0 (a8s (by omega) (by omega) (by omega));have hm:t8 u x∈(p7 c i x ⟨c.Today,x.ID,13,x.Custody.Branch,0⟩ u).Items:=(a2x v.items hx).2 (.inr rfl);have hnp:¬a1j (t8 u x).Custody=true:=by
   rw[a8s (x:=t8 u x) (by show u.State≠4;omega) (by show u.State≠9;omega) (by show u.State≠10;omega)]
   decide
  have hcl:∀c2:Circ,c2.Items=(p7 c i x ⟨c.Today,x.ID,13,x.Custody.Branch,0⟩ u).Items→c2.Loans=c.Loans→Val x.ID c2→b8z c2 x.ID→Val 0 c2:=by
   intro c2 hI hL v2 hf;refine v2.close (x:=t8 u x) (by rw[hI];exact hm) rfl (fun n hn e=>absurd e (hlf n (by rw[←hL];exact hn))) (fun h=>absurd h hnp) (fun h hh hs1 hg=>absurd hg (hf h hh hs1)) (fun h=>?_);rw[show (t8 u x).Custody=u from rfl]at h;omega
  have hI:(p7 c i x ⟨c.Today,x.ID,13,x.Custody.Branch,0⟩ u).Items=c.Items.set i (t8 u x):=rfl;rw[a8u m1.short.holds]at e;dsimp only at e;cases hc:(o3 (p7 c i x ⟨c.Today,x.ID,13,x.Custody.Branch,0⟩ u) x.ID).2 with
  |false=>
   rw[hc]at e;cases e
   exact ⟨a5z v.items hx hI b,b01 v.items hx hI hx0⟩
  |true=>
   rw[hc]at e;simp only[yam,yaa]at e;rw[e0b m1.short.holds m1.sorted]at e;dsimp only at e;rcases hd:a89 (p7 c i x ⟨c.Today,x.ID,13,x.Custody.Branch,0⟩ u).Holds x.ID with ⟨l,f⟩;rw[hd]at e;dsimp only at e;have hz:=d43 e;clear e;obtain ⟨rfl,e⟩:=hz;have e:=d0w e;have hk:=b1y (l:=(p7 c i x ⟨c.Today,x.ID,13,x.Custody.Branch,0⟩ u).Holds) (item:=x.ID) (by rw[hd]);rw[hd]at hk;have m2:=a6i m1 hk;obtain ⟨o,ho,hg,rfl⟩:=c7q m1.sorted hd;have hsh:=b4z (a01 v1.holds ho);have v2:=v1.swap ho (p:=b44 o 0 1 0) rfl rfl rfl hsh (fun z hz q=>absurd (show (0:Int)<0 from q) (by decide)) (.inr hg) (fun q=>absurd rfl q);have v3:=hcl (u9 (p7 c i x ⟨c.Today,x.ID,13,x.Custody.Branch,0⟩ u) (b3q (p7 c i x ⟨c.Today,x.ID,13,x.Custody.Branch,0⟩ u).Holds o.ID (b44 o 0 1 0))) rfl rfl v2 (fun p hp hs1 hpg=>by
    rcases (a2y ho).1 hp with ⟨hp,hne⟩|rfl
    ·have:=c4z v1.holds ho hp (by rw[hg];omega) (hg.trans hpg.symm);subst this;exact hne rfl
    ·exact hs1 rfl)
   have I:=c9f m2 v3 e;have n1:=a5z v.items hx hI b;have g1:=b01 v.items hx hI hx0;refine ⟨fun y hy hne he=>?_,fun y hy he=>?_⟩
   ·obtain ⟨z,hz,hzi,hzc⟩:=I.kin y hy;obtain ⟨w,hw,hwi,hwb⟩:=n1 z hz (by rw[hzi];exact hne) (d66 hzc he);exact ⟨w,hw,hwi.trans hzi,hwb⟩
   ·obtain ⟨z,hz,hzi,hzc⟩:=I.kin y hy;have hzf:=g1 z hz (hzi.trans he);cases hq:a7a b y with
    |false=>rfl
    |true=>rw[d66 hzc hq]at hzf;cases hzf
theorem c68 {c d:Circ} (hi:a0g c=true) (m:MidP c) {i:Nat} {x:Item} (hx:c.Items[i]?=some x) (b:Int) (e:qfk c x.ID=some (d,0)):b4r x.ID b c d:=by
 obtain ⟨u,hI,-⟩:=c67 hx (b0j m hx e);exact a5z hi hx hI b
theorem c53 {c d:Circ} (v:Val 0 c) (m:MidP c) {item branch:Int} (b:Int) (e:qe1 c item branch=some (d,0)):b4r item b c d:=by
 unfold qe1 at e;rcases a1d m item with ⟨-,h2,-⟩|⟨i,x,-,h2,hx,rfl,-⟩
 ·rw[h2]at e;cases e
 ·rw[h2]at e;simp only[a39,yaa]at e;rcases e1:qfb c x.ID 1 branch 0 with _|⟨c1,f⟩
  ·rw[e1]at e;cases e
  rw[e1]at e;have hz:=d43 e;clear e;obtain ⟨rfl,e2⟩:=hz;have e2:=d0w e2;obtain ⟨u,ha,hlen,rfl,m1⟩:=a0s m hx e1;have v1:=(v.weak x.ID).move hx rfl ha hlen;exact (a5z v.items hx rfl b).trans (c68 v1.items m1 (a3k hx _ u) b e2)
theorem c97 {c1 d:Circ} {n:Int} {i:Nat} {x1:Item} (hi:a0g c1=true) (m1:MidP c1) (hx:c1.Items[i]?=some x1) (b:Int) (e:c55 x1.ID 0 c1=some (d,n,0)):b4r x1.ID b c1 d:=by
 unfold c55 at e;simp only[yal,yam,yaa]at e;rw[a8u m1.short.holds]at e;dsimp only at e;have fin:∀{o:Option (Circ×Int)},(match o with
  |some (d,f)=>(bif !(f==0) then some (o7,0,f) else match qai d x1.ID with
   |some (r,_)=>some (d,r.ID,0)
   |none=>none)
  |none=>none)=some (d,n,0)→o=some (d,0):=by
  intro o e;cases o with
  |none=>cases e
  |some p=>
   obtain ⟨d2,f⟩:=p;dsimp only at e;have hz:=g6c e;clear e;obtain ⟨rfl,e⟩:=hz;cases hc:qai d2 x1.ID with
   |none=>rw[hc]at e;cases e
   |some q=>rw[hc]at e;cases e;rfl
 cases hc:(o3 c1 x1.ID).2 with
 |false=>
  rw[hc]at e;exact c68 hi m1 hx b (fin e)
 |true=>
  rw[hc]at e;obtain ⟨u,l,un,ha,hlen,hcc,rfl⟩:=b3d m1 hx (fin e);exact a5z hi hx rfl b
theorem e4q {c d:Circ} {n:Int} (I:Inv c) {item branch:Int} (b:Int) (e:qfn c item branch=some (d,n,0)):b4r item b c d:=by
 have v:=I.val;have m:=I.mid;rcases a1d m item with ⟨-,h2,-⟩|⟨i,x,-,h2,hx,rfl,-⟩
 ·unfold qfn at e;rw[h2]at e;cases e
 rw[d99 m.short h2 hx]at e;have bad:∀{f:Int} {c1:Circ},¬f=0→c55 x.ID f c1=some (d,n,0)→False:=by
  intro f c1 hf e;unfold c55 at e;rw[show (f==0)=false by simpa using hf]at e;cases e
  exact hf rfl
 have mv:∀kind:Int,c3m x.ID (qfb c x.ID kind branch 0)=some (d,n,0)→b4r x.ID b c d:=by
  intro kind e;unfold c3m at e;rcases e1:qfb c x.ID kind branch 0 with _|⟨c1,f⟩
  ·rw[e1]at e;cases e
  rw[e1]at e;dsimp only at e;by_cases hf:f=0
  ·subst hf;obtain ⟨u,ha,hlen,hc1,m1⟩:=a0s m hx e1;subst hc1;have v1:=(v.weak x.ID).move hx rfl ha hlen;exact (a5z v.items hx rfl b).trans (c97 v1.items m1 (a3k hx _ u) b e)
  ·exact (bad hf e).elim
 cases hp:a1j x.Custody with
 |true=>
  rw[hp]at e;simp only[yac]at e;cases hb:(decide (branch<1)||decide (4<branch)) with
  |true=>rw[hb]at e;cases e
  |false=>
   rw[hb]at e;simp only[yaa]at e;unfold c3m at e;rcases e1:qex c x.ID branch with _|⟨c1,f⟩
   ·rw[e1]at e;cases e
   rw[e1]at e;dsimp only at e;by_cases hf:f=0
   ·subst hf;have R:=a92 I hx e1;have hlt:=(zL hx)
    exact (a5z v.items hx R.items b).trans (c97 (i:=i) (x1:=t8 ⟨2,branch,0,0⟩ x) R.val.items R.mid (by rw[R.items,ybt hlt]) b e)
   ·exact (bad hf e).elim
 |false=>
  rw[hp]at e;simp only[yaa]at e;cases h8:x.Custody.State==8 with
  |true=>rw[h8]at e;exact mv 4 e
  |false=>
   rw[h8]at e;simp only[yaa]at e;cases h11:x.Custody.State==11 with
   |true=>rw[h11]at e;exact mv 14 e
   |false=>
    rw[h11]at e;simp only[yaa]at e;cases h6:x.Custody.State==6 with
    |true=>rw[h6]at e;exact mv 7 e
    |false=>rw[h6]at e;cases e
theorem b9e {c d:Circ} (I:Inv c) {item branch:Int} (b:Int) (e:b1c c item branch=some (d,0)):b4r item b c d:=by
 unfold b1c at e;rcases h:qfn c item branch with _|⟨d2,n,f⟩
 ·rw[h]at e;cases e
 ·rw[h]at e;cases e
  exact e4q I b h
theorem f95 {c d:Circ} (I:Inv c) {item branch:Int} (b:Int) (e:lbR c item branch=some (d,0)):b4r item b c d:=by
 unfold lbR at e;obtain ⟨c1,f,-,h2,h3,-⟩:=a8r I item;rw[h2]at e;simp only at e;by_cases hf:f=0
 ·subst hf;exact (c9t I.val I.mid b h2).1.trans (b9e (h3 rfl) b e)
 ·rw[show (f==0)=false by simpa using hf]at e;cases e
  exact absurd rfl hf
theorem e6q {c d:Circ} (I:Inv c) {x:Item} {branch:Int} (b:Int) (e:f18 c x branch=some (d,0)):b4r x.ID b c d:=by
 unfold f18 at e;cases h12:x.Custody.State==12 with
 |true=>rw[h12]at e;cases e;exact .refl _ _ _
 |false=>
  rw[h12,yaa]at e;cases h1:x.Custody.State==1 with
  |true=>rw[h1]at e;exact c53 I.val I.mid b e
  |false=>
   rw[h1,yaa]at e;cases hq:((((x.Custody.State==6&&!(x.Custody.To==branch))||x.Custody.State==2)||x.Custody.State==3)||x.Custody.State==5)||x.Custody.State==7 with
   |true=>rw[hq]at e;exact f95 I b e
   |false=>rw[hq]at e;exact b9e I b e
theorem e6i (b:Int):a7a b (⟨0,0,0,0,0,[],⟨0,0,0,0⟩⟩:Item)=false:=d67 (by decide) (by decide) (by decide)
theorem c7y {c:Circ} {n:Int} (h:(itm c n).2=false):(itm c n).1=(⟨0,0,0,0,0,[],⟨0,0,0,0⟩⟩:Item):=by
 unfold itm at h ⊢;cases hf:c.Items.find? (fun x=>x.ID==n) with
 |none=>rfl
 |some x=>rw[hf]at h;cases h
theorem e9b {c d:Circ} (I:Inv c) {b:Int} {p:Problem} (e:h0y b p c=some (d,0)):b4r p.Index b c d∧(p.Kind=1→d0j p.Index b d):=by
 unfold h0y at e;cases h1:p.Kind==1&&a7a b (itm c p.Index).1 with
 |true=>
  rw[h1,yac]at e;rw[yad]at h1;have hf:(itm c p.Index).2=true:=by
   cases h:(itm c p.Index).2 with
   |true=>rfl
   |false=>rw[c7y h,e6i]at h1;cases h1.2
  rw[(c47 hf).2]at e;have:=c9t I.val I.mid b e;exact ⟨this.1,fun _=>this.2⟩
 |false=>
  rw[h1,yaa]at e;have gone:p.Kind=1→d0j p.Index b c:=fun hk y hy hi=>by
   rw[show (p.Kind==1)=true by simpa using hk,yaQ,←hi,g79 (h3b I.fit) hy]at h1;exact h1
  cases h2:p.Kind==2&&!a7a b (itm c p.Index).1 with
  |true=>
   rw[h2,yac]at e;rw[yad,ya5]at h2;refine ⟨?_,fun hk=>by omega⟩;cases hf:(itm c p.Index).2 with
   |true=>have:=e6q I b e;rw[(c47 hf).2]at this;exact this
   |false=>
    rw[c7y hf]at e;obtain ⟨d',e',-,q2,-⟩:=a9t I b;rw[e]at q2;cases q2
    have h0:=d9g I;have k:b1c c 0 b=some (o7,9):=by unfold b1c qfn;rw[h0];rfl
    rw[show f18 c (⟨0,0,0,0,0,[],⟨0,0,0,0⟩⟩:Item) b=b1c c 0 b from rfl,k]at e;cases e
  |false=>
   rw[h2,yaa]at e;cases e
   exact ⟨.refl _ _ _,gone⟩
theorem e3c {b id:Int}:∀(ps:List Problem) (i:Nat) (c:Circ),Inv c→(∀p∈ps,p.Index=id→p.Kind=1)→(d0j id b c∨pr 1 id∈ps)→∀d,a04 (fun (_:Nat) p s=>e38 b p s) (fun s=>(.inl (s,o7,()):g46)) i ps c=.inl (d,o7,())→d0j id b d:=by
 intro ps
 induction ps with
 |nil=>
  intro i c I _ h d e;rcases h with h|h
  ·cases e;exact h
  ·cases h
 |cons p ps ih=>
  intro i c I hk h d e;obtain ⟨c1,f,-,h2,h3,-⟩:=b00 I b p;simp only[a04]at e;unfold e38 at e;rw[h2]at e;simp only at e;by_cases hf:f=0
  ·subst hf;obtain ⟨n1,g1⟩:=e9b I h2;have hk':∀q∈ps,q.Index=id→q.Kind=1:=fun q hq=>hk q (yaR _ hq)
   refine ih (i+1) c1 (h3 rfl) hk' ?_ d e;by_cases hi:p.Index=id
   ·left;rw[←hi];exact g1 (hk p (yaE ..) hi)
   ·rcases h with h|h
    ·left;intro y hy he;cases hq:a7a b y with
     |false=>rfl
     |true=>
      obtain ⟨x,hx,hxi,hxb⟩:=n1 y hy (by rw[he];exact fun q=>hi q.symm) hq;rw[h x hx (hxi.trans he)]at hxb;cases hxb
    ·rcases yaL.1 h with h|h
     ·exact absurd (by rw[←h];rfl) hi
     ·exact .inr h
  ·rw[show (f==0)=false by simpa using hf]at e;cases e
theorem d1u {c:Circ} (I:Inv c) {b:Int} {l:List Int} (hk:kn b=true) (hz:(e39 b (b91 c b l) c).2=0):∀id∈d3y (e39 b (b91 c b l) c).1 b,id∈d3y c b→id∈l:=by
 intro id h1 h2;apply Classical.byContradiction;intro hn;have hm:pr 1 id∈b91 c b l:=by
  unfold b91;simp only[yat,ybb];refine .inl (.inl (.inl ⟨id,?_,rfl⟩));rw[hk,yac,d60];unfold d9e;rw[yaS];refine ⟨h2,?_⟩;rw[e9i];simpa using hn
 have hkd:∀p∈b91 c b l,p.Index=id→p.Kind=1:=by
  intro p hp he;unfold b91 at hp;simp only[yat,ybb]at hp;have no:∀(q:Int→Bool) n,n∈(cs l).filter q→n=id→False:=fun q n hq e=>by
   rw[yaS,d60]at hq;exact hn (e▸hq.1)
  rcases hp with ((⟨n,-,rfl⟩|⟨n,hq,rfl⟩)|⟨n,hq,rfl⟩)|⟨n,hq,rfl⟩
  ·rfl
  ·exact (no _ n hq he).elim
  ·exact (no _ n hq he).elim
  ·exact (no _ n hq he).elim
 unfold e39 h0x at h1 hz;rcases d0b (b:=b) (b91 c b l) 0 c I with ⟨d,e1,Id⟩|⟨e,e1,e2⟩
 ·rw[e1]at h1;have g:=e3c (b91 c b l) 0 c I hkd (.inr hm) d e1;unfold d3y at h1;rw[ybb]at h1;obtain ⟨y,hy,hyi⟩:=h1;rw[yaS]at hy;have:=g y hy.1 hyi;rw[hy.2]at this;cases this
 ·rw[e1]at hz;exact e2 hz
theorem c62 (a:Int):∀(l:List Int) (s:Bool),l.foldl (fun s x=>s||x==a) s=(s||l.any (fun x=>x==a)):=by
 intro l
 induction l with
 |nil=>intro s;simp
 |cons x l ih=>intro s;rw[ybn,ih,List.any_cons,ybv]
theorem d7w {l before after:List Int} {i:Nat} {a:Int} {x:Circ} (ha:after[i]?=some a) (hb:before.length<1000000):c9 b27 (l,before,after,(i:Int),false,false,0,x,())=some (l,before,after,(i:Int),before.any (fun y=>y==a),false,x,()):=by
 have h:=a7x (step:=b27) (fun k s=>(l,before,after,(i:Int),s,false,(k:Int),x,())) before (fun y s=>s||y==a) (fun s=>(l,before,after,(i:Int),s,false,x,())) (by omega)
  (fun s=>by simp only[b27,dge,yaa])
  (fun k y s hy=>by
   have hk:=(zL hy)
   simp -zeta only[b27,dlt hk,d8,hy,ha,yac,f7 (show k<9223372036854775807 by omega)];cases s<;>rfl) false
 rw[show c9 b27 (l,before,after,(i:Int),false,false,0,x,())=_ from h,c62,ybd]
theorem d7x {l before after:List Int} {i:Nat} {a:Int} {w:Bool} {x:Circ} (ha:after[i]?=some a) (hb:l.length<1000000):c9 b28 (l,before,after,(i:Int),w,false,0,x,())=some (l,before,after,(i:Int),w,l.any (fun y=>y==a),x,()):=by
 have h:=a7x (step:=b28) (fun k s=>(l,before,after,(i:Int),w,s,(k:Int),x,())) l (fun y s=>s||y==a) (fun s=>(l,before,after,(i:Int),w,s,x,())) (by omega)
  (fun s=>by simp only[b28,dge,yaa])
  (fun k y s hy=>by
   have hk:=(zL hy)
   simp -zeta only[b28,dlt hk,d8,hy,ha,yac,f7 (show k<9223372036854775807 by omega)];cases s<;>rfl) false
 rw[show c9 b28 (l,before,after,(i:Int),w,false,0,x,())=_ from h,c62,ybd]
theorem d4p (a:Int) (l:List Int):l.any (fun x=>x==a)=true↔a∈l:=by
 rw[ybV];constructor
 ·rintro ⟨x,hx,e⟩;rw[ya5]at e;subst e;exact hx
 ·intro h;exact ⟨a,h,by simp⟩
theorem e6x {l before after:List Int} {x:Circ} (hl:l.length<1000000) (hb:before.length<1000000) (ha:after.length<1000000) (h:∀a∈after,a∈before→a∈l):c9 c5q (l,before,after,0,x,())=some (.inl (x,())):=by
 have hw:=m0 (step:=c5q) (fun i=>(l,before,after,(i:Int),x,())) after (fun _ _=>true) (.inr (false,())) (.inl (x,())) (by omega)
  (by simp only[c5q,dge,yaa])
  (fun i a hi=>by
   have hlt:=(zL hi)
   simp -zeta only[c5q,dlt hlt,yac,d7w hi hb,d7x hi hl,f7 (show i<9223372036854775807 by omega)];cases h1:before.any (fun y=>y==a) with
   |false=>rfl
   |true=>
    have:=h a (yaf hi) ((d4p a before).1 h1);rw[(d4p a l).2 this];rfl)
 rw[show c9 c5q (l,before,after,0,x,())=_ from hw,o8,show (after.all fun _=>true)=true by simp];rfl
theorem a7v (c:Circ) (branch:Int) (l:List Int):qi c branch l=some true:=by
 unfold qi;simp only[qb0,g9k];cases hb:(b3p c&&a35 c)&&(decide ((l.length:Int)≤60)&&(h1d l==0)) with
 |false=>rfl
 |true=>
  rw[yad,yad,yad]at hb;obtain ⟨⟨h1,h2⟩,h3,h4⟩:=hb;rw[yae]at h3;have hs:=f4d h1;have hl:l.length≤60:=by omega
  have I:=e3g hs h2;have hi:=hs.items;simp only[yam,yaa,yac,g8v I hs.items hl,d9t (show c.Items.length<1000000000 by omega)];cases hk:kn branch with
  |false=>rfl
  |true=>
   simp only[yac];have hv:=(e9c (b:=branch) (ps:=b91 c branch l) I).2;have hm:=d1u I (l:=l) hk;generalize e39 branch (b91 c branch l) c=r at hv hm;obtain ⟨d,e⟩:=r;simp only at hv hm ⊢;by_cases he:e=0
   ·subst he;have Id:=hv rfl;have hdl:=(a8o Id.val.items).1;have e1:=b0m c branch;have e2:=b0m d branch;simp only[yal,yam,yaa,d9t (show d.Items.length<1000000000 by omega)];rw[e6x (show l.length<1000000 by omega) (show (d3y c branch).length<1000000 by omega) (show (d3y d branch).length<1000000 by omega) (hm rfl)];simp only[yac,g9p Id.short,g8r Id.short,c3h Id.val]
   ·rw[show (e==0)=false by simpa using he];rfl
end
end Go.Proofs.YteaknldbhmocpaaGreatDoor
