/- OfflineContinues: a part of the proof of the given statement, which is proved without conditions. -/
import Derived.Test.YtnajckeiaobmkabGreatDoorJ6
set_option linter.all false
namespace Go.Proofs.YtnajckeiaobmkabGreatDoor
open Ev
section
open Go (IntKind)
def a7i {c:Circ} {id:Int} (hs:Short c):qda id ⟨c,0⟩=some (a66 (λx=>x.ID==id) c.Items,⟨c,bif decide (a66 (λx=>x.ID==id) c.Items<0) then 9 else 0⟩):=by
 unfold qda;simp only[f0u hs.items];cases decide (a66 (λx:Item=>x.ID==id) c.Items<0)<;>rfl
def d4v {c:Circ} (hm:MidW c) (h:FitP c) {item patron branch:Int}:b09 (qbe c item patron branch) (qfz c item patron branch):=by
 have hs:=hm.short;have hmv:=hm.moves;have hhl:=hm.holds;have hln:=hm.loans;unfold qbe qfz;simp -zeta only[qb9,a7i hs,d2s hs.patrons];rcases o8 (λx:Item=>x.ID==item) c.Items with ⟨h1,h2⟩|⟨i,x,h1,h2,h3,h4⟩
 ·have hat:qgm c item=some (-1):=by rw[a96 hs.items,h1]
  have hml:qel c item patron branch=some (0,9):=by
   unfold qel;rw[hat];simp -zeta only[a5w hs.patrons,a6a,a0s]
   try rfl
  rw[h1,hml];simp only[a6a,yac];cases (a3e c.Patrons patron).2<;>exact w6
 ·have hat:qgm c item=some (i:Int):=by rw[a96 hs.items,h1]
  have hid:x.ID=item:=by simpa using h3
  rw[h1];simp only[a4f,yaa];cases hp:a3e c.Patrons patron with
  |mk p ok=>
   cases ok with
   |false=>
    have hml:qel c item patron branch=some (0,9):=by
     unfold qel;rw[hat];simp -zeta only[a5w hs.patrons,hp,a0s]
     try rfl
    rw[hml];exact w6
   |true=>
    obtain ⟨a,e,m1,m2⟩:=c0n hm h (branch:=branch) hat h2 hp;simp only[yak,yaa,yal,d8,h2,m1,m2,hat];by_cases he:e=0
    ·subst he;have dm:=a7j (kind:=3) (branch:=branch) (who:=patron) hs (show c.Moves.length<100000000 by omega) h2;have rm:=e2x (kind:=3) (branch:=branch) (who:=patron) hs (show c.Moves.length<100000000 by omega) hat h2 hid;generalize b0t c (p8 x.Custody ⟨c.Today,x.ID,3,branch,patron⟩).2=E at dm rm;generalize (p8 x.Custody ⟨c.Today,x.ID,3,branch,patron⟩).1=u at dm rm;have lo:=h00 (l:=c.Loans) (n:=⟨item,patron,c.Today,a,0,false⟩) (by omega);have ro:=f5g (l:=c.Loans) (n:=⟨item,patron,c.Today,a,0,false⟩) (by omega);have ol:=f0h (l:=c.Loans) (n:=⟨item,patron,c.Today,a,0,false⟩) (by omega);generalize e6h c.Loans ⟨item,patron,c.Today,a,0,false⟩=q at lo ro ol;obtain ⟨l,e2⟩:=q;have hI:=b7n (p:=λ(g:Unit×Int×Item×Unit) x0=>qci x0 g.2.1 g.2.2.1) (g:=((),(patron,x,()))) (b3z patron x) hs.holds (λo _=>h1g o patron x);simp only[dm,rm,lo,a94 hs.holds,hI];by_cases hE:E=0
     ·subst hE;simp only[yal,yac,yak,yaa];generalize hc1:z8 c i x ⟨c.Today,x.ID,3,branch,patron⟩ u=c1;have t1:c1.Today=c.Today:=by rw[←hc1];rfl
      have t2:c1.Loans=c.Loans:=by rw[←hc1];rfl
      have t3:c1.Holds=c.Holds:=by rw[←hc1];rfl
      have sc1:Short c1:=by rw[←hc1];exact b4b hs (by omega) h2
      simp only[t1,t2,ro];by_cases hE2:e2=0
      ·subst hE2;simp only[a9k,yal,yak,yaa];have sc2:Short (i7 c1 l):=a7h sc1 ol;have hH:(i7 c1 l).Holds=c.Holds:=t3;have dd:∀id:Int,qdv id ⟨i7 c1 l,0⟩=some ((),bif (a2m c.Holds id).2.2==0 then ⟨t8 (i7 c1 l) (a2m c.Holds id).1,0⟩ else ⟨t8 (i7 c1 l) (i7 c1 l).Holds,(a2m c.Holds id).2.2⟩):=λid=>by
        have:=c2j (c:=i7 c1 l) (id:=id) (by rw[hH];omega) (by rw[hH];exact a0h h.holds);rw[hH]at this;rw[this,hH]
       have cc:p7 (i7 c1 l) item=p7 c item:=by unfold p7;rw[hH]
       have rc:=b48 (c:=i7 c1 l) (item:=item) (by rw[hH];omega);rw[cc]at rc;have kc:(⟨c.Today,c1.Items,c1.Patrons,l,c1.Holds,c1.Charges,c1.Rules,c1.Cals,c1.Moves,c1.NextHold,c1.NextCharge,c1.Local⟩:Circ)=i7 c1 l:=by rw[←t1];rfl
       simp only[kc,rc];generalize i7 c1 l=c2 at dd sc2 hH;have fin:∀id:Int,b09 (match qdv id ⟨c2,0⟩ with
        |some (_,v)=>(match qbi a v with|some ((r25,r26,r27),v28)=>some (r25,r26,r27)|none=>none)
        |none=>none) (match qeu c2.Holds id with
        |some (r23,r24,r25)=>(bif !(r25==0) then some (y6,0,r25) else some (t8 c2 r23,a,0))
        |none=>none):=by
        intro id;rw[dd id,f41 (by rw[hH];omega),hH];have cl:=c6o (l:=c.Holds) (id:=id) hs.holds;generalize a2m c.Holds id=q at cl ⊢;obtain ⟨m,o,e⟩:=q;simp only at cl ⊢;by_cases he:e=0
        ·subst he;exact ⟨_,_,_,rfl,rfl,a7g sc2 cl⟩
        ·have he2:(e==0)=false:=by simpa using he
         simp only[he2,yaa,a78 _ _ _ he,yar,yac];exact w6
       generalize p7 c item=q2;obtain ⟨o,ok⟩:=q2;cases ok with
       |true=>
        have hw:b9 a2p (patron,a,true,0,c2,y6,x,o,())=some (a,true,c2,y6,o,()):=by
         refine o6 1 (by rw[n9];omega) ?_;simp only[o7,a2p];cases decide ((0:Int)<(c2.Holds.length:Int))<;>rfl
        simp only[yac];rw[show b9 a2p (patron,a,true,0,c2,ZN,x,o,())=_ from hw];exact fin o.ID
       |false=>
        have hw:=b5a (c:=c2) (v:=y6) (patron:=patron) (due:=a) (x:=x) (by rw[hH];omega) c2.Holds.length 0 o (by omega);have hw2:b9 a2p (patron,a,false,0,c2,y6,x,o,())=_:=o6 (c2.Holds.length+2) (by rw[n9,hH];omega) hw;rw[ybX,hH]at hw2;simp only[yaa];rw[show b9 a2p (patron,a,false,0,c2,ZN,x,o,())=_ from hw2];unfold c7s;rcases o8 (b3z patron x) c.Holds with ⟨g1,g2⟩|⟨j,y,g1,g2,g3,g4⟩
        ·rw[g1,g2];have d:decide ((0:Int)≤-1)=false:=rfl;simp only[d,yaa,c67];exact ⟨c2,a,0,rfl,rfl,sc2⟩
        ·have d:decide ((0:Int)≤(j:Int))=true:=by rw[yad];omega
         rw[g1,g4];simp only[d,yac,d8,g2];exact fin y.ID
      ·have he2:(e2==0)=false:=by simpa using hE2
       simp only[a8q _ _ _ hE2,a9j _ _ _ hE2,a78 _ _ _ hE2,he2,yar,yac];cases (p7 c item).2 with
       |true=>exact w6
       |false=>
        simp only[yaa];rcases o8 (b3z patron x) c.Holds with ⟨g1,g2⟩|⟨j,o,g1,g2,g3,g4⟩
        ·rw[g1];exact w6
        ·have d:decide ((0:Int)≤(j:Int))=true:=by rw[yad];omega
         simp only[g1,d,yac,d8,g2];exact w6
     ·have hE2:(E==0)=false:=by simpa using hE
      simp only[hE2,yaa,b56 _ _ _ _ hE,a9j _ _ _ hE,a78 _ _ _ hE,yar,yac];cases (p7 c item).2 with
      |true=>exact w6
      |false=>
       simp only[yaa];rcases o8 (b3z patron x) c.Holds with ⟨g1,g2⟩|⟨j,o,g1,g2,g3,g4⟩
       ·rw[g1];exact w6
       ·have d:decide ((0:Int)≤(j:Int))=true:=by rw[yad];omega
        simp only[g1,d,yac,d8,g2];exact w6
    ·have he2:(e==0)=false:=by simpa using he
     simp only[he2,yar,yac];exact w6
end
section
open Go (IntKind)
structure MidP (c:Circ):Prop where
 short:Short c
 moves:c.Moves.length<10000000
 holdsN:c.Holds.length<1000000
 sorted:∀(i:Nat) (x:Hold),c.Holds[i]?=some x→u7 c.Holds i (λy=>decide (x.ID≤y.ID))=false
 rank:∀o∈c.Holds,rng 0 9 o.Rank=true∧o.ID≠0
 few:∀r,(c.Holds.filter (λo=>o.Record==r)).length<40
 cal:∀b,CalOk (e6d c b)
 rules:∀r∈c.Rules,a5x r=true
 branch:∀x∈c.Items,rng 1 4 x.Custody.Branch=true
 ids:∀(i:Nat) (x:Item) (j:Nat) (y:Item),c.Items[i]?=some x→c.Items[j]?=some y→x.ID=y.ID→i=j
 chN:c.Charges.length<1000000
def a8r {c:Circ} (h:MidP c) {i:Nat} {x:Item} (hx:c.Items[i]?=some x):qgm c x.ID=some (i:Int):=by
 rw[a96 h.short.items];rcases o8 (λy:Item=>y.ID==x.ID) c.Items with ⟨h1,h2⟩|⟨j,y,h1,h2,h3,h4⟩
 ·have:=ybF.1 h2 x (yag hx);simp at this
 ·rw[h1,h.ids i x j y hx h2 (by simpa using (by simpa using h3:y.ID=x.ID).symm)]
def a4k {X Y:Type} {f:X→Y} {l:List X} {j:Nat} {x y:X} (hx:l[j]?=some x) (hf:f y=f x):(l.set j y).map f=l.map f:=by
 rw[List.map_set,hf];apply List.ext_getElem?;intro k;rw[List.getElem?_set];split
 ·rename_i e;subst e;split
  ·rw[yaO,hx];rfl
  ·rename_i hk;have:=(zL hx)
   exact absurd (by simpa using this) hk
 ·rfl
def g01 {l m:List Item} (e:m.map (λx=>x.ID)=l.map (λx=>x.ID)) (h:∀(i:Nat) (x:Item) (j:Nat) (y:Item),l[i]?=some x→l[j]?=some y→x.ID=y.ID→i=j) :
 ∀(i:Nat) (x:Item) (j:Nat) (y:Item),m[i]?=some x→m[j]?=some y→x.ID=y.ID→i=j:=by
 have key:∀(i:Nat) (x:Item),m[i]?=some x→∃x',l[i]?=some x'∧x'.ID=x.ID:=by
  intro i x hx;have h1:(m.map (λx=>x.ID))[i]?=some x.ID:=by rw[yaO,hx];rfl
  rw[e,yaO]at h1;cases hl:l[i]? with
  |none=>rw[hl]at h1;cases h1
  |some x'=>rw[hl]at h1;exact ⟨x',rfl,by simpa using h1⟩
 intro i x j y hx hy hxy;obtain ⟨x',hx',ex⟩:=key i x hx;obtain ⟨y',hy',ey⟩:=key j y hy;exact h i x' j y' hx' hy' (by rw[ex,ey,hxy])
def e2b {c:Circ} (h:MidP c) {i:Nat} {x:Item} (hx:c.Items[i]?=some x) {m:Move} {u:Custody} (hu:rng 1 4 u.Branch=true) (hl:c.Moves.length<5000000):MidP (z8 c i x m u):=by
 refine ⟨b4b h.short (by omega) hx,?_,h.holdsN,h.sorted,h.rank,h.few,h.cal,h.rules,λy hy=>?_,?_,h.chN⟩
 ·show (c.Moves++[m]).length<_
  simp;omega
 ·rcases List.mem_or_eq_of_mem_set hy with hy|hy
  ·exact h.branch y hy
  ·rw[hy];exact hu
 ·exact g01 (a4k hx rfl) h.ids
def b52 {c:Custody} {m:Move} {u:Custody} (h:p8 c m=(u,0)):rng 1 4 u.Branch=true:=by
 have:=a9f (c:=c) (m:=m) (by rw[h];rfl);rw[h]at this;exact this
def a92 {c:Circ} (h:MidP c) {i:Nat} {x:Item} (hx:c.Items[i]?=some x) (kind branch who:Int) :
 (∃u,p8 x.Custody ⟨c.Today,x.ID,kind,branch,who⟩=(u,0)∧qa5 (i:Int) kind branch who ⟨c,0⟩=some ((),⟨z8 c i x ⟨c.Today,x.ID,kind,branch,who⟩ u,0⟩)∧
  qe5 c x.ID kind branch who=some (z8 c i x ⟨c.Today,x.ID,kind,branch,who⟩ u,0)∧MidP (z8 c i x ⟨c.Today,x.ID,kind,branch,who⟩ u))∨
 (∃e,e≠0∧qa5 (i:Int) kind branch who ⟨c,0⟩=some ((),⟨c,e⟩)∧qe5 c x.ID kind branch who=some (y6,e)):=by
 have hmv:=h.moves;have dm:=a7j (kind:=kind) (branch:=branch) (who:=who) h.short (by omega) hx;have rm:=e2x (kind:=kind) (branch:=branch) (who:=who) h.short (by omega) (a8r h hx) hx rfl;rw[dm,rm];cases ha:p8 x.Custody ⟨c.Today,x.ID,kind,branch,who⟩ with
 |mk u e=>
  by_cases hE:b0t c e=0
  ·left;simp only[hE,yal,yac];have he:e=0∧c.Moves.length<2000:=by
    unfold b0t at hE;cases hb:(e==0&&decide (2000≤(c.Moves.length:Int))) with
    |true=>rw[hb]at hE;cases hE
    |false=>
     rw[hb]at hE;simp only[yaa]at hE;subst hE;simp only[yal,ya8,yaf]at hb;exact ⟨rfl,by omega⟩
   obtain ⟨rfl,hlen⟩:=he;exact ⟨u,rfl,rfl,rfl,e2b h hx (b52 ha) (by omega)⟩
  ·right;have hE2:(b0t c e==0)=false:=by simpa using hE
   simp only[hE2,yaa];exact ⟨b0t c e,hE,rfl,rfl⟩
def d2l {c:Circ} (h:MidP c) {i:Nat} {x:Item} (hx:c.Items[i]?=some x):∃v,qcs c x=some v∧qfw c x.ID=some v∧(c2r c.Holds v).2=!(v==0)∧(v≠0→∃o∈c.Holds,o.ID=v∧c2r c.Holds v=(o,true)∧a0d x.Record c.Today o=true):=by
 have hf:(c.Holds.filter (a0d x.Record c.Today)).length<40:=by
  have e:c.Holds.filter (a0d x.Record c.Today)=(c.Holds.filter (λo=>o.Record==x.Record)).filter (a0d x.Record c.Today):=by
   rw[ybV];apply ycd;intro o _;unfold a0d;cases o.Record==x.Record<;>simp
  rw[e];have:=yaX (a0d x.Record c.Today) (c.Holds.filter (λo=>o.Record==x.Record));have:=h.few x.Record;omega
 have q1:=e2p (l:=c.Holds) (x:=x) (branch:=x.Custody.Branch) (day:=c.Today) (vlocal:=c.Local) h.holdsN hf (λo ho=>(h.rank o ho).1);have q2:=e22 (l:=c.Holds) (x:=x) (branch:=x.Custody.Branch) (day:=c.Today) (vlocal:=c.Local) h.holdsN h.sorted;rw[c4h (λo ho=>(h.rank o (yaE.1 (a3v ho)).1).2) (λ_=>rfl)]at q1;refine ⟨_,by unfold qcs;rw[q1],by unfold qfw;rw[a8r h hx];simp only[d8,hx,q2],?_,?_⟩
 ·rcases b4m (branch:=x.Custody.Branch) (vlocal:=c.Local) (x:=x) (q:=o5 (c.Holds.filter (a0d x.Record c.Today))) (f:=0) with e|⟨o,ho,e⟩
  ·rw[e];unfold c2r;have:c.Holds.find? (λh=>h.ID==0)=none:=by
    rw[ybF];intro o ho;have:=(h.rank o ho).2;simpa using this
   rw[this]
   try rfl
  ·rw[e];have hm:=(yaE.1 (a3v ho)).1;rw[a6x h.sorted hm];have:=(h.rank o hm).2;simp[this]
 ·intro hv;rcases b4m (branch:=x.Custody.Branch) (vlocal:=c.Local) (x:=x) (q:=o5 (c.Holds.filter (a0d x.Record c.Today))) (f:=0) with e|⟨o,ho,e⟩
  ·exact absurd e hv
  ·have hm:=yaE.1 (a3v ho);exact ⟨o,hm.1,e.symm,by rw[e];exact a6x h.sorted hm.1,hm.2⟩
end
section
open Go (IntKind)
def h0h {α:Type} (a b:Bool) (x y:α):(bif a then (bif b then x else y) else y)=bif a&&b then x else y:=by cases a<;>rfl
def okS (state u:Int):Bool:=(state==3&&rng 1 109572 u)||(state==2&&u==0)
def g00 (x:Hold) (item state u:Int):Hold:=⟨x.ID,x.Patron,x.Record,x.Item,x.Pickup,x.Placed,state,item,u,x.Asleep,x.Rank⟩
def a3j (l:List Hold) (id item state u:Int):List Hold×Int:=
 match l.find? (λh=>h.ID==id) with
 |none=>([],9)
 |some x=>bif !(rng 1 9999 item)||!(okS state u) then ([],1)
  else bif !(x.State==1)&&((!(x.State==2)||!(x.Got==item))||!(state==3)) then ([],12)
  else bif l.any (λo=>o.Got==item&&!(o.ID==id)) then ([],7)
  else (l.set (a66 (λh=>h.ID==id) l).toNat (g00 x item state u),0)
def d36 {l:List Hold} (hl:l.length<1000000000):qbu l=some l:=by
 unfold qbu;rw[a5r hl];rfl
def h1u {l:List Hold} {i:Nat} {x y:Hold} (hl:l.length<1000000000) (hx:l[i]?=some x):qdn l (i:Int) y=some (l.set i y):=by
 unfold qdn;simp only[d36 hl,d8,hx,yaB]
def g2o (state u:Int):(!(okS state u))=(!(state==3&&rng 1 109572 u)&&(!(state==2)||!(u==0))):=by
 unfold okS;cases (state==3&&rng 1 109572 u)<;>cases state==2<;>cases u==0<;>rfl
def f4j {l:List Hold} {id item state u:Int} (hl:l.length<1000000000):qak l id item state u=some (a3j l id item state u):=by
 unfold qak qay a3j;rw[b7n (p:=λ(g:Unit×Int×Unit) x0=>qc3 x0 g.2.1) (g:=((),(id,()))) (λx=>x.ID==id) hl (λx _=>rfl)];have hc:=e2q (p:=λ(g:Unit×Int×Int×Unit) x0=>qbx x0 g.2.1 g.2.2.1) (g:=((),(item,id,()))) (λo=>o.Got==item&&!(o.ID==id)) hl (λo _=>by
  simp -zeta only[qbx,p9];rfl)
 rcases o8 (λx:Hold=>x.ID==id) l with ⟨h1,h2⟩|⟨i,x,h1,h2,h3,h4⟩
 ·simp only[h1,h2,a6a,yac]
 ·simp -zeta only[h1,h4,a4f,yaa,d8,h2,e2s,a0s,p9,a9z,yaB];dsimp only;rw[g2o];cases (!(rng 1 9999 item)||(!(state==3&&rng 1 109572 u)&&(!(state==2)||!(u==0)))) with
  |true=>rfl
  |false=>
   simp only[yaa,h0h];cases (!(x.State==1)&&((!(x.State==2)||!(x.Got==item))||!(state==3))) with
   |true=>rfl
   |false=>
    simp only[yaa,hc];cases l.any (λo=>o.Got==item&&!(o.ID==id)) with
    |true=>rfl
    |false=>simp only[yaa,h1u hl h2];rfl
def g3a {l:List Hold} {y:Hold} (hl:l.length<1000000000):qf1 l y=some (l.map (λx=>bif x.ID==y.ID then y else x)):=by
 have h:=t6 (step:=c4v) (λ(i:Nat) (s:List Hold)=>s.length≤i) (λi s=>(l,(i:Int),y,s,())) l
  (λi x s=>.inl (s++[bif x.ID==y.ID then y else x])) (λs=>(s,())) (by rw[n9];omega)
  (λs _=>by simp only[c4v,dge,yaa])
  (λi x s hx hi=>by
   have hlt:=(zL hx)
   have l1:∀z:Hold,decide (s.length+([z]:List Hold).length≤LIM)=true:=λz=>a1u (by simp;omega)
   refine ⟨?_,λs' hs'=>?_⟩
   ·simp only[c4v,dlt hlt,d8,hx,yac,l1,wS i];cases x.ID==y.ID<;>rfl
   ·cases hs'
    simp;omega) [] (by simp)
 rw[a0f]at h;unfold qf1;rw[show b9 c4v (l,0,y,([]:List Hold),())=_ from h];simp only;congr 1;have key:∀(l o:List Hold),l.foldl (λs x=>s++[bif x.ID==y.ID then y else x]) o=o++l.map (λx=>bif x.ID==y.ID then y else x):=by
  intro l
  induction l with
  |nil=>intro o;simp
  |cons x l ih=>intro o;rw[ybp,ih];simp
 rw[key,yaU]
def b7h {l:List Hold} (hsort:∀i x,l[i]?=some x→u7 l i (λy=>decide (x.ID≤y.ID))=false) {i:Nat} {x y:Hold} (hx:l[i]?=some x) (hy:y.ID=x.ID):l.map (λz=>bif z.ID==y.ID then y else z)=l.set i y:=by
 apply List.ext_getElem?;intro j;rw[yaO,List.getElem?_set];have hlt:=(zL hx)
 split
 ·rename_i e;subst e;simp only[hx,ybz,hlt,ybD,hy,yal,yac]
 ·rename_i e;cases hj:l[j]? with
  |none=>rfl
  |some z=>
   have hne:¬z.ID=y.ID:=by
    rw[hy];rcases Nat.lt_or_gt_of_ne e with h|h
    ·have:=a2e (key:=λy:Hold=>y.ID) hsort j i x z h hx hj;omega
    ·have:=a2e (key:=λy:Hold=>y.ID) hsort i j z x h hj hx;omega
   have hb:(z.ID==y.ID)=false:=by simpa using hne
   simp only[ybz,hb,yaa]
def g2n (state u:Int):((!(state==2)&&!(state==3))||(state==3&&(decide (u<1)||!(rng 0 109572 u)))||(state==2&&!(u==0)))=!(okS state u):=by
 unfold okS;by_cases h3:state=3
 ·subst h3;unfold rng;by_cases h1:u<1
  ·have:¬1≤u:=by omega
   simp[h1,this]
  ·have a:1≤u:=by omega
   have b:0≤u:=by omega
   simp[h1,a,b]
 ·have e3:(state==3)=false:=by simpa using h3
  rw[e3];cases state==2<;>cases u==0<;>rfl
def d2u {l:List Hold} {id item state u:Int} (hl:l.length<1000000000) (hsort:∀i x,l[i]?=some x→u7 l i (λy=>decide (x.ID≤y.ID))=false):qfb l id item state u=some (a3j l id item state u):=by
 unfold qfb a3j;rw[b8e hl];unfold c2r;rcases o8 (λx:Hold=>x.ID==id) l with ⟨h1,h2⟩|⟨i,x,h1,h2,h3,h4⟩
 ·rw[h2];rfl
 ·have hxid:x.ID=id:=by simpa using h3
  have hw:=w7 (step:=c40) (λi=>(l,id,item,state,u,(i:Int),x,())) l (λo=>!(o.ID==id)&&o.Got==item) (λ_ _=>(.inr ([],7,()):(List Hold×Int×Int×Int×Hold×Unit)⊕(List Hold×Int×Unit))) (.inl (l,item,state,u,x,())) hl
   (by simp only[c40,dge,yaa])
   (λj y hy=>by
    have hlt:=(zL hy)
    simp -zeta only[c40,dlt hlt,d8,hy,yac,p9,wS j];rfl)
  rw[b0k]at hw;rw[h4];simp -zeta only[yak,yaa,f5h,f5f,a0s,p9,a9z,h1,yaB];dsimp only;rw[←g2n];have eb:∀a b c d:Bool,((a||b||c)||d)=(a||(b||c||d)):=by decide
  cases hq:(!(rng 1 9999 item)||(!(state==2)&&!(state==3)||(state==3&&(decide (u<1)||!(rng 0 109572 u)))||(state==2&&!(u==0)))) with
  |true=>
   rw[←eb]at hq;rw[hq]
   try rfl
  |false=>
   rw[←eb]at hq;rw[hq];simp only[yaa,h0h];cases (!(x.State==1)&&((!(x.State==2)||!(x.Got==item))||!(state==3))) with
   |true=>rfl
   |false=>
    simp only[yaa];rw[show b9 c40 (l,id,item,state,u,0,x,())=_ from hw];have ea:l.any (λo=>o.Got==item&&!(o.ID==id))=(l.find? (λo=>!(o.ID==id)&&o.Got==item)).isSome:=by
     rw[ybj,List.find?_isSome,List.any_eq_true];constructor
     ·rintro ⟨o,ho,hp⟩;exact ⟨o,ho,by rw[Bool.and_comm];exact hp⟩
     ·rintro ⟨o,ho,hp⟩;exact ⟨o,ho,by rw[Bool.and_comm];exact hp⟩
    rw[ea];cases l.find? (λo=>!(o.ID==id)&&o.Got==item) with
    |some o=>rfl
    |none=>
     simp only[yb5,yaa];have:=g3a (l:=l) (y:=g00 x item state u) hl;rw[b7h hsort h2 (y:=g00 x item state u) rfl]at this;rw[show qf1 l (⟨x.ID,x.Patron,x.Record,x.Item,x.Pickup,x.Placed,state,item,u,x.Asleep,x.Rank⟩:Hold)=_ from this]
def a2y (o:Hold):Int×Int×Int:=(o.ID,o.Rank,o.Record)
def c2w {c:Circ} (h:MidP c) {l:List Hold} (e:l.map a2y=c.Holds.map a2y):MidP (t8 c l):=by
 have hlen:l.length=c.Holds.length:=by have:=congrArg List.length e;simpa using this
 have key:∀(i:Nat) (x:Hold),l[i]?=some x→∃x',c.Holds[i]?=some x'∧a2y x'=a2y x:=by
  intro i x hx;have h1:(l.map a2y)[i]?=some (a2y x):=by rw[yaO,hx];rfl
  rw[e,yaO]at h1;cases hl:c.Holds[i]? with
  |none=>rw[hl]at h1;cases h1
  |some x'=>rw[hl]at h1;exact ⟨x',rfl,by simpa using h1⟩
 refine ⟨a7g h.short (by rw[hlen];exact h.short.holds),h.moves,?_,?_,?_,?_,h.cal,h.rules,h.branch,h.ids,h.chN⟩
 ·show l.length<_;rw[hlen];exact h.holdsN
 ·intro i x hx;obtain ⟨x',hx',ek⟩:=key i x hx;have hs:=h.sorted i x' hx';cases i with
  |zero=>rfl
  |succ j=>
   show u7 l (j+1) _=false
   unfold u7 at hs ⊢;simp only at hs ⊢;cases hj:l[j]? with
   |none=>rfl
   |some y=>
    obtain ⟨y',hy',ey⟩:=key j y hj;rw[hy']at hs;unfold a2y at ek ey;simp only[ya7]at ek ey;simp only at hs;rw[ek.1,ey.1]at hs;exact hs
 ·intro o ho;obtain ⟨i,hi⟩:=yaw ho;obtain ⟨x',hx',ek⟩:=key i o hi;have:=h.rank x' (yag hx');unfold a2y at ek;simp only[ya7]at ek;rw[←ek.1,←ek.2.1];exact this
 ·intro r;have e1:∀m:List Hold,(m.filter (λo=>o.Record==r)).length=((m.map a2y).filter (λk=>k.2.2==r)).length:=by
   intro m;rw[List.filter_map,ybn]
   try rfl
  show (l.filter (λo=>o.Record==r)).length<40
  rw[e1,e,←e1];exact h.few r
def b6q {l:List Hold} {id item state u:Int} (h:(a3j l id item state u).2=0):(a3j l id item state u).1.map a2y=l.map a2y:=by
 unfold a3j at h ⊢;rcases o8 (λx:Hold=>x.ID==id) l with ⟨h1,h2⟩|⟨i,x,h1,h2,h3,h4⟩
 ·rw[h2]at h;cases h
 ·rw[h4]at h ⊢;simp only at h ⊢;cases hq:(!(rng 1 9999 item)||!(okS state u)) with
  |true=>rw[hq]at h;cases h
  |false=>
   rw[hq]at h;simp only[yaa]at h ⊢;cases hq2:(!(x.State==1)&&((!(x.State==2)||!(x.Got==item))||!(state==3))) with
   |true=>rw[hq2]at h;cases h
   |false=>
    rw[hq2]at h;simp only[yaa]at h ⊢;cases hq3:l.any (λo=>o.Got==item&&!(o.ID==id)) with
    |true=>rw[hq3]at h;cases h
    |false=>
     simp only[yaa,h1,yaB];exact a4k h2 rfl
end
section
open Go (IntKind)
structure Frame (c d:Circ):Prop where
 ids:d.Items.map (λx=>x.ID)=c.Items.map (λx=>x.ID)
 holds:d.Holds.map a2y=c.Holds.map a2y
 patrons:d.Patrons=c.Patrons
 loans:d.Loans=c.Loans
 charges:d.Charges=c.Charges
 rules:d.Rules=c.Rules
 cals:d.Cals=c.Cals
 today:d.Today=c.Today
 here:d.Local=c.Local
 nh:d.NextHold=c.NextHold
 nc:d.NextCharge=c.NextCharge
 br:d.Items.map (λx=>x.Custody.Branch)=c.Items.map (λx=>x.Custody.Branch)
 recs:d.Items.map (λx=>x.Record)=c.Items.map (λx=>x.Record)
def Frame.refl (c:Circ):Frame c c:=⟨rfl,rfl,rfl,rfl,rfl,rfl,rfl,rfl,rfl,rfl,rfl,rfl,rfl⟩
def Frame.trans {a b c:Circ} (h:Frame a b) (k:Frame b c):Frame a c:=
 ⟨k.ids.trans h.ids,k.holds.trans h.holds,k.patrons.trans h.patrons,k.loans.trans h.loans,k.charges.trans h.charges,k.rules.trans h.rules,k.cals.trans h.cals,k.today.trans h.today,k.here.trans h.here,k.nh.trans h.nh,k.nc.trans h.nc,k.br.trans h.br,k.recs.trans h.recs⟩
def b4a {c:Circ} {i:Nat} {x:Item} (hx:c.Items[i]?=some x) (m:Move) {u:Custody} (hu:u.Branch=x.Custody.Branch):Frame c (z8 c i x m u):=
 ⟨a4k hx rfl,rfl,rfl,rfl,rfl,rfl,rfl,rfl,rfl,rfl,rfl,a4k hx hu,a4k hx rfl⟩
def b2s {c:Custody} {m:Move} {u:Custody} (h:p8 c m=(u,0)) (hk:(a0u m.Kind==2)=false):u.Branch=c.Branch:=by
 unfold p8 at h;cases e1:(!(a88 c)||!(a87 m)) with
 |true=>rw[e1]at h;cases h
 |false=>
  rw[e1]at h;simp only[yaa]at h;cases e2:!(a64 c.State m.Kind) with
  |true=>rw[e2]at h;cases h
  |false=>
   rw[e2]at h;simp only[yaa]at h;cases e3:(m.Kind==3&&c.State==5&&!(m.Who==c.Who)) with
   |true=>rw[e3]at h;cases h
   |false=>
    rw[e3]at h;simp only[yaa]at h;cases e4:!(c0w c m) with
    |true=>rw[e4]at h;cases h
    |false=>
     rw[e4]at h;simp only[yaa,hk]at h;cases e5:(a0u m.Kind==4||(a0u m.Kind==5||a0u m.Kind==8)) with
     |true=>rw[e5]at h;cases h;rfl
     |false=>
      rw[e5]at h;simp only[yaa]at h;cases e6:(a0u m.Kind==6) with
      |true=>rw[e6]at h;cases h;rfl
      |false=>
       rw[e6]at h;simp only[yaa]at h;cases e7:(a0u m.Kind==9||a0u m.Kind==10) with
       |true=>rw[e7]at h;cases h;rfl
       |false=>rw[e7]at h;cases h;rfl
def a7f {c:Circ} {l:List Hold} (e:l.map a2y=c.Holds.map a2y):Frame c (t8 c l):=⟨rfl,e,rfl,rfl,rfl,rfl,rfl,rfl,rfl,rfl,rfl,rfl,rfl⟩
def c6a (a:Option (Unit×Circ_desk)) (b:Option (Circ×Int)) (Q:Circ→Prop):Prop:=
 (∃c,a=some ((),⟨c,0⟩)∧b=some (c,0)∧Q c)∨∃c e,e≠0∧a=some ((),⟨c,e⟩)∧b=some (y6,e)∧Short c
def b9u {c:Circ} (h:MidP c) {b n:Int} (hb:rng 1 4 b=true):∃d e,qd7 b n ⟨c,0⟩=some (d,⟨c,e⟩)∧qfo (e6d c b) c.Today n=some (d,e):=by
 obtain ⟨d,e,hq⟩:=b0p (h.cal b) c.Today n;refine ⟨d,e,?_,hq⟩;unfold qd7;simp only[c4l hb,e2m (h.cal b),hq];by_cases he:e=0
 ·subst he;rfl
 ·have he2:(e==0)=false:=by simpa using he
  simp only[he2,yar,yac,qr,yal]
def b55 {c:Circ} (h:MidP c) {b n e0:Int} (hb:rng 1 4 b=true) (h0:e0≠0):∃d,qd7 b n ⟨c,e0⟩=some (d,⟨c,e0⟩):=by
 obtain ⟨d,e,hq⟩:=b0p (h.cal b) c.Today n;have h2:(e0==0)=false:=by simpa using h0
 refine ⟨d,?_⟩;unfold qd7;simp only[c4l hb,e2m (h.cal b),hq];cases e==0<;>simp only[yar,yak,yac,yaa,qr,h2]
def c6a.mono {a:Option (Unit×Circ_desk)} {b:Option (Circ×Int)} {Q R:Circ→Prop} (h:c6a a b Q) (hQ:∀d,Q d→R d):c6a a b R:=by
 rcases h with ⟨d,h1,h2,h3⟩|h
 ·exact .inl ⟨d,h1,h2,hQ d h3⟩
 ·exact .inr h
def b8p {c:Circ} (h:MidP c) {i:Nat} {x:Item} (hx:c.Items[i]?=some x) (o:Hold):c6a (qco (i:Int) o ⟨c,0⟩) (qe4 c x.ID o) (λd=>(MidP d∧Frame c d)∧(∃u,d.Items=c.Items.set i (a04 u x))∧∃st u,a3j c.Holds o.ID x.ID st u=(d.Holds,0)):=by
 obtain ⟨r,b,hr,_⟩:=b5g (p:=o.Patron) (x:=x) h.short;have hb:=h.branch x (yag hx);unfold qco qe4;simp -zeta only[yal,yak,yaa,a8r h hx,d8,hx,c0v h.short,hr];rcases a92 h hx 5 x.Custody.Branch o.Patron with ⟨u,ha,m1,m2,hm2⟩|⟨e,he,m1,m2⟩
 ·have hf:=b4a hx ⟨c.Today,x.ID,5,x.Custody.Branch,o.Patron⟩ (b2s ha rfl);rw[m1,m2];have hh:(z8 c i x ⟨c.Today,x.ID,5,x.Custody.Branch,o.Patron⟩ u).Holds=c.Holds:=rfl;have hI:(z8 c i x ⟨c.Today,x.ID,5,x.Custody.Branch,o.Patron⟩ u).Items=c.Items.set i (a04 u x):=rfl;generalize z8 c i x ⟨c.Today,x.ID,5,x.Custody.Branch,o.Patron⟩ u=c2 at hm2 hf hh hI;dsimp only;have core:∀days:Int,∃d e,qd7 x.Custody.Branch days ⟨c2,0⟩=some (d,⟨c2,e⟩)∧qfo (e6d c2 x.Custody.Branch) c2.Today days=some (d,e):=λdays=>b9u hm2 hb
  cases b
  all_goals
   simp only[yac,yaa,yal,yak,e3d hb];obtain ⟨d,e,l1,l2⟩:=core _;rw[l1,l2];by_cases he:e=0
   ·subst he;simp only[yal,yak,yac,yaa,f4j hm2.short.holds,d2u hm2.short.holds hm2.sorted];have ck:=b6q (l:=c2.Holds) (id:=o.ID) (item:=x.ID) (state:=3) (u:=d);generalize hcq:a3j c2.Holds o.ID x.ID 3 d=q at ck;obtain ⟨l,e⟩:=q;by_cases he:e=0
    ·subst he;exact .inl ⟨t8 c2 l,rfl,rfl,⟨c2w hm2 (ck rfl),hf.trans (a7f (ck rfl))⟩,⟨u,hI⟩,3,d,by rw[←hh];exact hcq⟩
    ·have he2:(e==0)=false:=by simpa using he
     simp only[a59 c2 l e he,he2,yar,yac];exact .inr ⟨_,e,he,rfl,rfl,hm2.short⟩
   ·have he2:(e==0)=false:=by simpa using he
    simp only[he2,yar,yac,yaa];exact .inr ⟨_,e,he,rfl,rfl,hm2.short⟩
 ·have he2:(e==0)=false:=by simpa using he
  rw[m1,m2];dsimp only;cases b
  all_goals
   simp only[yac,yaa,he2,yar];obtain ⟨d,l1⟩:=b55 (n:=_) h hb he;rw[l1];simp only[he2,yaa];exact .inr ⟨_,e,he,rfl,rfl,h.short⟩
def e3j {c:Circ} (h:MidP c) {i:Nat} {x:Item} (hx:c.Items[i]?=some x) (o:Hold):c6a (qco (i:Int) o ⟨c,0⟩) (qe4 c x.ID o) (λd=>MidP d∧Frame c d):=(b8p h hx o).mono (λ_ h=>h.1)
def c2k {c:Circ} {i:Nat} {x:Item} (hx:c.Items[i]?=some x) (kind:Int):qd8 (i:Int) kind ⟨c,0⟩=qa5 (i:Int) kind x.Custody.Branch 0 ⟨c,0⟩:=by
 unfold qd8;simp only[yal,yac,d8,hx];cases qa5 (i:Int) kind x.Custody.Branch 0 ⟨c,0⟩ with
 |none=>rfl
 |some p=>rfl
def b9s (c:Circ) (i e0:Int) (h0:e0≠0):qd5 i ⟨c,e0⟩=some ((),⟨c,e0⟩):=by
 have h:(e0==0)=false:=by simpa using h0
 unfold qd5;simp only[h,yar,yac]
def b57 (c:Circ) (i e0:Int) (o:Hold) (h0:e0≠0):qco i o ⟨c,e0⟩=some ((),⟨c,e0⟩):=by
 have h:(e0==0)=false:=by simpa using h0
 unfold qco;simp only[h,yar,yac]
def d23 {X:Type} {l:List X} {i:Nat} {x:X} (h:l[i]?=some x):l.set i x=l:=by
 obtain ⟨h1,h2⟩:=yaA.1 h;rw[←h2,List.set_getElem_self]
def b99 {l:List Hold} (hs:∀i x,l[i]?=some x→u7 l i (λy=>decide (x.ID≤y.ID))=false) {o p:Hold} (ho:o∈l) (hp:p∈l) (e:o.ID=p.ID):o=p:=by
 have h1:=a6x hs ho;have h2:=a6x hs hp;rw[e,h2]at h1;cases h1
 try rfl
def Put (c d:Circ) (i:Nat) (x:Item):Prop:=(∃u,d.Items=c.Items.set i (a04 u x))∧∃v,qcs c x=some v∧((v=0∧d.Holds=c.Holds)∨∃st u,a3j c.Holds v x.ID st u=(d.Holds,0)∧(st=3→∀o∈c.Holds,o.ID=v→o.Pickup=x.Custody.Branch))
def d7x {c:Circ} (h:MidP c) {i:Nat} {x:Item} (hx:c.Items[i]?=some x):c6a (qd5 (i:Int) ⟨c,0⟩) (qfy c x.ID) (λd=>(MidP d∧Frame c d)∧Put c d i x):=by
 obtain ⟨v,p1,p2,g1,g2⟩:=d2l h hx;have mv:∀kind branch who:Int,(a0u kind==2)=false→c6a (qa5 (i:Int) kind branch who ⟨c,0⟩) (qe5 c x.ID kind branch who) (λd=>(MidP d∧Frame c d)∧d.Holds=c.Holds∧∃u,d.Items=c.Items.set i (a04 u x)):=by
  intro kind branch who hk;rcases a92 h hx kind branch who with ⟨u,ha,m1,m2,hm2⟩|⟨e,he,m1,m2⟩
  ·exact .inl ⟨_,m1,m2,⟨hm2,b4a hx _ (b2s ha hk)⟩,rfl,u,rfl⟩
  ·exact .inr ⟨_,e,he,m1,m2,h.short⟩
 unfold qd5 qfy;simp -zeta only[yal,yak,yaa,a8r h hx,d8,hx,p1,p2,f4w h.short.holds,b8e h.short.holds,c2k hx,p9];by_cases hv:v=0
 ·subst hv;generalize c2r c.Holds 0=q at g1 ⊢;obtain ⟨o,ok⟩:=q;simp only[yal,yak]at g1;subst g1;dsimp only;simp only[yar,ya8,yal,yac];cases x.Branch==x.Custody.Branch with
  |false=>
   simp only[yar,yac];rcases mv 6 x.Branch 0 rfl with ⟨d,m1,m2,hQ,hH,hI⟩|⟨d,e,he,m1,m2,hsd⟩
   ·rw[m1,m2];exact .inl ⟨d,rfl,rfl,hQ,hI,0,p1,.inl ⟨rfl,hH⟩⟩
   ·rw[m1,m2];exact .inr ⟨d,e,he,rfl,rfl,hsd⟩
  |true=>
   simp only[yak,yaa];cases x.Custody.State==3 with
   |true=>exact .inl ⟨c,rfl,rfl,⟨h,Frame.refl c⟩,⟨x.Custody,(d23 hx).symm⟩,0,p1,.inl ⟨rfl,rfl⟩⟩
   |false=>
    simp only[yar,yac,yaa];rcases mv 2 x.Custody.Branch 0 rfl with ⟨d,m1,m2,hQ,hH,hI⟩|⟨d,e,he,m1,m2,hsd⟩
    ·rw[m1,m2];exact .inl ⟨d,rfl,rfl,hQ,hI,0,p1,.inl ⟨rfl,hH⟩⟩
    ·rw[m1,m2];exact .inr ⟨d,e,he,rfl,rfl,hsd⟩
 ·have hv2:(v==0)=false:=by simpa using hv
  obtain ⟨o,ho,hoi,hg,hw⟩:=g2 hv;rw[hg,hv2];dsimp only;simp only[yak,ybw,yaa];cases hpk:o.Pickup==x.Custody.Branch with
  |true=>
   simp only[yac];rcases b8p h hx o with ⟨d,m1,m2,hQ,hI,st,u,hH⟩|⟨d,e,he,m1,m2,hsd⟩
   ·rw[m1,m2];exact .inl ⟨d,rfl,rfl,hQ,hI,v,p1,.inr ⟨st,u,by rw[←hoi];exact hH,λ_ o2 ho2 hv2=>by rw[b99 h.sorted ho2 ho (hv2.trans hoi.symm)];simpa using hpk⟩⟩
   ·rw[m1,m2];exact .inr ⟨d,e,he,rfl,rfl,hsd⟩
  |false=>
   simp only[yaa];rcases mv 6 o.Pickup o.Patron rfl with ⟨d,m1,m2,⟨hm2,hf⟩,hH,hI⟩|⟨d,e,he,m1,m2,hsd⟩
   ·rw[m1,m2];simp only[yal,yak,yac,yaa,f4j hm2.short.holds,d2u hm2.short.holds hm2.sorted];have ck:=b6q (l:=d.Holds) (id:=v) (item:=x.ID) (state:=2) (u:=0);generalize hcq:a3j d.Holds v x.ID 2 0=q at ck;obtain ⟨l,e⟩:=q;by_cases he:e=0
    ·subst he;exact .inl ⟨t8 d l,rfl,rfl,⟨c2w hm2 (ck rfl),hf.trans (a7f (ck rfl))⟩,hI,v,p1,.inr ⟨2,0,by rw[←hH];exact hcq,λh=>absurd h (by decide)⟩⟩
    ·have he2:(e==0)=false:=by simpa using he
     simp only[a59 d l e he,he2,yar,yac];exact .inr ⟨_,e,he,rfl,rfl,hm2.short⟩
   ·have he2:(e==0)=false:=by simpa using he
    rw[m1,m2];simp only[he2,yaa,yar,yac];exact .inr ⟨d,e,he,rfl,rfl,hsd⟩
def e6z {c:Circ} (h:MidP c) {i:Nat} {x:Item} (hx:c.Items[i]?=some x):c6a (qd5 (i:Int) ⟨c,0⟩) (qfy c x.ID) (λd=>MidP d∧Frame c d):=(d7x h hx).mono (λ_ h=>h.1)
end
section
open Go (IntKind)
def a8d {c:Circ} {i:Nat} {x:Item} (hx:c.Items[i]?=some x) (m:Move) (u:Custody):(z8 c i x m u).Items[i]?=some (a04 u x):=by
 show (c.Items.set i (a04 u x))[i]?=_
 rw[ybx (zL hx)]
def a79 {c:Circ} (h:MidP c) (item:Int):(a66 (λx=>x.ID==item) c.Items = -1∧qgm c item=some (-1)∧c.Items.find? (λx=>x.ID==item)=none)∨
 ∃(i:Nat) (x:Item),a66 (λx=>x.ID==item) c.Items=(i:Int)∧qgm c item=some (i:Int)∧c.Items[i]?=some x∧x.ID=item∧c.Items.find? (λx=>x.ID==item)=some x:=by
 rcases o8 (λx:Item=>x.ID==item) c.Items with ⟨h1,h2⟩|⟨i,x,h1,h2,h3,h4⟩
 ·exact .inl ⟨h1,by rw[a96 h.short.items,h1],h2⟩
 ·exact .inr ⟨i,x,h1,by rw[a96 h.short.items,h1],h2,by simpa using h3,h4⟩
end
section
open Go (IntKind)
def g6d (r:Int) (c d:Circ):Prop:=d.Items.map (λx=>x.Record)=c.Items.map (λx=>x.Record)∧∀(j:Nat) (y:Item),c.Items[j]?=some y→¬y.Record=r→d.Items[j]?=some y
def g6d.refl (r:Int) (c:Circ):g6d r c c:=⟨rfl,λ_ _ h _=>h⟩
def g6d.trans {r:Int} {a b c:Circ} (h:g6d r a b) (k:g6d r b c):g6d r a c:=⟨k.1.trans h.1,λj y hy hr=>k.2 j y (h.2 j y hy hr) hr⟩
end
section
open Go (IntKind)
def c9k {l:List Hold}:(∀i x,l[i]?=some x→u7 l i (λy=>decide (x.ID≤y.ID))=false)↔l.Pairwise (λa b=>a.ID<b.ID):=by
 constructor
 ·intro h;rw[ya3];intro i j hi hj hij;exact a2e (key:=λy:Hold=>y.ID) h j i l[i] l[j] hij (yab hi) (yab hj)
 ·intro h i x hx;cases i with
  |zero=>rfl
  |succ j=>
   unfold u7;simp only;have hi:=(yaA.1 hx)
   have hj:j<l.length:=by have:=hi.1;omega
   rw[yab hj];have:=(ya3.1 h) j (j+1) hj hi.1 (by omega);rw[hi.2]at this;simp only[yaf];omega
def c6p {l:List Hold} (hsort:∀i x,l[i]?=some x→u7 l i (λy=>decide (x.ID≤y.ID))=false) {o:Hold} (ho:o∈l):a2m l o.ID=(l.filter (λx=>!(x.ID==o.ID)),o,0):=by
 have:=a6x hsort ho;unfold c2r at this;unfold a2m;cases hq:l.find? (λh=>h.ID==o.ID) with
 |none=>rw[hq]at this;cases this
 |some x=>rw[hq]at this;cases this;rfl
end
section
open Go (IntKind)
def c1f (l:List Charge) (c:Charge):List Charge×Int:=bif !(o9 (l++[c])==0) then ([],o9 (l++[c])) else (l++[c],0)
def h1h {l:List Charge} {c:Charge} (hl:l.length<1000000):qck l c=some (c1f l c):=by
 have l1:decide (l.length+([c]:List Charge).length≤LIM)=true:=a1u (by simp;omega);have l0:decide (l.length≤LIM)=true:=by rw[yad];unfold LIM;omega
 unfold qck c1f;simp only[l0,l1,yac,f4i (show (l++[c]).length<1000000000 by simp;omega)];cases !(o9 (l++[c])==0)<;>rfl
def d4o {X:Type}:∀(l o:List X),l.foldl (λs x=>s++[x]) o=o++l:=by
 intro l
 induction l with
 |nil=>intro o;simp
 |cons x l ih=>intro o;rw[ybp,ih];simp
def h2n {l:List Charge} {c:Charge} (hl:l.length<1000000):qgi l c=some (c1f l c):=by
 have hw:=t6 (step:=c49) (λ(i:Nat) (s:List Charge)=>s.length≤i) (λi s=>(l,(i:Int),c,s,())) l
  (λi x s=>.inl (s++[x])) (λs=>(c,s,())) (by rw[n9];omega)
  (λs _=>by simp only[c49,dge,yaa])
  (λi x s hx hi=>by
   have hlt:=(zL hx)
   have l1:∀z:Charge,decide (s.length+([z]:List Charge).length≤LIM)=true:=λz=>a1u (by simp;omega)
   refine ⟨?_,λs' hs'=>?_⟩
   ·simp only[c49,dlt hlt,d8,hx,yac,l1,wS i]
   ·cases hs'
    simp;omega) [] (by simp)
 rw[a0f,d4o,yaU]at hw;have l1:decide (l.length+([c]:List Charge).length≤LIM)=true:=a1u (by simp;omega);unfold qgi c1f;rw[show b9 c49 (l,0,c,([]:List Charge),())=_ from hw];simp only[l1,yac,f5b (show (l++[c]).length<1000000000 by simp;omega)];cases !(o9 (l++[c])==0)<;>rfl
def a5j (c:Circ) (l:List Charge) (n:Int):Circ:=⟨c.Today,c.Items,c.Patrons,c.Loans,c.Holds,l,c.Rules,c.Cals,c.Moves,c.NextHold,n,c.Local⟩
def d0j {c:Circ} (h:MidP c) {l:List Charge} (hl:l.length<1000000) (n:Int):MidP (a5j c l n):=by
 obtain ⟨⟨a1,a2,a3,a4,a5,a6,a7,a8,a9,a10,a11,a12,a13⟩,h2,h3,h4,h5,h6,h7,h8,h9,h10,h11⟩:=h;exact ⟨⟨a1,a2,a3,a4,by show l.length<_;omega,a6,a7,a8,a9,a10,a11,a12,a13⟩,h2,h3,h4,h5,h6,h7,h8,h9,h10,hl⟩
def e6p {l:List Charge} {x:Charge} (h:(c1f l x).2=0):(c1f l x).1=l++[x]∧o9 (l++[x])=0:=by
 unfold c1f at h ⊢;by_cases he:o9 (l++[x])=0
 ·simp only[he,yal,yak,yaa,and_self]
 ·have he2:(o9 (l++[x])==0)=false:=by simpa using he
  rw[he2]at h;exact absurd h he
def b6r {c:Circ} (h:MidP c) (vid item kind amount:Int):c6a (qd6 vid item kind amount ⟨c,0⟩) (qem c vid item kind amount)
 (λd=>d=a5j c (c.Charges++[⟨c.NextCharge,vid,item,c.Today,kind,amount,0⟩]) (wr .i64 (c.NextCharge+1))∧o9 (c.Charges++[⟨c.NextCharge,vid,item,c.Today,kind,amount,0⟩])=0∧c.NextCharge≤99999):=by
 unfold qd6 qem;simp only[yal,yak,yaa,h1h h.chN,h2n h.chN];cases hq:decide (99999<c.NextCharge) with
 |true=>exact .inr ⟨c,13,by decide,rfl,rfl,h.short⟩
 |false=>
  have hq:¬99999<c.NextCharge:=by simpa using hq
  simp only[yaa];have ho:=e6p (l:=c.Charges) (x:=⟨c.NextCharge,vid,item,c.Today,kind,amount,0⟩);generalize c1f c.Charges ⟨c.NextCharge,vid,item,c.Today,kind,amount,0⟩=q at ho ⊢;obtain ⟨l,e⟩:=q;by_cases he:e=0
  ·subst he;have:=ho rfl;exact .inl ⟨a5j c l (wr .i64 (c.NextCharge+1)),rfl,rfl,by rw[←this.1],this.2,by omega⟩
  ·have he2:(e==0)=false:=by simpa using he
   simp only[he2,yar,yac];exact .inr ⟨c,e,he,by simp only[qr,yal,yac],rfl,h.short⟩
def b3a {l:List Charge} (h:o9 l=0):l.length<1000000:=by have:=(b0f h).1;omega
end
section
open Go (IntKind)
def a8u (l:List Loan) (item:Int):List Loan×Loan×Int:=
 match l.find? (λn=>n.Item==item) with
 |some n=>(l.take (a66 (λn=>n.Item==item) l).toNat++l.drop ((a66 (λn=>n.Item==item) l).toNat+1),n,0)
 |none=>([],h0s,9)
def h1s {l:List Loan} {item:Int} (hl:l.length<100000000):qdk l item=some (a8u l item):=by
 have hl2:l.length<1000000000:=by omega
 unfold qdk a8u qz;dsimp only;rw[a6y hl2];rcases o8 (λx:Loan=>x.Item==item) l with ⟨h1,h2⟩|⟨i,x,h1,h2,h3,h4⟩
 ·rw[h2];rfl
 ·have hlt:=(zL h2)
  have hc:qbj l=some l:=by unfold qbj;rw[a5r hl2];rfl
  have hd:qca l (i:Int) ((i+1:Nat):Int)=some (l.take i++l.drop (i+1)):=by
   show a7e l (i:Int) ((i+1:Nat):Int)=_
   unfold a7e;have d1:decide ((0:Int)≤(i:Int))=true:=by rw[yad];omega
   have d2:decide ((i:Int)≤((i+1:Nat):Int))=true:=by rw[yad];omega
   have d3:decide (((i+1:Nat):Int)≤(l.length:Int))=true:=by rw[yad];omega
   have d4:decide (l.length≤1073741824)=true:=by rw[yad];omega
   simp only[d1,d2,d3,d4,ybl,yac,yaB]
  rw[h4,h1];unfold qd4;simp only[a4f,yaa,hc,wS i,hd,yaB]
def f45 {l:List Loan} {item:Int} (hl:l.length<100000000):qf5 l item=some (a8u l item):=by
 have hl2:l.length<1000000000:=by omega
 unfold qf5 a8u;rw[d2w hl2];rcases o8 (λx:Loan=>x.Item==item) l with ⟨h1,h2⟩|⟨i,x,h1,h2,h3,h4⟩
 ·rw[h1,h2];rfl
 ·have hlt:=(zL h2)
  have d1:decide ((0:Int)≤(i:Int))=true:=by rw[yad];omega
  have d2:decide ((i:Int)≤(l.length:Int))=true:=by rw[yad];omega
  have d3:decide (((i+1:Nat):Int)≤(l.length:Int))=true:=by rw[yad];omega
  have d4:decide ((0:Int)≤((i+1:Nat):Int))=true:=by rw[yad];omega
  have d5:decide ((0:Int)≤0)=true:=rfl;have d6:decide ((l.length:Int)≤(l.length:Int))=true:=by simp
  have t0:((l.take i).drop (0:Int).toNat)=l.take i:=by simp
  have t1:(l.take (l.length:Int).toNat)=l:=by simp
  have l1:decide (([]:List Loan).length+(l.take i).length≤LIM)=true:=a1u (by rw[yaD];simp;omega);have l2:decide (([]++l.take i).length+(l.drop (i+1)).length≤LIM)=true:=a1u (by rw[yaU,yaD,yaV];omega);rw[h1,h4];simp only[a4f,yaa,d1,d2,d3,d4,d5,d6,ybl,yac,wS i,yaB,t0,t1,l1,l2,d8,h2,yaU,List.take_length];have l3:decide ((l.take i).length+(l.drop (i+1)).length≤LIM)=true:=a1u (by rw[yaD,yaV];omega);rw[l3]
  try rfl
def e61 {l:List Loan} {item:Int} (hl:l.length<1000000000):(a8u l item).1.length<1000000000:=by
 unfold a8u;cases l.find? (λn=>n.Item==item) with
 |none=>simp
 |some n=>
  simp only[yaP,yaD,yaV];omega
def c3e {c:Circ} (h:MidP c) {l:List Loan} (hl:l.length<1000000000):MidP (i7 c l):=by
 obtain ⟨⟨a1,a2,a3,a4,a5,a6,a7,a8,a9,a10,a11,a12,a13⟩,h2,h3,h4,h5,h6,h7,h8,h9,h10,h11⟩:=h;exact ⟨⟨a1,a2,hl,a4,a5,a6,a7,a8,a9,a10,a11,a12,a13⟩,h2,h3,h4,h5,h6,h7,h8,h9,h10,h11⟩
end
section
open Go (IntKind)
def c08 (p:Int→Bool) (f:Int):Nat→Int
 |0=>0
 |k+1=>c08 p f k+(bif p (f+k) then 1 else 0)
def c6r {p:Int→Bool} {f:Int}:∀k:Nat,0≤c08 p f k∧c08 p f k≤k:=by
 intro k
 induction k with
 |zero=>exact ⟨by simp[c08],by simp[c08]⟩
 |succ k ih=>
  simp only[c08];cases p (f+k)<;>simp only[yac,yaa]<;>omega
def b3c {p:Int→Bool} {f:Int} {k:Nat}:c08 p f (k+1)=c08 p f k+(bif p (f+k) then 1 else 0):=rfl
def d8k {p:Int→Bool}:∀(k:Nat) (f:Int),c08 p f (k+1)=(bif p f then 1 else 0)+c08 p (f+1) k:=by
 intro k
 induction k with
 |zero=>intro f;simp[c08]
 |succ k ih=>
  intro f;rw[b3c,ih f,b3c];rw[show f+((k+1:Nat):Int)=f+1+(k:Int) by omega];omega
def g3c {c:Calendar} (hc:CalOk c) {t:Int}:∀(k:Nat) (d n:Int),0≤d→d+k=(if 109572<t then 109572 else t)+1→0≤n→n+k<1000000000→o7 b8c (k+1) (t,n,d,c,())=some (n+c08 (a67 c) d k,()):=by
 intro k
 induction k with
 |zero=>
  intro d n h0 h1 h2 h3;have:decide (d≤(if 109572<t then 109572 else t))=false:=by rw[yaf];omega
  simp only[o7,b8c,this,yaa,c08,Int.add_zero]
 |succ k ih=>
  intro d n h0 h1 h2 h3;have hd:decide (d≤(if 109572<t then 109572 else t))=true:=by rw[yad];omega
  have hb:d<200000:=by split at h1<;>omega
  rw[o7];simp only[b8c,hd,yac,b5b hc];rw[d8k,a0g (n:=d+1) (by omega) (by omega),a0g (n:=n+1) (by omega) (by omega)];cases a67 c d with
  |true=>
   simp only[yac];rw[ih (d+1) (n+1) (by omega) (by omega) (by omega) (by omega)];rw[Int.add_assoc]
  |false=>
   simp only[yaa];rw[ih (d+1) n (by omega) (by omega) (by omega) (by omega),Int.zero_add]
def h2j {c:Calendar} (hc:CalOk c) (f t:Int):qfp c f t=some (c08 (a67 c) (if f<0 then 0 else f) ((if 109572<t then 109572 else t)+1-(if f<0 then 0 else f)).toNat):=by
 unfold qfp;generalize hF:(if f<0 then 0 else f)=F;have hF0:0≤F:=by rw[←hF];split<;>omega
 have hT:(if 109572<t then 109572 else t)≤109572:=by split<;>omega
 by_cases hk:F≤(if 109572<t then 109572 else t)+1
 ·have:=g3c hc (t:=t) ((if 109572<t then 109572 else t)+1-F).toNat F 0 hF0 (by omega) (by omega) (by omega);rw[o6 _ (by rw[n9];omega) this,Int.zero_add]
 ·have h0:((if 109572<t then 109572 else t)+1-F).toNat=0:=by omega
  have hd:decide (F≤(if 109572<t then 109572 else t))=false:=by rw[yaf];omega
  have:o7 b8c 1 (t,0,F,c,())=some (0,()):=by simp only[o7,b8c,hd,yaa]
  rw[o6 _ (by rw[n9];omega) this,h0]
  try rfl
def upS (d w:Int):Int:=if d<w then 0 else (d-w) / 7+1
def b8z {d:Int} (h:rng 0 109572 d=true):qcg d=some (d.tmod 7):=by
 have e:qea d=some (rng 0 109572 d):=by
  unfold qea;simp -zeta only[p9]
  try rfl
 unfold qcg;rw[e,h]
 try rfl
def e5y {d w:Int} (h0 : -1≤d) (h1:d≤109572) (h2:0≤w) (h3:w<7):qde d w=some (upS d w):=by
 unfold qde upS;rw[b8z rfl];have e0:(0:Int).tmod 7=0:=rfl;simp only[e0];rw[a0g (n:=w-0) (by omega) (by omega),a0g (n:=w-0+7) (by omega) (by omega)];have e1:(w-0+7).tmod 7=w:=by rw[Int.tmod_eq_emod_of_nonneg (by omega)];omega
 rw[e1];by_cases hd:d<w
 ·simp only[hd,decide_true,yac,ybD]
 ·simp only[hd,decide_false,yaa,ybd];rw[a0g (n:=d-w) (by omega) (by omega),Int.tdiv_eq_ediv_of_nonneg (by omega),a0g (n:=(d-w) / 7) (by omega) (by omega),a0g (by omega) (by omega)]
def f1b {d w:Int} (h0:0≤d) (h2:0≤w) (h3:w<7):upS d w=upS (d-1) w+(if d % 7=w then 1 else 0):=by
 unfold upS;split<;>split<;>split<;>omega
def a8i {d w:Int} (h0 : -1≤d) (h1:d≤109572) (h2:0≤w) (h3:w<7):0≤upS d w∧upS d w≤20000:=by
 unfold upS;split<;>omega
def wk (c:Calendar):V7 Bool:=⟨a0t c.Week 0,a0t c.Week 1,a0t c.Week 2,a0t c.Week 3,a0t c.Week 4,a0t c.Week 5,a0t c.Week 6⟩
def a0b (c:Calendar) (f t:Int) (w:Nat):Int:=bif a0t c.Week w then upS t w-upS (f-1) w else 0
def e6q {b:Bool} {n a:Int} (hn : -1000000≤n) (hn2:n≤1000000) (ha : -100000≤a) (ha2:a≤100000) {α:Type} (k:Int→α):(bif b then k (wr .i64 (n+wr .i64 a)) else k n)=k (n+(bif b then a else 0)):=by
 cases b with
 |true=>simp only[yac];rw[a0g (n:=a) (by omega) (by omega),a0g (by omega) (by omega)]
 |false=>simp only[yaa,Int.add_zero]
def y3 {c:Calendar} {f t:Int} {w:Nat} (hf:0≤f) (hf2:f≤109573) (ht : -1≤t) (ht2:t≤109572) (hw:w<7) : -20000≤a0b c f t w∧a0b c f t w≤20000:=by
 unfold a0b;have a:=a8i ht ht2 (show 0≤(w:Int) by omega) (by omega);have b:=a8i (d:=f-1) (by omega) (by omega) (show 0≤(w:Int) by omega) (by omega);cases a0t c.Week w<;>simp only[yac,yaa]<;>omega
def c2e {c:Calendar} {f t:Int} (hf:0≤f) (hf2:f≤109573) (ht : -1≤t) (ht2:t≤109572):b9 c81 (f,t,0,wk c,0,c,wk c,()) =
 some (f,t,a0b c f t 0+a0b c f t 1+a0b c f t 2+a0b c f t 3+a0b c f t 4+a0b c f t 5+a0b c f t 6,c,wk c,()):=by
 have st:∀(w:Nat) (n:Int),w<7→-200000≤n→n≤200000→c81 (f,t,n,wk c,(w:Int),c,wk c,())=some (.inl (f,t,n+a0b c f t w,wk c,((w+1:Nat):Int),c,wk c,())):=by
  intro w n hw h1 h2;have u1:=e5y ht ht2 (show 0≤(w:Int) by omega) (by omega);have u2:=e5y (d:=f-1) (by omega) (by omega) (show 0≤(w:Int) by omega) (by omega);have b1:=a8i ht ht2 (show 0≤(w:Int) by omega) (by omega);have b2:=a8i (d:=f-1) (by omega) (by omega) (show 0≤(w:Int) by omega) (by omega);have hd:decide ((w:Int)<7)=true:=by rw[yad];omega
  have hw1:wr .i64 (f-1)=f-1:=a0g (by omega) (by omega);have hw2:=wS w;unfold a0b;simp -zeta only[c81,hd,yac,u1,hw1,u2,hw2];dsimp only;have ap:=λb=>e6q (b:=b) (n:=n) (a:=upS t w-upS (f-1) w) (by omega) (by omega) (by omega) (by omega) (λn7=>(some (.inl (f,t,n7,wk c,((w+1:Nat):Int),c,wk c,())):Option ((Int×Int×Int×(V7 Bool)×Int×Calendar×(V7 Bool)×Unit)⊕((Int×Int×Int×Calendar×(V7 Bool)×Unit)))))
  have hcs:w=0∨w=1∨w=2∨w=3∨w=4∨w=5∨w=6:=by omega
  rcases hcs with h|h|h|h|h|h|h<;>subst h<;>exact ap _
 have p0:=y3 (c:=c) hf hf2 ht ht2 (show 0<7 by omega);have p1:=y3 (c:=c) hf hf2 ht ht2 (show 1<7 by omega);have p2:=y3 (c:=c) hf hf2 ht ht2 (show 2<7 by omega);have p3:=y3 (c:=c) hf hf2 ht ht2 (show 3<7 by omega);have p4:=y3 (c:=c) hf hf2 ht ht2 (show 4<7 by omega);have p5:=y3 (c:=c) hf hf2 ht ht2 (show 5<7 by omega);have p6:=y3 (c:=c) hf hf2 ht ht2 (show 6<7 by omega);refine o6 8 (by rw[n9];omega) ?_;have s0:=st 0 0 (by omega) (by omega) (by omega);have s1:=st 1 (0+a0b c f t 0) (by omega) (by omega) (by omega);have s2:=st 2 (0+a0b c f t 0+a0b c f t 1) (by omega) (by omega) (by omega);have s3:=st 3 (0+a0b c f t 0+a0b c f t 1+a0b c f t 2) (by omega) (by omega) (by omega);have s4:=st 4 (0+a0b c f t 0+a0b c f t 1+a0b c f t 2+a0b c f t 3) (by omega) (by omega) (by omega);have s5:=st 5 (0+a0b c f t 0+a0b c f t 1+a0b c f t 2+a0b c f t 3+a0b c f t 4) (by omega) (by omega) (by omega);have s6:=st 6 (0+a0b c f t 0+a0b c f t 1+a0b c f t 2+a0b c f t 3+a0b c f t 4+a0b c f t 5) (by omega) (by omega) (by omega);rw[o7,show c81 (f,t,0,wk c,0,c,wk c,())=_ from s0];simp only;rw[o7,s1];simp only;rw[o7,s2];simp only;rw[o7,s3];simp only;rw[o7,s4];simp only;rw[o7,s5];simp only;rw[o7,s6];simp only;rw[o7];rw[Int.zero_add]
 try rfl
def a98 (c:Calendar) (f t:Int) (x:Int):Bool:=decide (f≤x)&&decide (x≤t)&&a0t c.Week (x.tmod 7).toNat
def h5p (c:Calendar) {α:Type} (k:Bool→α) (d:α) {r:Int} (h0:0≤r) (h1:r<7):(bif r==0 then k (wk c).x0 else bif r==1 then k (wk c).x1 else bif r==2 then k (wk c).x2 else bif r==3 then k (wk c).x3 else bif r==4 then k (wk c).x4 else bif r==5 then k (wk c).x5 else bif r==6 then k (wk c).x6 else d)=k (a0t c.Week r.toNat):=by
 have hcs:r=0∨r=1∨r=2∨r=3∨r=4∨r=5∨r=6:=by omega
 rcases hcs with h|h|h|h|h|h|h<;>subst h<;>rfl
def b9m {c:Calendar} {f t n:Int} {l:List Int} (hl:l.length<1000000000) (hf:0≤f) (ht:t≤109572) (hn : -1000000≤n) (hn2:n≤1000000) :
 b9 b8m (f,t,n,l,(l.length:Int),0,wk c,())=some (n-(l.filter (a98 c f t)).length,()):=by
 have h:=t6 (step:=b8m) (λ(i:Nat) (s:Int)=>-1000000-(i:Int)≤s∧s≤1000000) (λi s=>(f,t,s,l,(l.length:Int),(i:Int),wk c,())) l
  (λi x s=>.inl (bif a98 c f t x then s-1 else s)) (λs=>(s,())) (by rw[n9];omega)
  (λs _=>by simp only[b8m,dge,yaa])
  (λi x s hx hi=>by
   have hlt:=(zL hx)
   obtain ⟨b1,b2⟩:=hi;have hw:wr .i64 (s-1)=s-1:=a0g (by omega) (by omega);refine ⟨?_,λs' hs'=>?_⟩
   ·simp -zeta only[b8m,dlt hlt,d8,hx,yac,p9,wS i,hw];unfold a98;cases hq:(decide (f≤x)&&decide (x≤t)) with
    |false=>rfl
    |true=>
     simp only[yae,yad]at hq;have hr:rng 0 109572 x=true:=by rw[y9];omega
     have hm:=g56 (d:=x) (by omega);dsimp only;rw[b8z hr];simp only[yac,ya8];rw[h5p c (λv17=>(bif v17 then some (.inl (f,t,s-1,l,(l.length:Int),((i+1:Nat):Int),wk c,())) else some (.inl (f,t,s,l,(l.length:Int),((i+1:Nat):Int),wk c,())):Option ((Int×Int×Int×(List Int)×Int×Int×(V7 Bool)×Unit)⊕((Int×Unit))))) none hm.1 hm.2];cases a0t c.Week (x.tmod 7).toNat<;>rfl
   ·cases hs'
    cases a98 c f t x<;>simp only[yac,yaa]<;>omega) n (by omega)
 rw[a0f]at h;have key:∀(m:List Int) (s:Int),m.foldl (λs x=>bif a98 c f t x then s-1 else s) s=s-(m.filter (a98 c f t)).length:=by
  intro m
  induction m with
  |nil=>intro s;simp
  |cons x m ih=>
   intro s;rw[ybp,ih,ybq];cases a98 c f t x with
   |true=>simp only[yac,ybD,yaR];omega
   |false=>simp
 rw[key]at h;exact h
def c64 (p r:Int→Bool):∀(l:List Int),(∀x∈l,¬(p x=true∧r x=true))→(l.filter (λx=>p x||r x)).length=(l.filter p).length+(l.filter r).length:=by
 intro l
 induction l with
 |nil=>intro _;rfl
 |cons x l ih=>
  intro h;have hx:=h x (yaK ..);have:=ih (λy hy=>h y (yaN _ hy));simp only[ybq];cases hp:p x<;>cases hr:r x<;>simp_all<;>omega
def d9u {d:Int} {q:Int→Bool}:∀{l:List Int},(∀(j i:Nat) (x y:Int),i<j→l[i]?=some x→l[j]?=some y→x<y)→(l.filter (λx=>x==d&&q x)).length=if (l.any (λx=>x==d)&&q d)=true then 1 else 0:=by
 intro l
 induction l with
 |nil=>intro _;rfl
 |cons x l ih=>
  intro h;have h2:∀(j i:Nat) (x y:Int),i<j→l[i]?=some x→l[j]?=some y→x<y:=λj i a b hij ha hb=>h (j+1) (i+1) a b (by omega) (by simpa using ha) (by simpa using hb)
  have ih:=ih h2;rw[ybq,ycb];by_cases e:x=d
  ·subst e;have hn:l.any (λy=>y==x)=false:=by
    rw[ybL];intro y hy he;obtain ⟨j,hj⟩:=yaw hy;have:=h (j+1) 0 x y (by omega) (by simp) (by simpa using hj);have:y=x:=by simpa using he
    omega
   rw[hn]at ih;simp only[yal,ya8,Bool.true_or,ybw]at ih ⊢;cases q x with
   |true=>simp only[ybD,yaR];rw[ih];rfl
   |false=>simp only[yaz,ybd];exact ih
  ·have e2:(x==d)=false:=by simpa using e
   simp only[e2,ybw,ybg,yaz,ybd];exact ih
def f07 (c:Calendar) (f d:Int) (h0:0≤d):a0b c f d 0+a0b c f d 1+a0b c f d 2+a0b c f d 3+a0b c f d 4+a0b c f d 5+a0b c f d 6 =
 (a0b c f (d-1) 0+a0b c f (d-1) 1+a0b c f (d-1) 2+a0b c f (d-1) 3+a0b c f (d-1) 4+a0b c f (d-1) 5+a0b c f (d-1) 6)+(bif a0t c.Week (d.tmod 7).toNat then 1 else 0):=by
 have st:∀w:Nat,w<7→a0b c f d w=a0b c f (d-1) w+(bif a0t c.Week w then (if d % 7=w then 1 else 0) else 0):=by
  intro w hw;unfold a0b;have:=f1b (d:=d) (w:=w) h0 (by omega) (by omega);cases a0t c.Week w<;>simp only[yac,yaa]<;>omega
 rw[st 0 (by omega),st 1 (by omega),st 2 (by omega),st 3 (by omega),st 4 (by omega),st 5 (by omega),st 6 (by omega)];have e:(d.tmod 7).toNat=(d % 7).toNat:=by rw[Int.tmod_eq_emod_of_nonneg h0]
 rw[e];have hcs:d % 7=0∨d % 7=1∨d % 7=2∨d % 7=3∨d % 7=4∨d % 7=5∨d % 7=6:=by omega
 have z:∀b:Bool,(bif b then (0:Int) else 0)=0:=by intro b;cases b<;>rfl
 rcases hcs with h|h|h|h|h|h|h<;>rw[h]<;>simp[z]<;>omega
def d9t {c:Calendar} (hc:CalOk c) {f:Int} (hf:0≤f):∀k:Nat,f+k≤109573→
 a0b c f (f+k-1) 0+a0b c f (f+k-1) 1+a0b c f (f+k-1) 2+a0b c f (f+k-1) 3+a0b c f (f+k-1) 4+a0b c f (f+k-1) 5+a0b c f (f+k-1) 6-(c.Closed.filter (a98 c f (f+k-1))).length=c08 (a67 c) f k:=by
 intro k
 induction k with
 |zero=>
  intro _;have z:∀w:Nat,a0b c f (f+((0:Nat):Int)-1) w=0:=by
   intro w;unfold a0b;rw[show f+((0:Nat):Int)-1=f-1 by omega];cases a0t c.Week w<;>simp
  have e:c.Closed.filter (a98 c f (f+((0:Nat):Int)-1))=[]:=by
   rw[List.filter_eq_nil_iff];intro x _;unfold a98;simp only[yae,yad];omega
  rw[z,z,z,z,z,z,z,e]
  try rfl
 |succ k ih=>
  intro hk;have ih:=ih (by omega);rw[b3c,←ih];have ed:f+((k+1:Nat):Int)-1=f+(k:Int):=by omega
  rw[ed];rw[f07 c f (f+k) (by omega)];have e1:(c.Closed.filter (a98 c f (f+k))).length=(c.Closed.filter (a98 c f (f+k-1))).length+(c.Closed.filter (λx=>x==f+k&&a0t c.Week (x.tmod 7).toNat)).length:=by
   rw[←c64]
   ·congr 1;apply ycd;intro x _;unfold a98;by_cases h1:f≤x
    ·by_cases h2:x=f+k
     ·subst h2;have a:decide (f≤f+(k:Int))=true:=by rw[yad];omega
      have b:decide (f+(k:Int)≤f+(k:Int))=true:=by rw[yad];omega
      simp only[a,b,yal,ya8];cases decide (f+(k:Int)≤f+(k:Int)-1)<;>simp
     ·have a:(x==f+(k:Int))=false:=by simpa using h2
      have b:decide (x≤f+(k:Int))=decide (x≤f+(k:Int)-1):=by rw[decide_eq_decide];omega
      rw[a,b];simp
    ·have a:decide (f≤x)=false:=by rw[yaf];exact h1
     have b:(x==f+(k:Int))=false:=by
      have:¬x=f+(k:Int):=by omega
      simpa using this
     rw[a,b]
     try rfl
   ·intro x _;unfold a98;simp only[yae,yad,ya6];omega
  rw[e1,d9u (b3r hc.inc)];have hr:rng 0 109572 (f+(k:Int))=true:=by rw[y9];omega
  unfold a67;rw[hr];cases c.Closed.any (λx=>x==f+(k:Int))<;>cases a0t c.Week ((f+(k:Int)).tmod 7).toNat<;>simp<;>omega
def h5b {c:Calendar} (hc:CalOk c) (f t:Int):qu c f t=some (c08 (a67 c) (if f<0 then 0 else f) ((if 109572<t then 109572 else t)+1-(if f<0 then 0 else f)).toNat):=by
 unfold qu;generalize hF:(if f<0 then 0 else f)=F;generalize hT:(if 109572<t then 109572 else t)=T;have hF0:0≤F:=by rw[←hF];split<;>omega
 have hT0:T≤109572:=by rw[←hT];split<;>omega
 by_cases hk:T<F
 ·have h0:(T+1-F).toNat=0:=by omega
  simp only[hk,decide_true,yac,h0,c08]
 ·simp only[hk,decide_false,yaa,f4h];rw[show b9 c81 (F,T,0,(⟨a0t c.Week 0,a0t c.Week 1,a0t c.Week 2,a0t c.Week 3,a0t c.Week 4,a0t c.Week 5,a0t c.Week 6⟩:V7 Bool),0,c,(⟨a0t c.Week 0,a0t c.Week 1,a0t c.Week 2,a0t c.Week 3,a0t c.Week 4,a0t c.Week 5,a0t c.Week 6⟩:V7 Bool),())=_ from c2e (c:=c) hF0 (by omega) (by omega) hT0];simp only;have p0:=y3 (c:=c) (f:=F) (t:=T) hF0 (by omega) (by omega) hT0 (show 0<7 by omega);have p1:=y3 (c:=c) (f:=F) (t:=T) hF0 (by omega) (by omega) hT0 (show 1<7 by omega);have p2:=y3 (c:=c) (f:=F) (t:=T) hF0 (by omega) (by omega) hT0 (show 2<7 by omega);have p3:=y3 (c:=c) (f:=F) (t:=T) hF0 (by omega) (by omega) hT0 (show 3<7 by omega);have p4:=y3 (c:=c) (f:=F) (t:=T) hF0 (by omega) (by omega) hT0 (show 4<7 by omega);have p5:=y3 (c:=c) (f:=F) (t:=T) hF0 (by omega) (by omega) hT0 (show 5<7 by omega);have p6:=y3 (c:=c) (f:=F) (t:=T) hF0 (by omega) (by omega) hT0 (show 6<7 by omega);rw[b9m hc.len hF0 hT0 (by omega) (by omega)];simp only;have:=d9t hc hF0 (T+1-F).toNat (by omega);rw[show F+((T+1-F).toNat:Int)-1=T by omega]at this;rw[this]
end
section
open Go (IntKind)
def g1d {c:Calendar} (hc:CalOk c) {r:Rule} (hr:a5x r=true) (due back:Int):∃v,qc6 r c due back=some v∧qf8 r c due back=some v∧0≤v:=by
 have ec:∀n:Int,qc5 n=some (rng 0 109572 n):=λn=>by
  unfold qc5;simp -zeta only[p9]
  try rfl
 unfold qc6 qf8;simp -zeta only[h2r hc.len,c42 hc.len,h5b hc,h2j hc,ec,e26,a0s];dsimp only;cases (!(a0j c==0)||!(rng 0 109572 due))||!(rng 0 109572 back) with
 |true=>exact ⟨0,rfl,rfl,by omega⟩
 |false=>
  simp only[yaa];have hb:=c6r (p:=a67 c) (f:=if wr .i64 (due+1)<0 then 0 else wr .i64 (due+1)) ((if 109572<back then 109572 else back)+1-(if wr .i64 (due+1)<0 then 0 else wr .i64 (due+1))).toNat;have hk:((if 109572<back then 109572 else back)+1-(if wr .i64 (due+1)<0 then 0 else wr .i64 (due+1))).toNat≤109573:=by
   have h1:(if 109572<back then 109572 else back)≤109572:=by split<;>omega
   have h2:0≤(if wr .i64 (due+1)<0 then 0 else wr .i64 (due+1)):=by split<;>omega
   omega
  generalize c08 (a67 c) _ _=n at hb ⊢;generalize ((if 109572<back then 109572 else back)+1-(if wr .i64 (due+1)<0 then 0 else wr .i64 (due+1))).toNat=k at hb hk;cases decide (n≤r.Grace) with
  |true=>exact ⟨0,rfl,rfl,by omega⟩
  |false=>
   simp only[yaa];refine ⟨_,rfl,rfl,?_⟩;unfold a5x at hr;simp only[yae,y9]at hr;obtain ⟨⟨⟨⟨⟨_,⟨hf,_⟩,hm⟩,_⟩,_⟩,_⟩,_⟩:=hr;have hp:0≤n*r.Fine:=Int.mul_nonneg hb.1 hf.1;have hq:n*r.Fine≤109573*1000:=Int.mul_le_mul (by omega) hf.2 hf.1 (by omega);rw[a0g (by omega) (by omega)];split<;>omega
def b5c (p item kind:Int) (x:Charge):Bool:=(x.Patron==p&&x.Item==item)&&(kind==0||x.Kind==kind)
def f4m {l:List Charge} {p item kind:Int} (hl:l.length<1000000000):∃v,qbc l p item kind=some (l.filter (λx=>!(b5c p item kind x)),v):=by
 have hq:∀x:Charge,qcf x p item kind=some (b5c p item kind x):=λx=>by
  unfold qcf b5c;simp -zeta only[p9,a0s]
  try rfl
 have h:=t6 (step:=b7q (λ(g:Unit×Int×Int×Int×Unit) x0=>qcf x0 g.2.1 g.2.2.1 g.2.2.2.1)) (λ(i:Nat) (s:Int×Int×List Charge)=>s.2.2.length≤i)
  (λi s=>(((),(p,item,kind,())),s.1,s.2.1,l,(l.length:Int),(i:Int),s.2.2,())) l
  (λi x s=>.inl (bif b5c p item kind x then (wr .i64 (s.1+x.Paid),wr .i64 (s.2.1+1),s.2.2) else (s.1,s.2.1,s.2.2++[x]))) (λs=>(s.1,s.2.1,s.2.2,())) (by rw[n9];omega)
  (λs _=>by simp only[b7q,dge,yaa])
  (λi x s hx hi=>by
   have hlt:=(zL hx)
   have l1:∀z:Charge,decide (s.2.2.length+([z]:List Charge).length≤LIM)=true:=λz=>a1u (by simp;omega)
   refine ⟨?_,λs' hs'=>?_⟩
   ·simp only[b7q,dlt hlt,d8,hx,yac,hq,l1,wS i];cases b5c p item kind x<;>rfl
   ·cases hs'
    cases b5c p item kind x<;>simp<;>omega) (0,0,[]) (by simp)
 rw[a0f]at h;have key:∀(m:List Charge) (s:Int×Int×List Charge),∃a b,m.foldl (λs x=>bif b5c p item kind x then (wr .i64 (s.1+x.Paid),wr .i64 (s.2.1+1),s.2.2) else (s.1,s.2.1,s.2.2++[x])) s=(a,b,s.2.2++m.filter (λx=>!(b5c p item kind x))):=by
  intro m
  induction m with
  |nil=>intro s;exact ⟨s.1,s.2.1,by simp⟩
  |cons x m ih=>
   intro s;rw[ybp,ybq];cases b5c p item kind x with
   |true=>
    obtain ⟨a,b,e⟩:=ih (wr .i64 (s.1+x.Paid),wr .i64 (s.2.1+1),s.2.2);exact ⟨a,b,by simp only[yac];rw[e];simp⟩
   |false=>
    obtain ⟨a,b,e⟩:=ih (s.1,s.2.1,s.2.2++[x]);exact ⟨a,b,by simp only[yaa];rw[e];simp⟩
 obtain ⟨a,b,e⟩:=key l (0,0,[]);rw[e]at h;refine ⟨a,?_⟩;unfold qbc qaj;rw[show b9 (b7q (λ(g:Unit×Int×Int×Int×Unit) x0=>qcf x0 g.2.1 g.2.2.1 g.2.2.2.1)) (((),(p,item,kind,())),0,0,l,(l.length:Int),0,([]:List Charge),())=_ from h]
 try rfl
def f42 {l:List Charge} {p item kind:Int} (hl:l.length<1000000):∃v,qey l p item kind=some (l.filter (λx=>!(b5c p item kind x)),v):=by
 have h:=t6 (step:=c4u) (λ(i:Nat) (s:Int×List Charge)=>s.2.length≤i)
  (λi s=>(l,p,item,kind,s.1,(i:Int),s.2,())) l
  (λi x s=>.inl (bif b5c p item kind x then (wr .i64 (s.1+x.Paid),s.2) else (s.1,s.2++[x]))) (λs=>(s.1,s.2,())) (by rw[n9];omega)
  (λs _=>by simp only[c4u,dge,yaa])
  (λi x s hx hi=>by
   have hlt:=(zL hx)
   have l1:∀z:Charge,decide (s.2.length+([z]:List Charge).length≤LIM)=true:=λz=>a1u (by simp;omega)
   refine ⟨?_,λs' hs'=>?_⟩
   ·simp -zeta only[c4u,dlt hlt,d8,hx,yac,p9,a0s,l1,wS i];dsimp only;unfold b5c;cases ((x.Patron==p&&x.Item==item)&&(kind==0||x.Kind==kind))<;>rfl
   ·cases hs'
    cases b5c p item kind x<;>simp<;>omega) (0,[]) (by simp)
 rw[a0f]at h;have key:∀(m:List Charge) (s:Int×List Charge),∃a,m.foldl (λs x=>bif b5c p item kind x then (wr .i64 (s.1+x.Paid),s.2) else (s.1,s.2++[x])) s=(a,s.2++m.filter (λx=>!(b5c p item kind x))):=by
  intro m
  induction m with
  |nil=>intro s;exact ⟨s.1,by simp⟩
  |cons x m ih=>
   intro s;rw[ybp,ybq];cases b5c p item kind x with
   |true=>
    obtain ⟨a,e⟩:=ih (wr .i64 (s.1+x.Paid),s.2);exact ⟨a,by simp only[yac];rw[e];simp⟩
   |false=>
    obtain ⟨a,e⟩:=ih (s.1,s.2++[x]);exact ⟨a,by simp only[yaa];rw[e];simp⟩
 obtain ⟨a,e⟩:=key l (0,[]);rw[e]at h;refine ⟨a,?_⟩;unfold qey;rw[show b9 c4u (l,p,item,kind,0,0,([]:List Charge),())=_ from h]
 try rfl
def e75 {c:Circ} (h:Short c) {l:List Charge} (hl:l.length<1000000000) (n:Int):Short (a5j c l n):=by
 obtain ⟨a1,a2,a3,a4,a5,a6,a7,a8,a9,a10,a11,a12,a13⟩:=h;exact ⟨a1,a2,a3,a4,hl,a6,a7,a8,a9,a10,a11,a12,a13⟩
def a9l (c:Circ) (i:Nat) (x:Item) (branch:Int) (u:Custody) (l:List Loan):Circ:=i7 (z8 c i x ⟨c.Today,x.ID,4,branch,0⟩ u) l
def c5z {c:Circ} (h:MidP c) (hln:c.Loans.length<100000000) {i:Nat} {x:Item} (hx:c.Items[i]?=some x) {n:Loan} (hn:c.Loans.find? (λn=>n.Item==x.ID)=some n) {branch:Int} (hb:rng 1 4 branch=true) :
 c6a (qcl (i:Int) branch ⟨c,0⟩) (qei c x.ID branch) (λd=>MidP d∧∃u ch nc,p8 x.Custody ⟨c.Today,x.ID,4,branch,0⟩=(u,0)∧d=a5j (a9l c i x branch u (a8u c.Loans x.ID).1) ch nc):=by
 unfold qcl qei;simp only[d8,hx];rcases a92 h hx 4 branch 0 with ⟨u,ha,m1,m2,hm2⟩|⟨e,he,m1,m2⟩
 ·rw[m1,m2];have hat:=a8r hm2 (a8d hx ⟨c.Today,x.ID,4,branch,0⟩ u);have hx2:=a8d hx ⟨c.Today,x.ID,4,branch,0⟩ u;have hbk:a8u c.Loans x.ID=((a8u c.Loans x.ID).1,n,0):=by unfold a8u;rw[hn]
  have bl:=e61 (item:=x.ID) h.short.loans;have hL:(z8 c i x ⟨c.Today,x.ID,4,branch,0⟩ u).Loans=c.Loans:=rfl;simp only[yal,yak,yaa,hL,h1s hln,f45 hln];rw[hbk];simp only[yal,yak,yaa,a9k];have hm3:=c3e hm2 bl;show c6a _ _ (λd=>MidP d∧∃u ch nc,p8 x.Custody ⟨c.Today,x.ID,4,branch,0⟩=(u,0)∧d=a5j (a9l c i x branch u (a8u c.Loans x.ID).1) ch nc)
  generalize hl:(a8u c.Loans x.ID).1=l at hm3 bl;have hat3:qgm (i7 (z8 c i x ⟨c.Today,x.ID,4,branch,0⟩ u) l) x.ID=some (i:Int):=a8r (x:=a04 u x) hm3 hx2;have hc3:a9l c i x branch u l=i7 (z8 c i x ⟨c.Today,x.ID,4,branch,0⟩ u) l:=rfl;rw[show (⟨(z8 c i x ⟨c.Today,x.ID,4,branch,0⟩ u).Today,(z8 c i x ⟨c.Today,x.ID,4,branch,0⟩ u).Items,(z8 c i x ⟨c.Today,x.ID,4,branch,0⟩ u).Patrons,l,(z8 c i x ⟨c.Today,x.ID,4,branch,0⟩ u).Holds,(z8 c i x ⟨c.Today,x.ID,4,branch,0⟩ u).Charges,(z8 c i x ⟨c.Today,x.ID,4,branch,0⟩ u).Rules,(z8 c i x ⟨c.Today,x.ID,4,branch,0⟩ u).Cals,(z8 c i x ⟨c.Today,x.ID,4,branch,0⟩ u).Moves,(z8 c i x ⟨c.Today,x.ID,4,branch,0⟩ u).NextHold,(z8 c i x ⟨c.Today,x.ID,4,branch,0⟩ u).NextCharge,(z8 c i x ⟨c.Today,x.ID,4,branch,0⟩ u).Local⟩:Circ)=i7 (z8 c i x ⟨c.Today,x.ID,4,branch,0⟩ u) l from rfl];rw[hat3];simp only[d8,hx2];have hru:qfv (i7 (z8 c i x ⟨c.Today,x.ID,4,branch,0⟩ u) l) n.Patron (a04 u x)=qfv (i7 (z8 c i x ⟨c.Today,x.ID,4,branch,0⟩ u) l) n.Patron x:=rfl;rw[hru,c0v hm3.short];obtain ⟨r,b,hr,hrm⟩:=b5g (c:=i7 (z8 c i x ⟨c.Today,x.ID,4,branch,0⟩ u) l) (p:=n.Patron) (x:=x) hm3.short;have hT:(z8 c i x ⟨c.Today,x.ID,4,branch,0⟩ u).Today=(i7 (z8 c i x ⟨c.Today,x.ID,4,branch,0⟩ u) l).Today:=rfl;rw[hr,hT];rw[←hc3]at hm3 hrm ⊢;have fin:∀d:Circ,MidP d→(∃ch nc,d=a5j (a9l c i x branch u l) ch nc)→c6a (match qbc d.Charges n.Patron x.ID 2 with
   |some (r19,r20)=>some ((),(⟨⟨d.Today,d.Items,d.Patrons,d.Loans,d.Holds,r19,d.Rules,d.Cals,d.Moves,d.NextHold,d.NextCharge,d.Local⟩,0⟩:Circ_desk))
   |none=>none) (match qey d.Charges n.Patron x.ID 2 with
   |some (r21,r22)=>some ({d with Charges:=r21},0)
   |none=>none) (λd=>MidP d∧∃u ch nc,p8 x.Custody ⟨c.Today,x.ID,4,branch,0⟩=(u,0)∧d=a5j (a9l c i x branch u l) ch nc):=by
   intro d hd hw;obtain ⟨v1,f1⟩:=f4m (p:=n.Patron) (item:=x.ID) (kind:=2) hd.short.charges;obtain ⟨v2,f2⟩:=f42 (p:=n.Patron) (item:=x.ID) (kind:=2) hd.chN;have hfl:=yaX (λy=>!(b5c n.Patron x.ID 2 y)) d.Charges;have:=hd.chN;rw[f1,f2];obtain ⟨ch,nc,rfl⟩:=hw;exact .inl ⟨_,rfl,rfl,d0j hd (by omega) nc,u,_,nc,ha,rfl⟩
  have f0:=fin (a9l c i x branch u l) hm3 ⟨(a9l c i x branch u l).Charges,(a9l c i x branch u l).NextCharge,rfl⟩;cases b with
  |false=>exact f0
  |true=>
   obtain ⟨v,lv1,lv2,lv0⟩:=g1d (hm3.cal branch) (hm3.rules r (hrm rfl)) n.Due (a9l c i x branch u l).Today;simp only[yac,c4l hb,e3d hb,lv1,lv2];by_cases hv:v=0
   ·subst hv;exact f0
   ·have hv2:(v==0)=false:=by simpa using hv
    have hv3:decide (0<v)=true:=by rw[yad];omega
    simp only[hv2,hv3,yar,yac];rcases b6r hm3 n.Patron x.ID 1 v with ⟨d,q1,q2,hd,hd2,-⟩|⟨d,e,he,q1,q2,hsd⟩
    ·rw[q1,q2];have hmd:MidP d:=by rw[hd];exact d0j hm3 (b3a hd2) _
     exact fin d hmd ⟨_,_,hd⟩
    ·obtain ⟨v1,f1⟩:=f4m (p:=n.Patron) (item:=x.ID) (kind:=2) hsd.charges;have hfl:=yaX (λy=>!(b5c n.Patron x.ID 2 y)) d.Charges;have:=hsd.charges;have he2:(e==0)=false:=by simpa using he
     rw[q1,q2];simp only[he2,yar,yac,f1];exact .inr ⟨a5j d (d.Charges.filter (λy=>!(b5c n.Patron x.ID 2 y))) d.NextCharge,e,he,rfl,rfl,e75 hsd (by omega) _⟩
 ·have he2:(e==0)=false:=by simpa using he
  rw[m1,m2];simp only[he2,yar,yac];exact .inr ⟨c,e,he,rfl,rfl,h.short⟩
end
section
open Go (IntKind)
def b9e (i item:Int) (d:Circ_desk):Option (Circ×Int×Int):=
 match qab d.c item with
 |some (o,ok)=>
  match (bif ok&&o.State==2 then qco i o d else qd5 i d) with
  |some (_,v)=>(match qab v.c item with
   |some (r,_)=>(match qbi r.ID v with
    |some ((a,b,e),_)=>some (a,b,e)
    |none=>none)
   |none=>none)
  |none=>none
 |none=>none
def e3k (item e:Int) (c:Circ):Option (Circ×Int×Int):=
 bif !(e==0) then some (y6,0,e)
 else match qet c item with
  |some (o,ok)=>(match (bif ok then qe4 c item o else qfy c item) with
   |some (d,f)=>(bif !(f==0) then some (y6,0,f) else match qet d item with
    |some (r,_)=>some (d,r.ID,0)
    |none=>none)
   |none=>none)
  |none=>none
def d62 (i item:Int) (a:Option (Unit×Circ_desk)):Option (Circ×Int×Int):=match a with|some (_,v)=>b9e i item v|none=>none
def d3p (item:Int) (a:Option (Circ×Int)):Option (Circ×Int×Int):=match a with|some (c,e)=>e3k item e c|none=>none
def b3b {c:Circ} (hs:Short c) (i item e:Int) (he:e≠0):b9e i item ⟨c,e⟩=some (y6,0,e):=by
 unfold b9e;simp only[a94 hs.holds,b57 c i e _ he,b9s c i e he];cases ((p7 c item).2&&(p7 c item).1.State==2)<;>
  simp only[yac,yaa,a94 hs.holds,a78 c _ e he]
def a1n (u:Custody):a3f u=(u.State==4||u.State==9||u.State==10):=by
 unfold a3f;cases u.State==4<;>cases u.State==9<;>rfl
def h1t {c:Circ} (hs:Short c) {i:Nat} {x:Item} (hf:a66 (λy=>y.ID==x.ID) c.Items=(i:Int)) (hx:c.Items[i]?=some x) (branch:Int) :
 qdl c x.ID branch=(bif a3f x.Custody then d62 i x.ID (qcl i branch ⟨c,0⟩) else bif x.Custody.State==8 then d62 i x.ID (qa5 i 4 branch 0 ⟨c,0⟩)
  else bif x.Custody.State==11 then d62 i x.ID (qa5 i 14 branch 0 ⟨c,0⟩) else bif x.Custody.State==6 then d62 i x.ID (qa5 i 7 branch 0 ⟨c,0⟩) else b9e i x.ID ⟨c,12⟩):=by
 have leaf:∀v23:Circ_desk,(match qab v23.c x.ID with
  |some (r25,r26)=>
   let k41:Bool→Option (Circ×Int×Int):=λv27=>
    let k:Circ_desk→Option (Circ×Int×Int):=λv32=>
     match qab v32.c x.ID with
     |some (r34,r35)=>(match qbi r34.ID v32 with
      |some ((r37,r38,r39),v40)=>some (r37,r38,r39)
      |none=>none)
     |none=>none
    bif v27 then (match qco (i:Int) r25 v23 with|some (_,v29)=>k v29|none=>none)
    else (match qd5 (i:Int) v23 with|some (_,v31)=>k v31|none=>none)
   bif r26 then k41 (r25.State==2) else k41 false
  |none=>none)=b9e i x.ID v23:=by
  intro v;unfold b9e;cases qab v.c x.ID with
  |none=>rfl
  |some q=>
   obtain ⟨o,ok⟩:=q;dsimp only;cases ok with
   |false=>rfl
   |true=>cases o.State==2<;>rfl
 have leaf2:∀a:Option (Unit×Circ_desk),d62 i x.ID a=d62 i x.ID a:=λ_=>rfl
 unfold qdl;simp -zeta only[qb9,a7i hs,hf,a4f,yaa,d8,hx];rw[a1n];have tb:∀(a:Option (Unit×Circ_desk)) (K:Circ_desk→Option (Circ×Int×Int)),(∀v,K v=b9e i x.ID v)→(match a with|some (_,v)=>K v|none=>none)=d62 i x.ID a:=by
  intro a K hK;unfold d62;cases a with
  |none=>rfl
  |some p=>exact hK _
 cases x.Custody.State==4 with
 |true=>exact tb _ _ leaf
 |false=>
  cases x.Custody.State==9 with
  |true=>exact tb _ _ leaf
  |false=>
   cases x.Custody.State==10 with
   |true=>exact tb _ _ leaf
   |false=>
    cases x.Custody.State==8 with
    |true=>exact tb _ _ leaf
    |false=>
     cases x.Custody.State==11 with
     |true=>exact tb _ _ leaf
     |false=>
      cases x.Custody.State==6 with
      |true=>exact tb _ _ leaf
      |false=>exact leaf _
def f44 {c:Circ} (hs:Short c) {i:Nat} {x:Item} (hf:qgm c x.ID=some (i:Int)) (hx:c.Items[i]?=some x) (branch:Int) :
 qf0 c x.ID branch=(bif a3f x.Custody then (bif decide (branch<1)||decide (4<branch) then some (y6,0,1) else d3p x.ID (qei c x.ID branch)) else bif x.Custody.State==8 then d3p x.ID (qe5 c x.ID 4 branch 0)
  else bif x.Custody.State==11 then d3p x.ID (qe5 c x.ID 14 branch 0) else bif x.Custody.State==6 then d3p x.ID (qe5 c x.ID 7 branch 0) else e3k x.ID 12 c):=by
 have leaf:∀(e21:Int) (c22:Circ),(bif !(e21==0) then (some (y6,0,e21):Option (Circ×Int×Int))
  else match qet c22 x.ID with
   |some (r24,r25)=>
    let k37:Int→Circ→Option (Circ×Int×Int):=λe32 c33=>
     bif !(e32==0) then some (y6,0,e32)
     else match qet c33 x.ID with
      |some (r35,r36)=>some (c33,r35.ID,0)
      |none=>none
    bif r25 then (match qe4 c22 x.ID r24 with|some (r27,r28)=>k37 r28 r27|none=>none)
    else (match qfy c22 x.ID with|some (r30,r31)=>k37 r31 r30|none=>none)
   |none=>none)=e3k x.ID e21 c22:=by
  intro e d;unfold e3k;cases !(e==0) with
  |true=>rfl
  |false=>
   simp only[yaa];cases qet d x.ID with
   |none=>rfl
   |some q=>
    obtain ⟨o,ok⟩:=q;cases ok<;>rfl
 have tb:∀(a:Option (Circ×Int)) (K:Int→Circ→Option (Circ×Int×Int)),(∀e v,K e v=e3k x.ID e v)→(match a with|some (v,e)=>K e v|none=>none)=d3p x.ID a:=by
  intro a K hK;unfold d3p;cases a with
  |none=>rfl
  |some p=>exact hK _ _
 unfold qf0;simp -zeta only[hf,a4f,yaa,d8,hx,e2z];cases a3f x.Custody with
 |true=>
  cases decide (branch<1) with
  |true=>rfl
  |false=>
   cases decide (4<branch) with
   |true=>rfl
   |false=>exact tb _ _ leaf
 |false=>
  cases x.Custody.State==8 with
  |true=>exact tb _ _ leaf
  |false=>
   cases x.Custody.State==11 with
   |true=>exact tb _ _ leaf
   |false=>
    cases x.Custody.State==6 with
    |true=>exact tb _ _ leaf
    |false=>exact leaf 12 c
def d73 {i:Nat} {item:Int} {a:Option (Unit×Circ_desk)} {b:Option (Circ×Int)} {Q:Circ→Prop} (hs:c6a a b Q)
 (hQ:∀d,Q d→MidP d∧∃y,d.Items[i]?=some y∧y.ID=item∧((p7 d item).2=true→(p7 d item).1.State=2)):b09 (d62 i item a) (d3p item b):=by
 rcases hs with ⟨d,rfl,rfl,hq⟩|⟨d,e,he,rfl,rfl,hsd⟩
 ·obtain ⟨hd,y,hy,rfl,hC⟩:=hQ d hq;unfold d62 d3p b9e e3k;simp only[yal,yak,yaa,a94 hd.short.holds,b48 hd.short.holds];have fin:∀(a:Option (Unit×Circ_desk)) (b:Option (Circ×Int)),c6a a b (λd=>MidP d∧Frame d d)→True:=λ_ _ _=>trivial
  cases hok:(p7 d y.ID).2 with
  |true=>
   have h2:((p7 d y.ID).1.State==2)=true:=by simpa using hC hok
   simp only[h2,ybl,yac];rcases e3j hd hy (p7 d y.ID).1 with ⟨d2,a1,a2,hd2,-⟩|⟨d2,e,he,a1,a2,hsd⟩
   ·rw[a1,a2];simp only[a94 hd2.short.holds,b48 hd2.short.holds,yal,yak,yaa,c67];exact ⟨_,_,_,rfl,rfl,hd2.short⟩
   ·have he2:(e==0)=false:=by simpa using he
    rw[a1,a2];simp only[a94 hsd.holds,a78 d2 _ e he,he2,yar,yac];exact w6
  |false=>
   simp only[ybw,yaa];rcases e6z hd hy with ⟨d2,a1,a2,hd2,-⟩|⟨d2,e,he,a1,a2,hsd⟩
   ·rw[a1,a2];simp only[a94 hd2.short.holds,b48 hd2.short.holds,yal,yak,yaa,c67];exact ⟨_,_,_,rfl,rfl,hd2.short⟩
   ·have he2:(e==0)=false:=by simpa using he
    rw[a1,a2];simp only[a94 hsd.holds,a78 d2 _ e he,he2,yar,yac];exact w6
 ·have he2:(e==0)=false:=by simpa using he
  unfold d62 d3p;simp only[b3b hsd _ _ e he];unfold e3k;simp only[he2,yar,yac];exact w6
def d3m {u:Custody} {day item kind branch who:Int} (h:(decide (branch<1)||decide (4<branch))=true):p8 u ⟨day,item,kind,branch,who⟩=(⟨0,0,0,0⟩,1):=by
 have hw:a87 ⟨day,item,kind,branch,who⟩=false:=by
  unfold a87;simp only[ybr,yad]at h;rcases h with h|h
  ·have:decide (1≤branch)=false:=by rw[yaf];omega
   simp[this]
  ·have:decide (branch≤4)=false:=by rw[yaf];omega
   simp[this]
 unfold p8;rw[hw];simp
def d32 {c:Circ} (h:FitP c) {x:Item} (hx:x∈c.Items) (hs:¬x.Custody.State=5) {o:Hold} (ho:o∈c.Holds) (hg:o.Got=x.ID):o.State=2∧x.Custody.State=6:=by
 have hsh:=a3a h.holds ho;have hid:=g05 h hx;have h1:¬o.State=1:=by
  intro e;unfold s8 at hsh;have h2:=a0q hsh (by decide);rw[h2]at hsh;simp only[yaa]at hsh;have h3:=a0q hsh (by decide);rw[h3]at hsh;simp only[yaa]at hsh;have h4:=a0q hsh (by decide);simp only[yai]at h4;have e1:(o.State==1)=true:=by simpa using e
  have e2:decide (0<o.Got)=true:=by rw[yad,hg];omega
  rw[e1,e2]at h4;exact absurd h4.1 (by decide)
 have hG:=h.holdG o ho;unfold a3k at hG;have hfind:c.Items.find? (λy=>y.ID==o.Got)=some x:=by
  rw[hg];exact a22 (key:=λy:Item=>y.ID) (a3c h.items) hx
 rw[hfind]at hG;have e1:(o.State==1)=false:=by simpa using h1
 rw[e1]at hG;simp only[yae,ybg,yan,ya1,yai,yay,ya6,yaY,ne_eq]at hG;obtain ⟨_,⟨_,q3⟩,q2⟩:=hG;rcases b65 hsh with e|e|e
 ·exact absurd e h1
 ·refine ⟨e,?_⟩;rcases q2 with q2|q2
  ·exact absurd e q2
  ·exact q2.1.1
 ·rcases q3 with q3|q3
  ·exact absurd e q3
  ·exact absurd q3.1.1 hs
def a5q {c:Circ} {item:Int} (h:(p7 c item).2=true):(p7 c item).1∈c.Holds∧(p7 c item).1.Got=item:=by
 unfold p7 at h ⊢;cases hq:c.Holds.find? (λh=>h.Got==item) with
 |none=>rw[hq]at h;cases h
 |some o=>exact ⟨yaZ hq,by have:=ybs hq;simpa using this⟩
def b9a {c d:Circ} {item:Int} (h:d.Holds=c.Holds):p7 d item=p7 c item:=by unfold p7;rw[h]
def b6p {c:Circ} (m:MidP c) (h:FitP c) (hln:c.Loans.length<100000000) {item branch:Int}:b09 (qdl c item branch) (qf0 c item branch):=by
 rcases a79 m item with ⟨h1,h2,-⟩|⟨i,x,h1,h2,hx,hid,-⟩
 ·unfold qdl qf0;simp -zeta only[qb9,a7i m.short];rw[h1,h2];exact w6
 ·subst hid;rw[h1t m.short h1 hx,f44 m.short h2 hx];have hmem:=yag hx;have hC:∀d:Circ,d.Holds=c.Holds→¬x.Custody.State=5→((p7 d x.ID).2=true→(p7 d x.ID).1.State=2):=by
   intro d hd h5 hk;rw[b9a hd]at hk ⊢;have:=a5q hk;exact (d32 h hmem h5 this.1 this.2).1
  have mv:∀kind:Int,¬x.Custody.State=5→b09 (d62 i x.ID (qa5 i kind branch 0 ⟨c,0⟩)) (d3p x.ID (qe5 c x.ID kind branch 0)):=by
   intro kind h5;refine d73 (Q:=λd=>∃u,d=z8 c i x ⟨c.Today,x.ID,kind,branch,0⟩ u∧MidP d) ?_ ?_
   ·rcases a92 m hx kind branch 0 with ⟨u,ha,m1,m2,hm2⟩|⟨e,he,m1,m2⟩
    ·exact .inl ⟨_,m1,m2,u,rfl,hm2⟩
    ·exact .inr ⟨c,e,he,m1,m2,m.short⟩
   ·rintro d ⟨u,rfl,hd⟩;exact ⟨hd,a04 u x,a8d hx _ u,rfl,hC _ rfl h5⟩
  cases hp:a3f x.Custody with
  |true=>
   simp only[yac];have h5:¬x.Custody.State=5:=by
    intro e;rw[a1n,e]at hp;cases hp
   have hl:=h.itemG x hmem;rw[hp]at hl;unfold a3r at hl;cases hb:(decide (branch<1)||decide (4<branch)) with
   |true=>
    simp only[yac];have dm:=a7j (kind:=4) (branch:=branch) (who:=0) m.short (by have:=m.moves;omega) hx;rw[d3m hb]at dm;have e1:qcl (i:Int) branch ⟨c,0⟩=some ((),⟨c,1⟩):=by
     unfold qcl;simp only[d8,hx];rw[dm]
     try rfl
    rw[e1];show b09 (b9e i x.ID ⟨c,1⟩) _
    rw[b3b m.short _ _ 1 (by decide)];exact w6
   |false=>
    simp only[yaa];have hbr:rng 1 4 branch=true:=by
     rw[y9];simp only[yai,yaf]at hb;omega
    cases hn:c.Loans.find? (λn=>n.Item==x.ID) with
    |none=>rw[hn]at hl;cases hl
    |some n=>
     refine d73 (c5z m hln hx hn hbr) ?_;rintro d ⟨hd,u,ch,nc,-,rfl⟩;exact ⟨hd,a04 u x,a8d hx ⟨c.Today,x.ID,4,branch,0⟩ u,rfl,hC _ rfl h5⟩
  |false=>
   simp only[yaa];cases h8:x.Custody.State==8 with
   |true=>exact mv 4 (by have:x.Custody.State=8:=(by simpa using h8);omega)
   |false=>
    simp only[yaa];cases h11:x.Custody.State==11 with
    |true=>exact mv 14 (by have:x.Custody.State=11:=(by simpa using h11);omega)
    |false=>
     simp only[yaa];cases h6:x.Custody.State==6 with
     |true=>exact mv 7 (by have:x.Custody.State=6:=(by simpa using h6);omega)
     |false=>
      simp only[yaa];rw[b3b m.short _ _ 12 (by decide)];exact w6
end
section
open Go (IntKind)
def g2k {c:Circ} (h:MidP c) (r:Int):(c.Holds.filter (a0d r c.Today)).length<40:=by
 have e:c.Holds.filter (a0d r c.Today)=(c.Holds.filter (λo=>o.Record==r)).filter (a0d r c.Today):=by
  rw[ybV];apply ycd;intro o _;unfold a0d;cases o.Record==r<;>simp
 rw[e];have:=yaX (a0d r c.Today) (c.Holds.filter (λo=>o.Record==r));have:=h.few r;omega
def f0d {c:Circ} (h:MidP c) (x:Item) (branch:Int):qaz c.Holds x branch c.Today c.Local=some (b4l branch c.Local x (o5 (c.Holds.filter (a0d x.Record c.Today))) 0):=
 e2p h.holdsN (g2k h x.Record) (λo ho=>(h.rank o ho).1)
end
section
open Go (IntKind)
def a6u (c:Circ) (n:Int):Circ:=⟨n,c.Items,c.Patrons,c.Loans,c.Holds,c.Charges,c.Rules,c.Cals,c.Moves,c.NextHold,c.NextCharge,c.Local⟩
end
section
open Go (IntKind)
def b1j (m:Move) (item:Int):∀(l:List Move) (i:Nat) (c:Custody),
 a0i i (l++[m]) item c=(match a0i i l item c with
  |.inl c'=>bif m.Item==item then (bif (p8 c' m).2==0 then .inl (p8 c' m).1 else .inr (((i+l.length:Nat):Int),(p8 c' m).2)) else .inl c'
  |.inr p=>.inr p):=by
 intro l
 induction l with
 |nil=>
  intro i c;simp only[yaU,a0i,ybh,ya9]
 |cons x l ih=>
  intro i c;simp only[ybA,a0i];rw[ih,ih];have e:i+1+l.length=i+(x::l).length:=by simp;omega
  rw[e];cases x.Item==item with
  |false=>rfl
  |true=>
   simp only[yac];cases (p8 c x).2==0<;>rfl
def c5j {branch:Int} {l:List Move} {m:Move} {item:Int} (h:(m.Item==item)=false) (hr:(a0v branch l item).2.2=0):a0v branch (l++[m]) item=a0v branch l item:=by
 unfold a0v at *;rw[b1j,h];cases decide (branch<1)||decide (4<branch) with
 |true=>rfl
 |false=>cases a0i 0 l item (b1w branch)<;>rfl
def c9b {branch:Int} {l:List Move} {m:Move} {item:Int} {u:Custody} (h:m.Item=item) (hr:(a0v branch l item).2.2=0) (ha:p8 (a0v branch l item).1 m=(u,0)):a0v branch (l++[m]) item=(u,-1,0):=by
 unfold a0v at *;rw[b1j,show (m.Item==item)=true by simpa using h];cases hb:(decide (branch<1)||decide (4<branch)) with
 |true=>rw[hb]at hr;cases hr
 |false=>
  rw[hb]at hr ha;simp only[yaa]at hr ha ⊢;cases hf:a0i 0 l item (b1w branch) with
  |inr p=>
   obtain ⟨i,e⟩:=p;rw[hf]at hr ha;simp only at hr ha;subst hr;exact absurd hf (by
    have key:∀(l:List Move) (i:Nat) (c:Custody) (j:Int),a0i i l item c≠.inr (j,0):=by
     intro l
     induction l with
     |nil=>intro i c j h;cases h
     |cons x l ih=>
      intro i c j h;unfold a0i at h;cases hx:x.Item==item with
      |false=>rw[hx]at h;exact ih _ _ _ h
      |true=>
       rw[hx]at h;simp only[yac]at h;cases hz:(p8 c x).2==0 with
       |true=>rw[hz]at h;exact ih _ _ _ h
       |false=>
        rw[hz]at h;simp only[yaa]at h;have h2:=Sum.inr.inj h;have h3:(p8 c x).2=0:=(Prod.mk.inj h2).2;rw[h3]at hz;cases hz
    exact key _ _ _ _)
  |inl c'=>
   rw[hf]at ha;simp only at ha ⊢;rw[ha]
   try rfl
def b8w (x:Item) (u:Custody) (z:Item):Item:=bif z.ID==x.ID then a04 u z else z
def d24 {l:List Item} {i:Nat} {x:Item} {u:Custody} (hi:∀(i:Nat) (x:Item) (j:Nat) (y:Item),l[i]?=some x→l[j]?=some y→x.ID=y.ID→i=j) (hx:l[i]?=some x):l.set i (a04 u x)=l.map (b8w x u):=by
 apply List.ext_getElem?;intro j;rw[yaO];by_cases e:i=j
 ·subst e;rw[ybx (zL hx),hx];unfold b8w;simp
 ·rw[List.getElem?_set_ne e];cases hj:l[j]? with
  |none=>rfl
  |some y=>
   have:(y.ID==x.ID)=false:=by
    rw[yaY];intro q;exact e (hi i x j y hx hj q.symm)
   show some y=some (b8w x u y)
   unfold b8w;rw[this];rfl
def c00 (x:Item) (u:Custody) (z:Item):(b8w x u z).ID=z.ID:=by unfold b8w;cases z.ID==x.ID<;>rfl
def d6o (x:Item) (u:Custody) (z:Item):a0a (b8w x u z)=a0a z:=by unfold b8w;cases z.ID==x.ID<;>rfl
def c9h (x:Item) (u:Custody) (z:Item):(b8w x u z).Branch=z.Branch:=by unfold b8w;cases z.ID==x.ID<;>rfl
def c2p (x:Item) (u:Custody) (id:Int) (l:List Item):(l.map (b8w x u)).find? (λz=>z.ID==id)=(l.find? (λz=>z.ID==id)).map (b8w x u):=by
 rw[List.find?_map];congr 2;funext z;show ((b8w x u z).ID==id)=_
 rw[c00]
def e2k {X Y:Type} (g:X→Y) (f:Y→Bool) (l:List X) (i:Nat):u7 (l.map g) i f=u7 l i (λz=>f (g z)):=by
 unfold u7;cases i with
 |zero=>rfl
 |succ j=>
  simp only;rw[yaO];cases l[j]?<;>rfl
def d4s {c:Circ} (h:a1d c=true) (hi:∀(i:Nat) (x:Item) (j:Nat) (y:Item),c.Items[i]?=some x→c.Items[j]?=some y→x.ID=y.ID→i=j) {i:Nat} {x:Item} (hx:c.Items[i]?=some x) {m:Move} {u:Custody}
 (hm:m.Item=x.ID) (ha:p8 x.Custody m=(u,0)) (hl:c.Moves.length<2000):a1d (z8 c i x m u)=true:=by
 have hall:=λ(y:Item) (hy:y∈c.Items)=>a7p h hy
 have hmem:=yag hx;unfold a1d at h ⊢;simp only[yae]at h ⊢;obtain ⟨h1,h2,h3,h4⟩:=h;have hit:(z8 c i x m u).Items=c.Items.map (b8w x u):=d24 hi hx;have hmv:(z8 c i x m u).Moves=c.Moves++[m]:=rfl;rw[hit,hmv];refine ⟨?_,?_,?_,?_⟩
 ·rw[ybn,yaP];simp only[yan,yai,yaf]at h1 ⊢;refine ⟨h1.1,?_⟩;simp;omega
 ·rw[a39]at h2 ⊢;intro k y hk;rw[yaO]at hk;cases hz:c.Items[k]? with
  |none=>rw[hz]at hk;cases hk
  |some z=>
   rw[hz]at hk;cases hk
   have:=h2 k z hz;rw[d6o,e2k,c00];simp only[c00];exact this
 ·unfold c0p at h3 ⊢;rw[hmv,hit,List.all_append];simp only[yae,yaj]at h3 ⊢;refine ⟨λw hw=>?_,λw hw=>?_⟩
  ·rw[c2p,Option.isSome_map];exact h3 w hw
  ·have:w=m:=by simpa using hw
   subst this;rw[c2p,Option.isSome_map,hm,List.find?_isSome];exact ⟨x,hmem,by simp⟩
 ·rw[yaj];intro y hy;obtain ⟨z,hz,rfl⟩:=ybe.1 hy;have hr:=hall z hz;unfold a1a at hr ⊢;simp only[yan,yai,yay,ya6]at hr ⊢;obtain ⟨r1,r2⟩:=hr;have r2:=a2a.1 r2;rw[hmv,c9h,c00];cases hq:z.ID==x.ID with
  |true=>
   have hid:z.ID=x.ID:=by simpa using hq
   have hzx:z=x:=by
    obtain ⟨j,hj⟩:=List.mem_iff_getElem?.1 hz;have:=hi j z i x hj hx hid;subst this;rw[hx]at hj;cases hj;rfl
   subst hzx;have:=c9b (branch:=z.Branch) (l:=c.Moves) (item:=z.ID) hm r1 (by rw[r2];exact ha);rw[this];refine ⟨rfl,?_⟩;rw[a2a];unfold b8w;rw[hq];rfl
  |false=>
   have hmz:(m.Item==z.ID)=false:=by
    rw[hm,yaY];rw[yaY]at hq;exact λe=>hq e.symm
   rw[c5j hmz r1];refine ⟨r1,?_⟩;rw[a2a,r2];unfold b8w;rw[hq];rfl
end
section
open Go (IntKind)
def g53 {X:Type} (key:X→Int) {l:List X}:(∀i x,l[i]?=some x→u7 l i (λy=>decide (key x≤key y))=false)↔l.Pairwise (λa b=>key a<key b):=by
 constructor
 ·intro h;rw[ya3];intro i j hi hj hij;exact a2e (key:=key) h j i l[i] l[j] hij (yab hi) (yab hj)
 ·intro h i x hx;cases i with
  |zero=>rfl
  |succ j=>
   unfold u7;simp only;have hi:=(yaA.1 hx)
   have hj:j<l.length:=by have:=hi.1;omega
   rw[yab hj];have:=(ya3.1 h) j (j+1) hj hi.1 (by omega);rw[hi.2]at this;simp only[yaf];omega
def h4t {X:Type} (key:X→Int) (sh:X→Int) {l:List X}:a0e (λi x=>bif u7 l i (λy=>decide (key x≤key y)) then 7 else sh x) 0 l=0↔(∀x∈l,sh x=0)∧l.Pairwise (λa b=>key a<key b):=by
 rw[a6i,←g53 key];constructor
 ·intro h;have h2:∀i x,l[i]?=some x→u7 l i (λy=>decide (key x≤key y))=false:=λi x hx=>by
   have:=h i x hx;rw[yaI]at this;exact a0q this (by decide)
  refine ⟨λx hx=>?_,h2⟩;obtain ⟨i,hi⟩:=yaw hx;have:=h i x hi;rw[yaI,h2 i x hi]at this;exact this
 ·rintro ⟨h1,h2⟩ i x hx;rw[yaI,h2 i x hx];exact h1 x (yag hx)
def c6k {n:Nat} {m:Int} {e:Int}:(bif decide (m<(n:Int)) then (13:Int) else e)=0↔(n:Int)≤m∧e=0:=by
 by_cases h:m<(n:Int)
 ·rw[decide_eq_true h];constructor
  ·intro h;cases h
  ·rintro ⟨h2,-⟩;omega
 ·rw[decide_eq_false h];exact ⟨λe=>⟨by omega,e⟩,λe=>e.2⟩
def c3c (x:Loan):Int:=bif decide (x.Item<1)||decide (9999<x.Item)||decide (x.Patron<1)||decide (9999<x.Patron)||decide (x.Out<0)||decide (109572<x.Out)||decide (x.Due<0)||decide (109572<x.Due)||decide (x.Due<x.Out)||decide (x.Renewals<0)||decide (10<x.Renewals) then 2 else 0
def b1e {l:List Loan}:o4 l=0↔(l.length:Int)≤64∧(∀x∈l,c3c x=0)∧l.Pairwise (λa b=>a.Item<b.Item):=by
 unfold o4;rw[c6k];exact and_congr Iff.rfl (h4t (λx:Loan=>x.Item) c3c)
def b9d {l:List Charge}:o9 l=0↔(l.length:Int)≤128∧(∀x∈l,a3x x=0)∧l.Pairwise (λa b=>a.ID<b.ID):=by
 unfold o9;rw[c6k];exact and_congr Iff.rfl (h4t (λx:Charge=>x.ID) a3x)
def c7i (l:List Hold):a1c l=λi x=>bif u7 l i (λy=>decide (x.ID≤y.ID)) then 7 else s8 x:=by
 funext i x;rw[a4x]
def d3j {l:List Hold}:a3b l=true↔l.Pairwise (λa b=>a0r b a=false):=by
 unfold a3b;rw[a39,ya3];constructor
 ·intro h i j hi hj hij;have:=h j l[j] (yab hj);rw[yaI,yaj]at this;have h2:=this l[i] (by rw[List.mem_take_iff_getElem];exact ⟨i,by omega,rfl⟩);simpa using h2
 ·intro h i x hx;rw[yaI,yaj];intro y hy;rw[List.mem_take_iff_getElem]at hy;obtain ⟨j,hj,rfl⟩:=hy;obtain ⟨hi,rfl⟩:=yaA.1 hx;have:=h j i (by omega) hi (by omega);simpa using this
def b1c {l:List Hold}:w8 l=0↔(l.length:Int)≤64∧((∀x∈l,s8 x=0)∧l.Pairwise (λa b=>a.ID<b.ID))∧l.Pairwise (λa b=>a0r b a=false):=by
 unfold w8;rw[c6k,←d3j,←h4t (λx:Hold=>x.ID) s8,←c7i];refine and_congr Iff.rfl ?_;by_cases e:a0e (a1c l) 0 l=0
 ·rw[e];cases a3b l<;>simp
 ·have h2:(a0e (a1c l) 0 l==0)=false:=by simpa using e
  rw[h2];exact ⟨λh=>absurd h e,λh=>absurd h.1 e⟩
def b88 {b:Bool} {n m:Int} (hn:n≠0):(bif b then n else m)=0↔b=false∧m=0:=by
 cases b with
 |true=>exact ⟨λh=>absurd h hn,λh=>by cases h.1⟩
 |false=>exact ⟨λh=>⟨rfl,h⟩,λh=>h.2⟩
def g0o {p:Prop} [Decidable p] {n m:Int}:(decide p=!(n==m))↔(p↔¬n=m):=by
 by_cases h:p<;>by_cases k:n=m<;>simp[h,k]
def g0m {p:Prop} [Decidable p] {n m:Int}:(decide p=(n==m))↔(p↔n=m):=by
 by_cases h:p<;>by_cases k:n=m<;>simp[h,k]
def f6d {h:Hold}:s8 h=0↔((1≤h.ID∧h.ID≤99999)∧(1≤h.Patron∧h.Patron≤9999)∧(1≤h.Record∧h.Record≤9999)∧(h.Item=0∨(1≤h.Item∧h.Item≤9999))∧(1≤h.Pickup∧h.Pickup≤4)∧(0≤h.Placed∧h.Placed≤109572)∧
 (h.Got=0∨(1≤h.Got∧h.Got≤9999))∧(0≤h.Until∧h.Until≤109572)∧(0≤h.Asleep∧h.Asleep≤109572)∧(0≤h.Rank∧h.Rank≤9))∧(1≤h.State∧h.State≤3)∧(0<h.Got↔¬h.State=1)∧(0<h.Until↔h.State=3):=by
 unfold s8;rw[b88 (by decide),b88 (by decide),b88 (by decide)];simp only[yai,yaf,yay,y9,ya1,ya6,g0o,g0m,and_true];constructor
 ·rintro ⟨h1,h2,h3⟩;exact ⟨by omega,by omega,h3⟩
 ·rintro ⟨h1,h2,h3⟩;exact ⟨by omega,by omega,h3⟩
def a9u {h:Hold} (e:s8 h=0):(1≤h.ID∧h.ID≤99999)∧(1≤h.Record∧h.Record≤9999)∧(1≤h.Pickup∧h.Pickup≤4)∧(h.State=1∨h.State=2∨h.State=3)∧(h.State=1→h.Got=0)∧(h.State≠1→1≤h.Got)∧(1≤h.Patron∧h.Patron≤9999):=by
 rw[f6d]at e;obtain ⟨⟨a1,a2,a3,a4,a5,a6,a7,a8,a9,a10⟩,b,c,d⟩:=e;refine ⟨a1,a3,a5,by omega,λq=>?_,λq=>?_,a2⟩
 ·by_cases g:0<h.Got
  ·exact absurd q (c.1 g)
  ·omega
 ·exact c.2 q
end
section
open Go (IntKind)
def h5f (c:Custody) (m:Move):Custody:=
 bif a0u m.Kind==2 then ⟨a0u m.Kind,m.Branch,0,0⟩
 else bif a0u m.Kind==4||(a0u m.Kind==5||a0u m.Kind==8) then ⟨a0u m.Kind,c.Branch,m.Who,0⟩
 else bif a0u m.Kind==6 then ⟨a0u m.Kind,c.Branch,m.Who,m.Branch⟩
 else bif a0u m.Kind==9||a0u m.Kind==10 then ⟨a0u m.Kind,c.Branch,c.Who,0⟩
 else ⟨a0u m.Kind,c.Branch,0,0⟩
structure AppP (c:Custody) (m:Move) (u:Custody):Prop where
 res:u=h5f c m
 right:a88 c=true
 within:a87 m=true
 allow:a64 c.State m.Kind=true
 same:m.Kind=3→c.State=5→m.Who=c.Who
 fits:c0w c m=true
def d7v {c:Custody} {m:Move} {u:Custody} (h:p8 c m=(u,0)):AppP c m u:=by
 unfold p8 at h;cases e1:(!(a88 c)||!(a87 m)) with
 |true=>rw[e1]at h;cases h
 |false=>
  have e0:=e1;simp only[yai,yay]at e0;rw[e1]at h;simp only[yaa]at h;cases e2:!(a64 c.State m.Kind) with
  |true=>rw[e2]at h;cases h
  |false=>
   rw[e2]at h;simp only[yaa]at h;cases e3:(m.Kind==3&&c.State==5&&!(m.Who==c.Who)) with
   |true=>rw[e3]at h;cases h
   |false=>
    rw[e3]at h;simp only[yaa]at h;cases e4:!(c0w c m) with
    |true=>rw[e4]at h;cases h
    |false=>
     rw[e4]at h;simp only[yaa]at h;have hr:u=h5f c m:=by
      unfold h5f;generalize a0u m.Kind=k at h ⊢;cases k2:k==2 with
      |true=>rw[k2]at h;cases h;rfl
      |false=>
       rw[k2]at h;simp only[yaa]at h ⊢;cases k4:k==4||(k==5||k==8) with
       |true=>rw[k4]at h;cases h;rfl
       |false=>
        rw[k4]at h;simp only[yaa]at h ⊢;cases k6:k==6 with
        |true=>rw[k6]at h;cases h;rfl
        |false=>
         rw[k6]at h;simp only[yaa]at h ⊢;cases k9:k==9||k==10 with
         |true=>rw[k9]at h;cases h;rfl
         |false=>rw[k9]at h;cases h;rfl
     refine ⟨hr,e0.1,e0.2,by simpa using e2,λa b=>?_,by simpa using e4⟩;simp only[ya1,yaY,yay,ya6,ne_eq]at e3;rcases e3 with (q|q)|q
     ·exact absurd a q
     ·exact absurd b q
     ·exact q
def e6s {s k:Int} (h:a64 s k=true):s∈c8m k:=by
 unfold a64 at h;rw[List.any_eq_true]at h;obtain ⟨x,hx,e⟩:=h;have:x=s:=by simpa using e
 exact this▸hx
def f1f (u:Custody) (h:Hold):Prop:=(h.State=3→u.State=5∧u.Branch=h.Pickup∧u.Who=h.Patron)∧(h.State=2→u.State=6∧u.To=h.Pickup∧u.Who=h.Patron)
structure Val (it:Int) (c:Circ):Prop where
 nums:a36 c=true
 patrons:a05 c.Patrons=0
 loans:o4 c.Loans=0
 holds:w8 c.Holds=0
 charges:o9 c.Charges=0
 rules:a2w c.Rules=0
 cals:a3i c=true
 chG:∀x∈c.Charges,a0x c x=true
 items:a1d c=true
 loanP:∀n∈c.Loans,(a3e c.Patrons n.Patron).2=true
 loanI:∀n∈c.Loans,∃x∈c.Items,x.ID=n.Item∧(n.Item≠it→a3f x.Custody=true∧x.Custody.Who=n.Patron)
 itemL:∀x∈c.Items,x.ID≠it→a3f x.Custody=true→∃n∈c.Loans,n.Item=x.ID
 holdP:∀h∈c.Holds,(a3e c.Patrons h.Patron).2=true∧h.ID<c.NextHold
 holdI:∀h∈c.Holds,h.State≠1→∃x∈c.Items,x.ID=h.Got∧x.Record=h.Record∧(h.Got≠it→f1f x.Custody h)
 itemH:∀x∈c.Items,x.ID≠it→x.Custody.State=5→∃h∈c.Holds,h.Got=x.ID∧h.State=3
def a00 {c:Circ} (h:a1d c=true) {x y:Item} (hx:x∈c.Items) (hy:y∈c.Items) (e:x.ID=y.ID):x=y:=by
 have h1:=a22 (key:=λy:Item=>y.ID) (a3c h) hx;have h2:=a22 (key:=λy:Item=>y.ID) (a3c h) hy;rw[e,h2]at h1;cases h1;rfl
def b3v {c:Circ} (h:a1d c=true) {x:Item} (hx:x∈c.Items) {id:Int} (e:x.ID=id):c.Items.find? (λy=>y.ID==id)=some x:=by
 subst e;exact a22 (key:=λy:Item=>y.ID) (a3c h) hx
def a4j {c:Circ} (h:a1d c=true) {x:Item} (hx:x∈c.Items):1≤x.ID∧x.ID≤9999∧1≤x.Record∧(1≤x.Branch∧x.Branch≤4)∧x.Call.length≤200:=by
 unfold a1d at h;simp only[yae]at h;obtain ⟨i,hi⟩:=yaw hx;have:=(a39.1 h.2.1) i x hi;rw[yaI]at this;simp only[yan,yai,yay]at this;have h2:=this.1;unfold a0a at h2;simp only[yae,y9,yad]at h2;omega
def h30 {c:Circ} (h:a4u c=true):Val 0 c:=by
 have f:=h5t h;have hch:∀x∈c.Charges,a0x c x=true:=by
  unfold a4u at h;simp only[yae,yaj]at h;exact h.2.2.2.1
 have hcal:a3i c=true:=by
  unfold a4u at h;simp only[yae]at h;exact h.2.2.1
 refine ⟨f.nums,f.patrons,f.loans,f.holds,f.charges,f.rules,hcal,hch,f.items,λn hn=>?_,λn hn=>?_,λx hx _ hw=>?_,λo ho=>?_,λo ho h1=>?_,λx hx _ h5=>?_⟩
 ·obtain ⟨x,p,-,-,-,hp,-⟩:=b0r f hn;rw[hp]
 ·obtain ⟨x,p,-,hx,hi,-,-,hw,hwho⟩:=b0r f hn;exact ⟨x,hx,hi,λ_=>⟨hw,hwho⟩⟩
 ·have:=f.itemG x hx;rw[hw]at this;unfold a3r at this;cases hq:c.Loans.find? (λn=>n.Item==x.ID) with
  |none=>rw[hq]at this;cases this
  |some n=>exact ⟨n,yaZ hq,by have:=ybs hq;simpa using this⟩
 ·have:=f.holdG o ho;unfold a3k at this;simp only[yae,yan,yai,yay,yaf]at this;exact ⟨this.1.1,by have:=this.1.2;omega⟩
 ·have hg:=f.holdG o ho;unfold a3k at hg;rw[show (o.State==1)=false by simpa using h1]at hg;simp only[yae,ybg]at hg;have hg:=hg.2;cases hq:c.Items.find? (λx=>x.ID==o.Got) with
  |none=>rw[hq]at hg;cases hg
  |some x=>
   rw[hq]at hg;refine ⟨x,yaZ hq,by have:=ybs hq;simpa using this,?_,λ_=>?_⟩
   ·simp only[yae,yb6,ya6]at hg;exact hg.1.1
   ·simp only[yae,yb6,ya6,yan,ya1,yai,yay,yaY,ne_eq]at hg;obtain ⟨⟨-,g3⟩,g2⟩:=hg;refine ⟨λe=>?_,λe=>?_⟩
    ·rcases g3 with g3|g3
     ·exact absurd e g3
     ·exact ⟨g3.1.1,g3.1.2,g3.2⟩
    ·rcases g2 with g2|g2
     ·exact absurd e g2
     ·exact ⟨g2.1.1,g2.1.2,g2.2⟩
 ·have hg:=f.readyG x hx;unfold a1l at hg;rw[h5]at hg;simp only[yal,yak,ybg,yan,yai,yay,ya6]at hg;have:=a5q hg.1;exact ⟨_,this.1,this.2,hg.2⟩
def b5v {c:Circ} (v:Val 0 c):a4u c=true:=by
 have hid:=λx hx=>a4j (x:=x) v.items hx
 unfold a4u;simp only[yae,yaj];refine ⟨v.nums,?_,v.cals,v.chG,by rw[a7o];exact v.items,?_,?_⟩
 ·unfold a3l;rw[v.patrons,v.loans,v.holds,v.charges,v.rules];rfl
 ·unfold a2b;simp only[yae,yaj,ya6];refine ⟨λn hn=>?_,λx hx=>?_⟩
  ·obtain ⟨x,hx,hi,hw⟩:=v.loanI n hn;have:=(hid x hx).1;have hw:=hw (by omega);unfold a3m;rw[b3v v.items hx hi];simp only[v.loanP n hn,hw.1,hw.2];simp
  ·have:=(hid x hx).1;cases hw:a3f x.Custody with
   |true=>
    obtain ⟨n,hn,e⟩:=v.itemL x hx (by omega) hw;unfold a3r;cases hq:c.Loans.find? (λn=>n.Item==x.ID) with
    |none=>exact absurd (ybF.1 hq n hn) (by simpa using e)
    |some m=>rfl
   |false=>
    unfold a3r;cases hq:c.Loans.find? (λn=>n.Item==x.ID) with
    |none=>rfl
    |some m=>
     have hm:=yaZ hq;have he:m.Item=x.ID:=by have:=ybs hq;simpa using this
     obtain ⟨y,hy,hi,hy2⟩:=v.loanI m hm;have:=a00 v.items hy hx (hi.trans he);subst this;rw[(hy2 (by omega)).1]at hw;cases hw
 ·unfold a4i;simp only[yae,yaj];refine ⟨λo ho=>?_,λx hx=>?_⟩
  ·unfold a3k;obtain ⟨p1,p2⟩:=v.holdP o ho;rw[p1,show decide (c.NextHold≤o.ID)=false by rw[yaf];omega];by_cases h1:o.State=1
   ·rw[show (o.State==1)=true by simpa using h1];rfl
   ·obtain ⟨x,hx,hg,hr,ha⟩:=v.holdI o ho h1;have:=(hid x hx).1;obtain ⟨a3,a2⟩:=ha (by omega);rw[show (o.State==1)=false by simpa using h1,b3v v.items hx hg];simp only[hr,yal,yak,yar,ya8,Bool.or_false,ybg];by_cases e3:o.State=3
    ·obtain ⟨q1,q2,q3⟩:=a3 e3;simp[e3,q1,q2,q3]
    ·by_cases e2:o.State=2
     ·obtain ⟨q1,q2,q3⟩:=a2 e2;simp[e2,q1,q2,q3]
     ·simp[e2,e3]
  ·unfold a1l;have:=(hid x hx).1;by_cases h5:x.Custody.State=5
   ·rw[show (x.Custody.State==5)=true by simpa using h5];obtain ⟨o,ho,hg,h3⟩:=v.itemH x hx (by omega) h5;unfold p7;cases hq:c.Holds.find? (λh=>h.Got==x.ID) with
    |none=>exact absurd (ybF.1 hq o ho) (by simpa using hg)
    |some p=>
     have hp:=yaZ hq;have hpg:p.Got=x.ID:=by have:=ybs hq;simpa using this
     have hn:=a9u (a3a v.holds hp);have hp1:p.State≠1:=λe=>by have:=hn.2.2.2.2.1 e;omega
     obtain ⟨y,hy,hyg,-,ha⟩:=v.holdI p hp hp1;have:=a00 v.items hy hx (hyg.trans hpg);subst this;have ha:=(ha (by omega)).2;have h3:p.State=3:=by
      rcases hn.2.2.2.1 with e|e|e
      ·exact absurd e hp1
      ·have:=(ha e).1;omega
      ·exact e
     simp[h3]
   ·rw[show (x.Custody.State==5)=false by simpa using h5];rfl
def Val.weak {c:Circ} (v:Val 0 c) (it:Int):Val it c:=by
 have hid:=λx hx=>a4j (x:=x) v.items hx
 refine ⟨v.nums,v.patrons,v.loans,v.holds,v.charges,v.rules,v.cals,v.chG,v.items,v.loanP,λn hn=>?_,λx hx _ hw=>?_,v.holdP,λo ho h1=>?_,λx hx _ h5=>?_⟩
 ·obtain ⟨x,hx,hi,hw⟩:=v.loanI n hn;have:=(hid x hx).1;exact ⟨x,hx,hi,λ_=>hw (by omega)⟩
 ·have:=(hid x hx).1;exact v.itemL x hx (by omega) hw
 ·obtain ⟨x,hx,hg,hr,ha⟩:=v.holdI o ho h1;have:=(hid x hx).1;exact ⟨x,hx,hg,hr,λ_=>ha (by omega)⟩
 ·have:=(hid x hx).1;exact v.itemH x hx (by omega) h5
def Val.close {it:Int} {c:Circ} (v:Val it c) {x:Item} (hx:x∈c.Items) (hi:x.ID=it)
 (h1:∀n∈c.Loans,n.Item=it→a3f x.Custody=true∧x.Custody.Who=n.Patron) (h2:a3f x.Custody=true→∃n∈c.Loans,n.Item=it)
 (h3:∀h∈c.Holds,h.State≠1→h.Got=it→f1f x.Custody h) (h4:x.Custody.State=5→∃h∈c.Holds,h.Got=it∧h.State=3):Val 0 c:=by
 refine ⟨v.nums,v.patrons,v.loans,v.holds,v.charges,v.rules,v.cals,v.chG,v.items,v.loanP,λn hn=>?_,λy hy _ hw=>?_,v.holdP,λo ho hs1=>?_,λy hy _ h5=>?_⟩
 ·obtain ⟨y,hy,hiy,hw⟩:=v.loanI n hn;refine ⟨y,hy,hiy,λ_=>?_⟩;by_cases e:n.Item=it
  ·have:=a00 v.items hy hx (by omega);subst this;exact h1 n hn e
  ·exact hw e
 ·by_cases e:y.ID=it
  ·have:=a00 v.items hy hx (by omega);subst this;obtain ⟨n,hn,e2⟩:=h2 hw;exact ⟨n,hn,by omega⟩
  ·exact v.itemL y hy e hw
 ·obtain ⟨y,hy,hg,hr,ha⟩:=v.holdI o ho hs1;refine ⟨y,hy,hg,hr,λ_=>?_⟩;by_cases e:o.Got=it
  ·have:=a00 v.items hy hx (by omega);subst this;exact h3 o ho hs1 e
  ·exact ha e
 ·by_cases e:y.ID=it
  ·have:=a00 v.items hy hx (by omega);subst this;obtain ⟨n,hn,e2,e3⟩:=h4 h5;exact ⟨n,hn,by omega,e3⟩
  ·exact v.itemH y hy e h5
end
section
open Go (IntKind)
def b0n {c:Circ} (h:a1d c=true):∀(i:Nat) (x:Item) (j:Nat) (y:Item),c.Items[i]?=some x→c.Items[j]?=some y→x.ID=y.ID→i=j:=by
 intro i x j y hx hy e;have hs:=a3c h;rcases ycc i j with hl|hl|hl
 ·have:=a2e (key:=λy:Item=>y.ID) hs j i x y hl hx hy;omega
 ·exact hl
 ·have:=a2e (key:=λy:Item=>y.ID) hs i j y x hl hy hx;omega
def a6z {c:Circ} (h:a1d c=true) {i:Nat} {x:Item} (hx:c.Items[i]?=some x) {m:Move} {u:Custody} {y:Item}:y∈(z8 c i x m u).Items↔(y∈c.Items∧y.ID≠x.ID)∨y=a04 u x:=by
 have hit:(z8 c i x m u).Items=c.Items.map (b8w x u):=d24 (b0n h) hx;rw[hit,ybe];constructor
 ·rintro ⟨z,hz,rfl⟩;unfold b8w;by_cases e:z.ID=x.ID
  ·have:=a00 h hz (yag hx) e;subst this;right;simp
  ·left;rw[show (z.ID==x.ID)=false by simpa using e];exact ⟨hz,e⟩
 ·rintro (⟨hy,e⟩|rfl)
  ·refine ⟨y,hy,?_⟩;unfold b8w;rw[show (y.ID==x.ID)=false by simpa using e];rfl
  ·refine ⟨x,yag hx,?_⟩;unfold b8w;simp
def Val.move {c:Circ} {i:Nat} {x:Item} (v:Val x.ID c) (hx:c.Items[i]?=some x) {m:Move} {u:Custody} (hm:m.Item=x.ID) (ha:p8 x.Custody m=(u,0)) (hl:c.Moves.length<2000):Val x.ID (z8 c i x m u):=by
 have mm:=λy=>a6z (y:=y) v.items hx (m:=m) (u:=u)
 refine ⟨v.nums,v.patrons,v.loans,v.holds,v.charges,v.rules,v.cals,v.chG,d4s v.items (b0n v.items) hx hm ha hl,v.loanP,λn hn=>?_,λy hy hne hw=>?_,v.holdP,λo ho h1=>?_,λy hy hne h5=>?_⟩
 ·obtain ⟨y,hy,hi,hw⟩:=v.loanI n hn;by_cases e:y.ID=x.ID
  ·exact ⟨a04 u x,(mm _).2 (.inr rfl),e.symm.trans hi,λq=>absurd (hi.symm.trans e) q⟩
  ·exact ⟨y,(mm _).2 (.inl ⟨hy,e⟩),hi,hw⟩
 ·rcases (mm y).1 hy with ⟨hy,_⟩|rfl
  ·exact v.itemL y hy hne hw
  ·exact absurd rfl hne
 ·obtain ⟨y,hy,hg,hr,ha⟩:=v.holdI o ho h1;by_cases e:y.ID=x.ID
  ·have:=a00 v.items hy (yag hx) e;subst this;exact ⟨a04 u y,(mm _).2 (.inr rfl),hg,hr,λq=>absurd hg.symm q⟩
  ·exact ⟨y,(mm _).2 (.inl ⟨hy,e⟩),hg,hr,ha⟩
 ·rcases (mm y).1 hy with ⟨hy,_⟩|rfl
  ·exact v.itemH y hy hne h5
  ·exact absurd rfl hne
def a6l {l:List Hold} (h:w8 l=0) {o p:Hold} (ho:o∈l) (hp:p∈l) (e:o.ID=p.ID):o=p:=b99 (a0h h) ho hp e
def c5y (l:List Hold) (id:Int) (o:Hold):List Hold:=l.map (λz=>bif z.ID==id then o else z)
def a5v {l:List Hold} {o p z:Hold} (ho:o∈l):z∈c5y l o.ID p↔(z∈l∧z.ID≠o.ID)∨z=p:=by
 unfold c5y;rw[ybe];constructor
 ·rintro ⟨y,hy,rfl⟩;by_cases e:y.ID=o.ID
  ·right;rw[show (y.ID==o.ID)=true by simpa using e];rfl
  ·left;rw[show (y.ID==o.ID)=false by simpa using e];exact ⟨hy,e⟩
 ·rintro (⟨hz,e⟩|rfl)
  ·exact ⟨z,hz,by rw[show (z.ID==o.ID)=false by simpa using e];rfl⟩
  ·exact ⟨o,ho,by rw[show (o.ID==o.ID)=true by simp];rfl⟩
def f08 {l:List Hold} (h:w8 l=0) {o p:Hold} (ho:o∈l) (k1:p.ID=o.ID) (k2:p.Patron=o.Patron) (k3:p.Record=o.Record) (hs:s8 p=0) (hg:∀z∈l,0<p.Got→z.Got=p.Got→z.ID=o.ID):w8 (c5y l o.ID p)=0:=by
 rw[b1c]at h ⊢;obtain ⟨h1,⟨h2,h3⟩,h4⟩:=h;refine ⟨by unfold c5y;rw[ybn];exact h1,⟨λz hz=>?_,?_⟩,?_⟩
 ·rcases (a5v ho).1 hz with ⟨hz,_⟩|rfl
  ·exact h2 z hz
  ·exact hs
 ·unfold c5y;rw[List.pairwise_map];have key:∀z:Hold,(bif z.ID==o.ID then p else z).ID=z.ID:=by
   intro z;by_cases e:z.ID=o.ID
   ·rw[show (z.ID==o.ID)=true by simpa using e,yac,k1,e]
   ·rw[show (z.ID==o.ID)=false by simpa using e];rfl
  refine h3.imp (λ{a b} q=>?_);rw[key,key];exact q
 ·unfold c5y;rw[List.pairwise_map];refine (h3.and h4).imp_of_mem (λ{a b} ha hb q=>?_);obtain ⟨q1,q2⟩:=q;have one:∀z∈l,z.ID=o.ID→z=o:=λz hz e=>b99 (c9k.2 h3) hz ho e
  unfold a0r at q2 ⊢;simp only[yai,ya1,yaY,ne_eq,yaf]at q2 ⊢;by_cases ea:a.ID=o.ID
  ·have:=one a ha ea;subst this;have eb:¬b.ID=a.ID:=by omega
   rw[show (b.ID==a.ID)=false by simpa using eb,show (a.ID==a.ID)=true by simp];simp only[yac,yaa,k2,k3];refine ⟨q2.1,?_⟩;by_cases e:b.Got=p.Got
   ·left;intro hpos;exact eb (hg b hb (by omega) e)
   ·exact .inr e
  ·by_cases eb:b.ID=o.ID
   ·have:=one b hb eb;subst this;rw[show (a.ID==b.ID)=false by simpa using ea,show (b.ID==b.ID)=true by simp];simp only[yac,yaa,k2,k3];refine ⟨q2.1,?_⟩;by_cases e:p.Got=a.Got
    ·left;intro hpos;exact ea (hg a ha hpos e.symm)
    ·exact .inr e
   ·rw[show (a.ID==o.ID)=false by simpa using ea,show (b.ID==o.ID)=false by simpa using eb];exact q2
def Val.swap {it:Int} {c:Circ} (v:Val it c) {o p:Hold} (ho:o∈c.Holds) (k1:p.ID=o.ID) (k2:p.Patron=o.Patron) (k3:p.Record=o.Record) (hs:s8 p=0) (hg:∀z∈c.Holds,0<p.Got→z.Got=p.Got→z.ID=o.ID)
 (old:o.State≠3∨o.Got=it) (new:p.State≠1→p.Got=it∧∃x∈c.Items,x.ID=it∧x.Record=o.Record):Val it (t8 c (c5y c.Holds o.ID p)):=by
 refine ⟨v.nums,v.patrons,v.loans,f08 v.holds ho k1 k2 k3 hs hg,v.charges,v.rules,v.cals,v.chG,v.items,v.loanP,v.loanI,v.itemL,λz hz=>?_,λz hz h1=>?_,λy hy hne h5=>?_⟩
 ·rcases (a5v ho).1 hz with ⟨hz,_⟩|rfl
  ·exact v.holdP z hz
  ·have:=v.holdP o ho;exact ⟨by rw[k2];exact this.1,by rw[k1];exact this.2⟩
 ·rcases (a5v ho).1 hz with ⟨hz,_⟩|rfl
  ·exact v.holdI z hz h1
  ·obtain ⟨e,x,hx,hi,hr⟩:=new h1;exact ⟨x,hx,by rw[hi,e],by rw[hr,k3],λq=>absurd e q⟩
 ·obtain ⟨z,hz,e,e3⟩:=v.itemH y hy hne h5;refine ⟨z,(a5v ho).2 (.inl ⟨hz,λq=>?_⟩),e,e3⟩;have:=a6l v.holds hz ho q;subst this;rcases old with q|q
  ·exact q e3
  ·exact hne (e.symm.trans q)
def d4m {l:List Hold} (h:w8 l=0) (p:Hold→Bool):w8 (l.filter p)=0:=by
 rw[b1c]at h ⊢;have:=yaX p l;exact ⟨by omega,⟨λx hx=>h.2.1.1 x (yaE.1 hx).1,h.2.1.2.filter p⟩,h.2.2.filter p⟩
def Val.remove {it:Int} {c:Circ} (v:Val it c) {o:Hold} (ho:o∈c.Holds) (old:o.State≠3∨o.Got=it):Val it (t8 c (c.Holds.filter (λx=>!(x.ID==o.ID)))):=by
 refine ⟨v.nums,v.patrons,v.loans,d4m v.holds _,v.charges,v.rules,v.cals,v.chG,v.items,v.loanP,v.loanI,v.itemL,λz hz=>v.holdP z (yaE.1 hz).1,λz hz=>v.holdI z (yaE.1 hz).1,λy hy hne h5=>?_⟩;obtain ⟨z,hz,e,e3⟩:=v.itemH y hy hne h5;refine ⟨z,yaE.2 ⟨hz,?_⟩,e,e3⟩;rw[yan,yaY];intro q;have:=a6l v.holds hz ho q;subst this;rcases old with q|q
 ·exact q e3
 ·exact hne (e.symm.trans q)
def Val.setLoans {it:Int} {c:Circ} (v:Val it c) {l:List Loan} (he:o4 l=0) (h1:∀n∈l,(a3e c.Patrons n.Patron).2=true∧((∃n0∈c.Loans,n0.Item=n.Item∧n0.Patron=n.Patron)∨(n.Item=it∧∃x∈c.Items,x.ID=it)))
 (h2:∀n0∈c.Loans,n0.Item≠it→∃n∈l,n.Item=n0.Item):Val it (i7 c l):=by
 refine ⟨v.nums,v.patrons,he,v.holds,v.charges,v.rules,v.cals,v.chG,v.items,λn hn=>(h1 n hn).1,λn hn=>?_,λx hx hne hw=>?_,v.holdP,v.holdI,v.itemH⟩
 ·rcases (h1 n hn).2 with ⟨n0,hn0,e1,e2⟩|⟨e,x,hx,hi⟩
  ·obtain ⟨x,hx,hi,hw⟩:=v.loanI n0 hn0;exact ⟨x,hx,by rw[hi,e1],λq=>by have:=hw (by rw[e1];exact q);rw[e2]at this;exact this⟩
  ·exact ⟨x,hx,by rw[hi,e],λq=>absurd e q⟩
 ·obtain ⟨n,hn,e⟩:=v.itemL x hx hne hw;obtain ⟨m,hm,e2⟩:=h2 n hn (by rw[e];exact hne);exact ⟨m,hm,e2.trans e⟩
def b0u {c:Circ} (h:a36 c=true):(0≤c.Today∧c.Today≤109572)∧(1≤c.NextHold∧c.NextHold≤100000)∧(1≤c.NextCharge∧c.NextCharge≤100000):=by
 unfold a36 at h;simp only[yan,yai,yaf]at h;omega
def c70 {c:Circ} (h:(0≤c.Today∧c.Today≤109572)∧(1≤c.NextHold∧c.NextHold≤100000)∧(1≤c.NextCharge∧c.NextCharge≤100000)):a36 c=true:=by
 unfold a36;simp only[yan,yai,yaf];omega
def c2c {c:Circ} {x:Charge} (h:a0x c x=true):(a3e c.Patrons x.Patron).2=true∧x.ID<c.NextCharge:=by
 unfold a0x at h;simp only[yan,yai,yay,yaf]at h;exact ⟨h.1,by omega⟩
def d8g {c:Circ} {x:Charge} (h:(a3e c.Patrons x.Patron).2=true) (h2:x.ID<c.NextCharge):a0x c x=true:=by
 unfold a0x;simp only[yan,yai,yay,yaf];exact ⟨h,by omega⟩
def Val.setCharges {it:Int} {c:Circ} (v:Val it c) {l:List Charge} {n:Int} (he:o9 l=0) (hn:c.NextCharge≤n∧n≤100000) (h1:∀x∈l,(a3e c.Patrons x.Patron).2=true∧x.ID<n):Val it (a5j c l n):=by
 have hv:=b0u v.nums;exact ⟨c70 ⟨hv.1,hv.2.1,(by omega:1≤n),hn.2⟩,v.patrons,v.loans,v.holds,he,v.rules,v.cals,λx hx=>d8g (h1 x hx).1 (h1 x hx).2,v.items,v.loanP,v.loanI,v.itemL,v.holdP,v.holdI,v.itemH⟩
def Val.setToday {it:Int} {c:Circ} (v:Val it c) {t:Int} (h:0≤t∧t≤109572):Val it (a6u c t):=by
 have hv:=b0u v.nums;exact ⟨c70 ⟨h,hv.2⟩,v.patrons,v.loans,v.holds,v.charges,v.rules,v.cals,v.chG,v.items,v.loanP,v.loanI,v.itemL,v.holdP,v.holdI,v.itemH⟩
end
section
open Go (IntKind)
def a5e {c d:Circ} (h:MidP c) {i:Nat} {x:Item} (hx:c.Items[i]?=some x) {kind branch who:Int} (e:qe5 c x.ID kind branch who=some (d,0)) :
 ∃u,p8 x.Custody ⟨c.Today,x.ID,kind,branch,who⟩=(u,0)∧c.Moves.length<2000∧d=z8 c i x ⟨c.Today,x.ID,kind,branch,who⟩ u∧MidP d:=by
 have hmv:=h.moves;rcases a92 h hx kind branch who with ⟨u,ha,-,m2,hm2⟩|⟨e',he,-,m2⟩
 ·rw[m2]at e;cases e
  have rm:=e2x (kind:=kind) (branch:=branch) (who:=who) h.short (by omega) (a8r h hx) hx rfl;rw[m2,ha]at rm;refine ⟨u,ha,?_,rfl,hm2⟩;by_cases hl:c.Moves.length<2000
  ·exact hl
  ·have e1:b0t c 0=13:=by
    unfold b0t;rw[show decide (2000≤(c.Moves.length:Int))=true by rw[yad];omega];rfl
   rw[e1]at rm;have q:(0:Int)=13:=congrArg Prod.snd (ybi rm);exact absurd q (by decide)
 ·rw[m2]at e;cases e
  exact absurd rfl he
def c6a.b {a:Option (Unit×Circ_desk)} {b:Option (Circ×Int)} {Q:Circ→Prop} (h:c6a a b Q) {d:Circ} (e:b=some (d,0)):Q d:=by
 rcases h with ⟨d',-,h2,h3⟩|⟨d',e',he,-,h2,-⟩
 ·rw[e]at h2;cases h2
  exact h3
 ·rw[e]at h2;cases h2
  exact absurd rfl he
def Rdy (c d:Circ) (i:Nat) (x:Item) (o:Hold):Prop:=∃u l un,p8 x.Custody ⟨c.Today,x.ID,5,x.Custody.Branch,o.Patron⟩=(u,0)∧c.Moves.length<2000∧a3j c.Holds o.ID x.ID 3 un=(l,0)∧d=t8 (z8 c i x ⟨c.Today,x.ID,5,x.Custody.Branch,o.Patron⟩ u) l
def c5h {c d:Circ} (h:MidP c) {i:Nat} {x:Item} (hx:c.Items[i]?=some x) {o:Hold} (e:qe4 c x.ID o=some (d,0)):Rdy c d i x o:=by
 obtain ⟨r,b,hr,_⟩:=b5g (p:=o.Patron) (x:=x) h.short;have hb:=h.branch x (yag hx);unfold qe4 at e;simp -zeta only[a8r h hx,d8,hx,hr]at e;have key:∀days:Int,(match qe5 c x.ID 5 x.Custody.Branch o.Patron with
  |some (r6,r7)=>bif !(r7==0) then some (y6,r7) else
   match qt r6 x.Custody.Branch with
   |some r9=>(match qfo r9 r6.Today days with
    |some (r11,r12)=>bif !(r12==0) then some (y6,r12) else
     match qfb r6.Holds o.ID x.ID 3 r11 with
     |some (r14,r15)=>bif !(r15==0) then some (y6,r15) else some ({r6 with Holds:=r14},0)
     |none=>none
    |none=>none)
   |none=>none
  |none=>none)=some (d,0)→Rdy c d i x o:=by
  intro days e;cases hm:qe5 c x.ID 5 x.Custody.Branch o.Patron with
  |none=>rw[hm]at e;cases e
  |some p=>
   obtain ⟨c2,e2⟩:=p;rw[hm]at e;dsimp only at e;by_cases he2:e2=0
   ·subst he2;obtain ⟨u,ha,hl,rfl,hm2⟩:=a5e h hx hm;simp only[yal,yak,yaa,e3d hb]at e;obtain ⟨dd,ee,hq⟩:=b0p (hm2.cal x.Custody.Branch) (z8 c i x ⟨c.Today,x.ID,5,x.Custody.Branch,o.Patron⟩ u).Today days;rw[hq]at e;dsimp only at e;by_cases hee:ee=0
    ·subst hee;simp only[yal,yak,yaa,d2u hm2.short.holds hm2.sorted]at e;generalize hc:a3j (z8 c i x ⟨c.Today,x.ID,5,x.Custody.Branch,o.Patron⟩ u).Holds o.ID x.ID 3 dd=q at e;obtain ⟨l,e3⟩:=q;dsimp only at e;by_cases he3:e3=0
     ·subst he3;simp only[yal,yak,yaa]at e;cases e
      exact ⟨u,l,dd,ha,hl,hc,rfl⟩
     ·rw[show (e3==0)=false by simpa using he3]at e;simp only[yar,yac]at e;cases e
      exact absurd rfl he3
    ·rw[show (ee==0)=false by simpa using hee]at e;simp only[yar,yac]at e;cases e
     exact absurd rfl hee
   ·rw[show (e2==0)=false by simpa using he2]at e;simp only[yar,yac]at e;cases e
    exact absurd rfl he2
 cases b with
 |true=>exact key _ e
 |false=>exact key _ e
inductive Aw (c d:Circ) (i:Nat) (x:Item):Prop
 |stay (h0:qcs c x=some 0) (h3:x.Custody.State=3) (hd:d=c)
 |move (h0:qcs c x=some 0) (kind branch:Int) (hk:kind=6∨kind=2) (u:Custody) (ha:p8 x.Custody ⟨c.Today,x.ID,kind,branch,0⟩=(u,0)) (hl:c.Moves.length<2000) (hd:d=z8 c i x ⟨c.Today,x.ID,kind,branch,0⟩ u)
 |ready (o:Hold) (ho:o∈c.Holds) (hw:a0d x.Record c.Today o=true) (hp:o.Pickup=x.Custody.Branch) (hr:Rdy c d i x o)
 |send (o:Hold) (ho:o∈c.Holds) (hw:a0d x.Record c.Today o=true) (u:Custody) (l:List Hold) (ha:p8 x.Custody ⟨c.Today,x.ID,6,o.Pickup,o.Patron⟩=(u,0)) (hl:c.Moves.length<2000) (hc:a3j c.Holds o.ID x.ID 2 0=(l,0))
  (hd:d=t8 (z8 c i x ⟨c.Today,x.ID,6,o.Pickup,o.Patron⟩ u) l)
def e6y {c d:Circ} (h:MidP c) {i:Nat} {x:Item} (hx:c.Items[i]?=some x) (e:qfy c x.ID=some (d,0)):Aw c d i x:=by
 obtain ⟨v,p1,p2,g1,g2⟩:=d2l h hx;unfold qfy at e;simp -zeta only[a8r h hx,d8,hx,p2,b8e h.short.holds]at e;dsimp only at e;by_cases hv:v=0
 ·subst hv;simp only[yal,yac]at e;have mv:∀kind branch:Int,(kind=6∨kind=2)→(match qe5 c x.ID kind branch 0 with|some (r5,r6)=>some (r5,r6)|none=>none)=some (d,0)→Aw c d i x:=by
   intro kind branch hk e;cases hm:qe5 c x.ID kind branch 0 with
   |none=>rw[hm]at e;cases e
   |some p=>
    obtain ⟨c2,e2⟩:=p;rw[hm]at e;cases e
    obtain ⟨u,ha,hl,hd,-⟩:=a5e h hx hm;exact .move p1 kind branch hk u ha hl hd
  cases hb:x.Branch==x.Custody.Branch with
  |false=>
   rw[hb]at e;exact mv 6 _ (.inl rfl) e
  |true=>
   rw[hb]at e;simp only[yak,yaa]at e;cases h3:x.Custody.State==3 with
   |true=>
    rw[h3]at e;cases e
    exact .stay p1 (by simpa using h3) rfl
   |false=>
    rw[h3]at e;exact mv 2 _ (.inr rfl) e
 ·obtain ⟨o,ho,hoi,hg,hw⟩:=g2 hv;rw[show (v==0)=false by simpa using hv,hg]at e;simp only[yaa]at e;cases hpk:o.Pickup==x.Custody.Branch with
  |true=>
   rw[hpk]at e;simp only[yac]at e;cases hm:qe4 c x.ID o with
   |none=>rw[hm]at e;cases e
   |some p=>
    obtain ⟨c2,e2⟩:=p;rw[hm]at e;cases e
    exact .ready o ho hw (by simpa using hpk) (c5h h hx hm)
  |false=>
   rw[hpk]at e;simp only[yaa]at e;cases hm:qe5 c x.ID 6 o.Pickup o.Patron with
   |none=>rw[hm]at e;cases e
   |some p=>
    obtain ⟨c2,e2⟩:=p;rw[hm]at e;dsimp only at e;by_cases he2:e2=0
    ·subst he2;obtain ⟨u,ha,hl,rfl,hm2⟩:=a5e h hx hm;simp only[yal,yak,yaa,d2u hm2.short.holds hm2.sorted]at e;generalize hc:a3j (z8 c i x ⟨c.Today,x.ID,6,o.Pickup,o.Patron⟩ u).Holds v x.ID 2 0=q at e;obtain ⟨l,e3⟩:=q;dsimp only at e;by_cases he3:e3=0
     ·subst he3;simp only[yal,yak,yaa]at e;cases e
      exact .send o ho hw u l ha hl (by rw[hoi];exact hc) rfl
     ·rw[show (e3==0)=false by simpa using he3]at e;simp only[yar,yac]at e;cases e
      exact absurd rfl he3
    ·rw[show (e2==0)=false by simpa using he2]at e;simp only[yar,yac]at e;cases e
     exact absurd rfl he2
end
section
open Go (IntKind)
def a9i {l m:List Hold} (hs:∀i x,l[i]?=some x→u7 l i (λy=>decide (x.ID≤y.ID))=false) {id it st un:Int} (h:a3j l id it st un=(m,0)) :
 ∃o∈l,o.ID=id∧(1≤it∧it≤9999)∧((st=3∧1≤un∧un≤109572)∨(st=2∧un=0))∧(o.State=1∨(o.State=2∧o.Got=it∧st=3))∧(∀p∈l,p.Got=it→p.ID=id)∧m=c5y l o.ID (g00 o it st un):=by
 unfold a3j at h;rcases o8 (λx:Hold=>x.ID==id) l with ⟨h1,h2⟩|⟨i,x,h1,h2,h3,h4⟩
 ·rw[h2]at h;cases h
 ·rw[h4]at h;simp only at h;have hid:x.ID=id:=by simpa using h3
  cases hq:(!(rng 1 9999 it)||!(okS st un)) with
  |true=>rw[hq]at h;cases h
  |false=>
   rw[hq]at h;simp only[yaa]at h;cases hq2:(!(x.State==1)&&((!(x.State==2)||!(x.Got==it))||!(st==3))) with
   |true=>rw[hq2]at h;cases h
   |false=>
    rw[hq2]at h;simp only[yaa]at h;cases hq3:l.any (λo=>o.Got==it&&!(o.ID==id)) with
    |true=>rw[hq3]at h;cases h
    |false=>
     rw[hq3]at h;simp only[yaa,h1,yaB,ya7,and_true]at h;subst h;simp only[yai,yay,y9]at hq;refine ⟨x,yag h2,hid,hq.1,?_,?_,λp hp e=>?_,?_⟩
     ·have:=hq.2;unfold okS at this;simp only[ybr,yae,ya6,y9]at this;rcases this with q|q
      ·exact .inl ⟨q.1,q.2.1,q.2.2⟩
      ·exact .inr q
     ·simp only[ya1,yai,yay,ya6]at hq2;rcases hq2 with q|q
      ·exact .inl q
      ·exact .inr ⟨q.1.1,q.1.2,q.2⟩
     ·rw[ybL]at hq3;have:=hq3 p hp;simp only[yae,ya6,yan,yaY,ne_eq,not_and,Decidable.not_not]at this;exact this e
     ·exact (b7h hs h2 (y:=g00 x it st un) rfl).symm
def e0d {o:Hold} (h:s8 o=0) {it st un:Int} (h1:1≤it∧it≤9999) (h2:(st=3∧1≤un∧un≤109572)∨(st=2∧un=0)):s8 (g00 o it st un)=0:=by
 rw[f6d]at h ⊢;obtain ⟨⟨a1,a2,a3,a4,a5,a6,a7,a8,a9,a10⟩,b,c,d⟩:=h;have e1:1≤st∧st≤3:=by omega
 have e2:¬st=1:=by omega
 have e3:0≤un∧un≤109572:=by omega
 have e4:0<un↔st=3:=by omega
 exact ⟨⟨a1,a2,a3,a4,a5,a6,.inr h1,e3,a9,a10⟩,e1,⟨λ_=>e2,λ_=>(by have:=h1.1;show 0<it;omega)⟩,e4⟩
def Val.catch {it:Int} {c:Circ} (v:Val it c) {id st un:Int} {l:List Hold} (h:a3j c.Holds id it st un=(l,0)) {x:Item} (hx:x∈c.Items) (hi:x.ID=it) (hr:∀o∈c.Holds,o.ID=id→x.Record=o.Record):Val it (t8 c l):=by
 obtain ⟨o,ho,hid,h1,h2,h3,h4,rfl⟩:=a9i (a0h v.holds) h;refine v.swap ho rfl rfl rfl (e0d (a3a v.holds ho) h1 h2) (λz hz _ e=>(h4 z hz e).trans hid.symm) (.inl (by omega)) (λ_=>⟨rfl,x,hx,hi,hr o ho hid⟩)
def d3b (c:Circ) (it:Int):Prop:=∀n∈c.Loans,n.Item≠it
def d63 (c:Circ) (it:Int):Prop:=∀h∈c.Holds,h.State≠1→h.Got≠it
def e3i {c d:Circ} {i:Nat} {x:Item} {o:Hold} (v:Val x.ID c) (hx:c.Items[i]?=some x) (hl:d3b c x.ID) (ho:o∈c.Holds) (hrec:x.Record=o.Record) (hp:o.Pickup=x.Custody.Branch)
 (hf:∀h∈c.Holds,h.State≠1→h.Got=x.ID→h.ID=o.ID) (r:Rdy c d i x o):Val 0 d:=by
 obtain ⟨u,l,un,ha,hlen,hc,rfl⟩:=r;have v2:=v.move hx rfl ha hlen;have hm:a04 u x∈(z8 c i x ⟨c.Today,x.ID,5,x.Custody.Branch,o.Patron⟩ u).Items:=(a6z v.items hx).2 (.inr rfl);have v3:=v2.catch hc hm rfl (λp hp e=>by rw[a6l v.holds hp ho e];exact hrec);have hu:u=⟨5,x.Custody.Branch,o.Patron,0⟩:=(d7v ha).res;obtain ⟨p,hpm,hid,h1,h2,h3,h4,rfl⟩:=a9i (a0h v.holds) hc;have:=a6l v.holds hpm ho hid;subst this;refine v3.close hm rfl (λn hn e=>absurd e (hl n hn)) (λh=>?_) (λh hh hs1 hg=>?_) (λ_=>⟨g00 p x.ID 3 un,(a5v hpm).2 (.inr rfl),rfl,rfl⟩)
 ·rw[show (a04 u x).Custody=u from rfl,hu]at h;cases h
 ·rw[show (a04 u x).Custody=u from rfl,hu];rcases (a5v hpm).1 hh with ⟨hh,hne⟩|rfl
  ·exact absurd (hf h hh hs1 hg) hne
  ·exact ⟨λ_=>⟨rfl,hp.symm,rfl⟩,λe=>absurd (show (3:Int)=2 from e) (by decide)⟩
def c05 {r t:Int} {o:Hold} (h:a0d r t o=true):o.Record=r∧o.State=1∧o.Asleep≤t:=by
 unfold a0d at h;simp only[yae,ya6,yad]at h;exact ⟨h.1.1,h.1.2,h.2⟩
def g8n {c d:Circ} {i:Nat} {x:Item} (v:Val x.ID c) (hx:c.Items[i]?=some x) (hl:d3b c x.ID) (hf:d63 c x.ID) (r:Aw c d i x):Val 0 d:=by
 have hm0:=yag hx;cases r with
 |stay _ h3 hd=>
  subst hd;refine v.close hm0 rfl (λn hn e=>absurd e (hl n hn)) (λh=>?_) (λh hh hs1 hg=>absurd hg (hf h hh hs1)) (λh=>by omega);unfold a3f at h;rw[h3]at h;cases h
 |move _ kind branch hk u ha hlen hd=>
  subst hd;have v2:=v.move hx rfl ha hlen;have hm:a04 u x∈(z8 c i x ⟨c.Today,x.ID,kind,branch,0⟩ u).Items:=(a6z v.items hx).2 (.inr rfl);have hu:=(d7v ha).res;have hs:u.State=6∨u.State=3:=by
   rcases hk with rfl|rfl
   ·left;rw[hu];rfl
   ·right;rw[hu];rfl
  refine v2.close hm rfl (λn hn e=>absurd e (hl n hn)) (λh=>?_) (λh hh hs1 hg=>absurd hg (hf h hh hs1)) (λh=>?_)
  ·rw[show (a04 u x).Custody=u from rfl,a1n]at h;rcases hs with e|e<;>rw[e]at h<;>cases h
  ·rw[show (a04 u x).Custody=u from rfl]at h;omega
 |ready o ho hw hp hr=>exact e3i v hx hl ho (c05 hw).1.symm hp (λh hh hs1 hg=>absurd hg (hf h hh hs1)) hr
 |send o ho hw u l ha hlen hc hd=>
  subst hd;have v2:=v.move hx rfl ha hlen;have hm:a04 u x∈(z8 c i x ⟨c.Today,x.ID,6,o.Pickup,o.Patron⟩ u).Items:=(a6z v.items hx).2 (.inr rfl);have v3:=v2.catch hc hm rfl (λp hp e=>by rw[a6l v.holds hp ho e];exact (c05 hw).1.symm);have hu:u=⟨6,x.Custody.Branch,o.Patron,o.Pickup⟩:=(d7v ha).res;obtain ⟨p,hpm,hid,h1,h2,h3,h4,rfl⟩:=a9i (a0h v.holds) hc;have:=a6l v.holds hpm ho hid;subst this;refine v3.close hm rfl (λn hn e=>absurd e (hl n hn)) (λh=>?_) (λh hh hs1 hg=>?_) (λh=>?_)
  ·rw[show (a04 u x).Custody=u from rfl,hu]at h;cases h
  ·rw[show (a04 u x).Custody=u from rfl,hu];rcases (a5v hpm).1 hh with ⟨hh,hne⟩|rfl
   ·exact absurd hg (hf h hh hs1)
   ·exact ⟨λe=>absurd (show (2:Int)=3 from e) (by decide),λ_=>⟨rfl,rfl,rfl⟩⟩
  ·rw[show (a04 u x).Custody=u from rfl,hu]at h;cases h
def b2n (c:Circ) (x:Item):Prop:=∀o∈c.Holds,a0d x.Record c.Today o=true→(o.Item==0||o.Item==x.ID)=false
def b4j (b:Int) (v:Bool) (x:Item) (h:Hold) (f:Int):((h.Item==0||h.Item==x.ID)=false∧b6h b v x h f=.inl f)∨((h.Item==0||h.Item==x.ID)=true∧(b6h b v x h f=.inr h.ID∨b6h b v x h f=.inl (bif f==0 then h.ID else f))):=by
 unfold b6h;cases h.Item==0<;>cases h.Item==x.ID<;>cases (!v||h.Pickup==b)<;>simp
def f0k {b:Int} {v:Bool} {x:Item}:∀{q:List Hold} {f:Int},(∀h∈q,h.ID≠0)→f≠0→b4l b v x q f≠0:=by
 intro q
 induction q with
 |nil=>intro f _ hf;exact hf
 |cons h q ih=>
  intro f hq hf;have hq2:=λy hy=>hq y (yaN _ hy)
  unfold b4l;rcases b4j b v x h f with ⟨-,e⟩|⟨-,e|e⟩
  ·rw[e];exact ih hq2 hf
  ·rw[e];exact hq h (yaK ..)
  ·rw[e];have h0:(f==0)=false:=by simpa using hf
   rw[h0];exact ih hq2 hf
def d5g {b:Int} {v:Bool} {x:Item}:∀{q:List Hold},(∀h∈q,h.ID≠0)→(b4l b v x q 0=0↔∀h∈q,(h.Item==0||h.Item==x.ID)=false):=by
 intro q
 induction q with
 |nil=>intro _;exact ⟨λ_ h hh=>(by cases hh),λ_=>rfl⟩
 |cons h q ih=>
  intro hq;have hq2:=λy hy=>hq y (yaN _ hy)
  have h1:=hq h (yaK ..);unfold b4l;rcases b4j b v x h 0 with ⟨k,e⟩|⟨k,e|e⟩
  ·rw[e];constructor
   ·intro p y hy;rcases yaM.1 hy with rfl|hy
    ·exact k
    ·exact (ih hq2).1 p y hy
   ·intro p;exact (ih hq2).2 (λy hy=>p y (yaN _ hy))
  ·rw[e];constructor
   ·intro p;exact absurd p h1
   ·intro p;have:=p h (yaK ..);rw[k]at this;cases this
  ·rw[e];constructor
   ·intro p;exact absurd p (f0k hq2 h1)
   ·intro p;have:=p h (yaK ..);rw[k]at this;cases this
def d48 {q:List Hold} {o:Hold} (h:o∈q) (hr:rng 0 9 o.Rank=true):o∈o5 q:=by
 rw[y9]at hr;have k:∀n:Int,o.Rank=n→o∈rk n q:=λn e=>yaE.2 ⟨h,by simpa using e⟩
 have:o.Rank=0∨o.Rank=1∨o.Rank=2∨o.Rank=3∨o.Rank=4∨o.Rank=5∨o.Rank=6∨o.Rank=7∨o.Rank=8∨o.Rank=9:=by omega
 unfold o5;simp only[yau];rcases this with e|e|e|e|e|e|e|e|e|e<;>simp[k _ e]
def e2h {c:Circ} (h:MidP c) (x:Item) (branch:Int):∃v,qaz c.Holds x branch c.Today c.Local=some v∧(v=0↔b2n c x):=by
 refine ⟨_,f0d h x branch,?_⟩;have hm:∀o∈o5 (c.Holds.filter (a0d x.Record c.Today)),o∈c.Holds∧a0d x.Record c.Today o=true:=λo ho=>yaE.1 (a3v ho)
 rw[d5g (λo ho=>(h.rank o (hm o ho).1).2)];constructor
 ·intro p o ho hw;exact p o (d48 (yaE.2 ⟨ho,hw⟩) (h.rank o ho).1)
 ·intro p o ho;exact p o (hm o ho).1 (hm o ho).2
def f0n {c:Circ} (h:MidP c) {x:Item} (e:qcs c x=some 0):b2n c x:=by
 obtain ⟨v,hv,hz⟩:=e2h h x x.Custody.Branch;unfold qcs at e;rw[hv]at e;cases e
 exact hz.1 rfl
end
section
open Go (IntKind)
def d3c (d c:Circ):Prop:=d.Today=c.Today∧∀o∈d.Holds,o.State=1→o∈c.Holds
def d3c.refl (c:Circ):d3c c c:=⟨rfl,λ_ h _=>h⟩
def d3c.trans {a b c:Circ} (h:d3c a b) (k:d3c b c):d3c a c:=⟨h.1.trans k.1,λo ho hs=>k.2 o (h.2 o ho hs) hs⟩
def b2n.less {c d:Circ} {x y:Item} (h:b2n c x) (l:d3c d c) (e1:y.ID=x.ID) (e2:y.Record=x.Record):b2n d y:=by
 intro o ho hw;rw[l.1,e2]at hw;rw[e1];exact h o (l.2 o ho (c05 hw).2.1) hw
structure Stp (c d:Circ):Prop where
 pats:d.Patrons=c.Patrons
 cals:d.Cals=c.Cals
 rules:d.Rules=c.Rules
 moves:∃m,d.Moves=c.Moves++m
def Stp.refl (c:Circ):Stp c c:=⟨rfl,rfl,rfl,[],by simp⟩
def Stp.trans {a b c:Circ} (h:Stp a b) (k:Stp b c):Stp a c:=by
 obtain ⟨m,e⟩:=h.moves;obtain ⟨n,f⟩:=k.moves;exact ⟨k.pats.trans h.pats,k.cals.trans h.cals,k.rules.trans h.rules,m++n,by rw[f,e,ya0]⟩
def a5d {c:Circ} {i:Nat} {x:Item} {m:Move} {u:Custody}:Stp c (z8 c i x m u):=⟨rfl,rfl,rfl,[m],rfl⟩
def a9w {c:Circ} {l:List Hold}:Stp c (t8 c l):=⟨rfl,rfl,rfl,[],by simp[t8]⟩
def b31 {c:Circ} {l:List Loan}:Stp c (i7 c l):=⟨rfl,rfl,rfl,[],by simp[i7]⟩
def g84 {c:Circ} {l:List Charge} {n:Int}:Stp c (a5j c l n):=⟨rfl,rfl,rfl,[],by simp[a5j]⟩
def e6j (it:Int) (c:Circ):Prop:=∀y∈c.Items,y.ID≠it→y.Custody.State=3→b2n c y
def c9t (c:Circ):Prop:=∀y∈c.Items,y.Custody.State=3→b2n c y
def b0c {c:Circ} (hs:w8 c.Holds=0) {id it st un:Int} {l:List Hold} (h:a3j c.Holds id it st un=(l,0)):d3c (t8 c l) c:=by
 obtain ⟨o,ho,hid,h1,h2,h3,h4,rfl⟩:=a9i (a0h hs) h;refine ⟨rfl,λz hz e=>?_⟩;rcases (a5v ho).1 hz with ⟨hz,_⟩|rfl
 ·exact hz
 ·have e:st=1:=e;omega
structure AwF (c d:Circ) (i:Nat) (x:Item):Prop where
 items:∃u,d.Items=c.Items.set i (a04 u x)∧(u.State=3→qcs c x=some 0)
 stp:Stp c d
 less:d3c d c
def e6x {c d:Circ} {i:Nat} {x:Item} (hs:w8 c.Holds=0) (hx:c.Items[i]?=some x) (r:Aw c d i x):AwF c d i x:=by
 cases r with
 |stay h0 h3 hd=>subst hd;exact ⟨⟨x.Custody,(d23 hx).symm,λ_=>h0⟩,.refl _,.refl _⟩
 |move h0 kind branch hk u ha hlen hd=>subst hd;exact ⟨⟨u,rfl,λ_=>h0⟩,a5d,⟨rfl,λo ho _=>ho⟩⟩
 |ready o ho hw hp hr=>
  obtain ⟨u,l,un,ha,hlen,hc,rfl⟩:=hr;have hl:=b0c (c:=z8 c i x ⟨c.Today,x.ID,5,x.Custody.Branch,o.Patron⟩ u) hs hc;refine ⟨⟨u,rfl,λe=>?_⟩,a5d.trans a9w,hl.trans ⟨rfl,λo ho _=>ho⟩⟩;rw[show u=⟨5,x.Custody.Branch,o.Patron,0⟩ from (d7v ha).res]at e;exact absurd (show (5:Int)=3 from e) (by decide)
 |send o ho hw u l ha hlen hc hd=>
  subst hd;have hl:=b0c (c:=z8 c i x ⟨c.Today,x.ID,6,o.Pickup,o.Patron⟩ u) hs hc;refine ⟨⟨u,rfl,λe=>?_⟩,a5d.trans a9w,hl.trans ⟨rfl,λo ho _=>ho⟩⟩;rw[show u=⟨6,x.Custody.Branch,o.Patron,o.Pickup⟩ from (d7v ha).res]at e;exact absurd (show (6:Int)=3 from e) (by decide)
def a81 {c:Circ} (h:a1d c=true) {i:Nat} {x:Item} (hx:c.Items[i]?=some x) {u:Custody} {y:Item}:y∈c.Items.set i (a04 u x)↔(y∈c.Items∧y.ID≠x.ID)∨y=a04 u x:=a6z (m:=⟨0,0,0,0,0⟩) h hx
def f6n {c d:Circ} {i:Nat} {x:Item} (hi:a1d c=true) (m:MidP c) (hx:c.Items[i]?=some x) (f:AwF c d i x) (h:e6j x.ID c):c9t d:=by
 obtain ⟨u,e,hu⟩:=f.items;intro y hy h3;rw[e,a81 hi hx]at hy;rcases hy with ⟨hy,hne⟩|rfl
 ·exact (h y hy hne h3).less f.less rfl rfl
 ·exact (f0n m (hu h3)).less f.less rfl rfl
def Val.lfree {c:Circ} (v:Val 0 c) {x:Item} (hx:x∈c.Items) (h:a3f x.Custody=false):d3b c x.ID:=by
 intro n hn e;obtain ⟨y,hy,hi,hw⟩:=v.loanI n hn;have:=a00 v.items hy hx (hi.trans e);subst this;have:=a4j v.items hy;rw[(hw (by omega)).1]at h;cases h
def Val.hfree {c:Circ} (v:Val 0 c) {x:Item} (hx:x∈c.Items) (h5:x.Custody.State≠5) (h6:x.Custody.State≠6):d63 c x.ID:=by
 intro o ho hs1 e;obtain ⟨y,hy,hi,-,hw⟩:=v.holdI o ho hs1;have:=a00 v.items hy hx (hi.trans e);subst this;have:=a4j v.items hy;have hw:=hw (by omega);rcases (a9u (a3a v.holds ho)).2.2.2.1 with q|q|q
 ·exact hs1 q
 ·exact h6 (hw.2 q).1
 ·exact h5 (hw.1 q).1
def c9t.x {c:Circ} (h:c9t c) (it:Int):e6j it c:=λy hy _ h3=>h y hy h3
end
section
open Go (IntKind)
def g02 {X:Type} {p:X→Bool} {x z:X} {l:List X} (h:z=x∨z∈l):z∈b1d p x l:=by
 cases hf:l.findIdx? p with
 |none=>
  rw[b3s hf];simp only[yau,yba];rcases h with h|h
  ·exact .inr h
  ·exact .inl h
 |some k=>
  rw[(b3t hf).1];simp only[yau,yaM];rcases h with h|h
  ·exact .inr (.inl h)
  ·rw[←ya2 k l,yau]at h;rcases h with h|h
   ·exact .inl h
   ·exact .inr (.inr h)
def g2w {l m:List Loan} {n:Loan} (h:e6h l n=(m,0)):o4 m=0∧(∀z,z∈m↔z=n∨z∈l)∧∀z∈l,z.Item≠n.Item:=by
 unfold e6h at h;rw[b95]at h;cases ha:l.any (λx=>x.Item==n.Item) with
 |true=>rw[ha]at h;cases h
 |false=>
  rw[ha]at h;simp only[yaa]at h;by_cases he:o4 (b1d (λx=>decide (n.Item<x.Item)) n l)=0
  ·rw[he]at h;cases h
   refine ⟨he,λz=>⟨e8r,g02⟩,λz hz e=>?_⟩;rw[ybL]at ha;exact ha z hz (by simpa using e)
  ·rw[show (o4 (b1d (λx=>decide (n.Item<x.Item)) n l)==0)=false by simpa using he]at h;simp only[yar,yac,ya7]at h;exact absurd h.2 he
def h59 {X:Type} (key:X→Int) {l:List X} (hs:l.Pairwise (λa b=>key a<key b)) {i:Nat} {x:X} (hx:l[i]?=some x):l.take i++l.drop (i+1)=l.filter (λy=>!(key y==key x)):=by
 have hlt:=(yaA.1 hx)
 have e:l=l.take i++x::l.drop (i+1):=by
  rw[←hlt.2,←yby hlt.1,ya2]
 have hs2:=hs;rw[e,List.pairwise_append,List.pairwise_cons]at hs2;obtain ⟨-,⟨h2,-⟩,h3⟩:=hs2;have e1:(l.take i).filter (λy=>!(key y==key x))=l.take i:=List.filter_eq_self.2 (λa ha=>by
  have:=h3 a ha x (yaK ..);have:¬key a=key x:=by omega
  simpa using this)
 have e2:(l.drop (i+1)).filter (λy=>!(key y==key x))=l.drop (i+1):=List.filter_eq_self.2 (λa ha=>by
  have:=h2 a ha;have:¬key a=key x:=by omega
  simpa using this)
 have e3:l.filter (λy=>!(key y==key x))=(l.take i++x::l.drop (i+1)).filter (λy=>!(key y==key x)):=by rw[←e]
 rw[e3,List.filter_append,ybq,e1,e2];simp
def e60 {l m:List Loan} {n:Loan} {item:Int} (hs:o4 l=0) (h:a8u l item=(m,n,0)):n∈l∧n.Item=item∧o4 m=0∧∀z,z∈m↔z∈l∧z.Item≠item:=by
 have hp:=b1e.1 hs;unfold a8u at h;rcases o8 (λx:Loan=>x.Item==item) l with ⟨h1,h2⟩|⟨i,x,h1,h2,h3,h4⟩
 ·rw[h2]at h;cases h
 ·rw[h4,h1]at h;simp only[yaB,ya7,and_true]at h;obtain ⟨e,rfl⟩:=h;have hi:x.Item=item:=by simpa using h3
  rw[h59 (λn:Loan=>n.Item) hp.2.2 h2]at e;have hm:∀z,z∈m↔z∈l∧z.Item≠item:=by
   intro z;rw[←e,yaE,hi];simp
  refine ⟨yag h2,hi,?_,hm⟩;rw[b1e];have:=yaX (λy:Loan=>!(y.Item==x.Item)) l;rw[←e];exact ⟨by omega,λz hz=>hp.2.1 z (yaE.1 hz).1,hp.2.2.filter _⟩
def g5z {X:Type} {l:List X} {i:Nat} {x y:X} (hx:l[i]?=some x) (R:X→X→Prop) (hr:∀z,R z z) (h1:R y x) (h2:R x y):(∀z∈l.set i y,∃w∈l,R z w)∧∀w∈l,∃z∈l.set i y,R w z:=by
 have hlt:=(zL hx)
 refine ⟨λz hz=>?_,λw hw=>?_⟩
 ·rcases List.mem_or_eq_of_mem_set hz with hz|rfl
  ·exact ⟨z,hz,hr z⟩
  ·exact ⟨x,yag hx,h1⟩
 ·obtain ⟨j,hj⟩:=yaw hw;by_cases e:j=i
  ·subst e;rw[hx]at hj;cases hj
   exact ⟨y,yag (ybx hlt),h2⟩
  ·exact ⟨w,yag (by rw[List.getElem?_set_ne (λq=>e q.symm)];exact hj),hr w⟩
def d66 (a b:Loan):Prop:=a.Item=b.Item∧a.Patron=b.Patron
def e3m {l m:List Loan} {item due:Int} (h:a7x l item due=(m,0)):o4 m=0∧(∀z∈m,∃w∈l,d66 z w)∧∀w∈l,∃z∈m,d66 w z:=by
 unfold a7x at h;rcases o8 (λx:Loan=>x.Item==item) l with ⟨h1,h2⟩|⟨i,x,h1,h2,h3,h4⟩
 ·rw[h2]at h;cases h
 ·rw[h4,h1]at h;simp only[yaB]at h;cases hr:x.Recalled with
  |true=>rw[hr]at h;cases h
  |false=>
   rw[hr]at h;simp only[yaa]at h;unfold h3s at h;by_cases he:o4 (l.set i ⟨x.Item,x.Patron,x.Out,due,wr .i64 (x.Renewals+1),false⟩)=0
   ·rw[he]at h;cases h
    have:=g5z h2 d66 (λz=>⟨rfl,rfl⟩) (y:=⟨x.Item,x.Patron,x.Out,due,wr .i64 (x.Renewals+1),false⟩) ⟨rfl,rfl⟩ ⟨rfl,rfl⟩;exact ⟨he,this⟩
   ·rw[show (o4 (l.set i ⟨x.Item,x.Patron,x.Out,due,wr .i64 (x.Renewals+1),false⟩)==0)=false by simpa using he]at h;simp only[yar,yac,ya7]at h;exact absurd h.2 he
def b54 {l:List Charge} (h:o9 l=0) (p:Charge→Bool):o9 (l.filter p)=0:=by
 rw[b9d]at h ⊢;have:=yaX p l;exact ⟨by omega,λx hx=>h.2.1 x (yaE.1 hx).1,h.2.2.filter p⟩
end
section
open Go (IntKind)
def h4o {f:Int} {X:Option (Circ×Int)} {d:Circ} (e:(bif !(f==0) then some (y6,f) else X)=some (d,0)):f=0∧X=some (d,0):=by
 by_cases hf:f=0
 ·subst hf;exact ⟨rfl,e⟩
 ·rw[show (f==0)=false by simpa using hf]at e;cases e
  exact absurd rfl hf
def d3n {f:Int} {X:Option (Circ×Int×Int)} {d:Circ} {n:Int} (e:(bif !(f==0) then some (y6,0,f) else X)=some (d,n,0)):f=0∧X=some (d,n,0):=by
 by_cases hf:f=0
 ·subst hf;exact ⟨rfl,e⟩
 ·rw[show (f==0)=false by simpa using hf]at e;cases e
  exact absurd rfl hf
structure Res (c d:Circ):Prop where
 val:Val 0 d
 stp:Stp c d
 idle:c9t c→c9t d
def c7y {c d:Circ} (h:MidP c) {i:Nat} {x:Item} (hx:c.Items[i]?=some x) {kind branch who:Int} (e:qe5 c x.ID kind branch who=some (d,0)):x.Custody.State∈c8m kind:=by
 obtain ⟨u,ha,-⟩:=a5e h hx e;exact e6s (d7v ha).allow
def f0f {x:Item} (h:x.Custody.State≠4) (h2:x.Custody.State≠9) (h3:x.Custody.State≠10):a3f x.Custody=false:=by
 rw[a1n];simp[h,h2,h3]
def e1v {c:Circ} (v:Val 0 c) {l:List Loan} (h:o4 l=0∧(∀z∈l,∃w∈c.Loans,d66 z w)∧∀w∈c.Loans,∃z∈l,d66 w z):Res c (i7 c l):=by
 refine ⟨v.setLoans h.1 (λn hn=>?_) (λn hn _=>?_),b31,λk=>k⟩
 ·obtain ⟨w,hw,e1,e2⟩:=h.2.1 n hn;exact ⟨by rw[e2];exact v.loanP w hw,.inl ⟨w,hw,e1.symm,e2.symm⟩⟩
 ·obtain ⟨z,hz,e1,e2⟩:=h.2.2 n hn;exact ⟨z,hz,e1.symm⟩
def e3n {c d:Circ} {n:Int} (v:Val 0 c) (m:MidP c) {item:Int} (e:qe7 c item=some (d,n,0)):Res c d:=by
 unfold qe7 at e;rw[e23 m.short.loans]at e;generalize a3r c.Loans item=q at e;obtain ⟨n0,ok⟩:=q;dsimp only at e;cases ok with
 |false=>cases e
 |true=>
  simp only[yak,yaa]at e;rcases a79 m item with ⟨-,h2,-⟩|⟨i,x,-,h2,hx,hid,-⟩
  ·rw[h2]at e;cases e
  ·rw[h2]at e;simp only[d8,hx]at e;cases h4:!(x.Custody.State==4) with
   |true=>rw[h4]at e;cases e
   |false=>
    rw[h4]at e;simp only[yaa]at e;cases hb:qen c n0.Patron with
    |none=>rw[hb]at e;cases e
    |some b=>
     rw[hb]at e;cases b with
     |true=>cases e
     |false=>
      dsimp only at e;simp only[yaa]at e;rw[show b9 a7w (item,0,c,ZN,n0,x,())=_ from b43 m.short]at e;cases hw:a6d c x with
      |true=>rw[hw]at e;cases e
      |false=>
       rw[hw]at e;dsimp only[cond_false]at e;cases hr:qfv c n0.Patron x with
       |none=>rw[hr]at e;cases e
       |some rb=>
        obtain ⟨r,b⟩:=rb;rw[hr]at e;cases b with
        |false=>cases e
        |true=>
         dsimp only at e;simp only[yak,yaa,a5w m.short.patrons]at e;cases hc:qt c x.Custody.Branch with
         |none=>rw[hc]at e;cases e
         |some cal=>
          rw[hc]at e;dsimp only at e;rcases q1:qfm r cal n0 c.Today (a3e c.Patrons n0.Patron).1.Until with _|⟨due,f⟩
          ·rw[q1]at e;cases e
          rw[q1]at e;dsimp only at e;have hz:=d3n e;clear e;obtain ⟨rfl,e⟩:=hz;rw[f48 m.short.loans]at e;rcases q2:a7x c.Loans item due with ⟨l,f⟩;rw[q2]at e;dsimp only at e;have hz:=d3n e;clear e;obtain ⟨rfl,e⟩:=hz;cases e
          exact e1v v (e3m q2)
end
section
open Go (IntKind)
def d5f {u:Custody} (h:u.State=4∨u.State=9∨u.State=10):a3f u=true:=by
 rw[a1n];rcases h with h|h|h<;>simp[h]
def Res.trans {a b c:Circ} (h:Res a b) (k:Res b c):Res a c:=⟨k.val,h.stp.trans k.stp,λq=>k.idle (h.idle q)⟩
def c6q {c d:Circ} {it:Int} (v:Val it c) (m:MidP c) {p item kind amount:Int} (hp:(a3e c.Patrons p).2=true) (e:qem c p item kind amount=some (d,0)):Val it d∧MidP d∧∃ch nc,d=a5j c ch nc:=by
 obtain ⟨hd,he,hn⟩:=(b6r m p item kind amount).b e;have hv:=b0u v.nums;rw[a0g (by omega) (by omega)]at hd;subst hd;refine ⟨v.setCharges he ⟨by omega,by omega⟩ (λx hx=>?_),d0j m (b3a he) _,_,_,rfl⟩;rcases yau.1 hx with hx|hx
 ·have:=c2c (v.chG x hx);exact ⟨this.1,by omega⟩
 ·have:x=⟨c.NextCharge,p,item,c.Today,kind,amount,0⟩:=by simpa using hx
  subst this;exact ⟨hp,by show c.NextCharge<c.NextCharge+1;omega⟩
def e0c {l:List Hold} (h:w8 l=0) {o p:Hold} (ho:o∈l) (hp:p∈l) (hg:0<o.Got) (e:o.Got=p.Got):o=p:=by
 obtain ⟨i,hi⟩:=yaw ho;obtain ⟨j,hj⟩:=yaw hp;have h4:=(b1c.1 h).2.2;rw[ya3]at h4;obtain ⟨hil,rfl⟩:=yaA.1 hi;obtain ⟨hjl,rfl⟩:=yaA.1 hj;rcases ycc i j with q|q|q
 ·have:=h4 i j hil hjl q;unfold a0r at this;simp only[yai,ya1,yaf,yaY,ne_eq]at this;rcases this.2 with w|w
  ·omega
  ·exact absurd e.symm w
 ·subst q;rfl
 ·have:=h4 j i hjl hil q;unfold a0r at this;simp only[yai,ya1,yaf,yaY,ne_eq]at this;rcases this.2 with w|w
  ·omega
  ·exact absurd e w
end
section
open Go (IntKind)
def e2c:∀{A B:List Int},A.Nodup→(∀a∈A,a∈B)→A.length≤B.length:=by
 intro A
 induction A with
 |nil=>intro B _ _;simp
 |cons a A ih=>
  intro B hn hs;rw[List.nodup_cons]at hn;have ha:=hs a (yaK ..);have:=ih (B:=B.erase a) hn.2 (λb hb=>by
   have h1:b≠a:=λe=>hn.1 (e▸hb)
   exact (List.mem_erase_of_ne h1).2 (hs b (yaN _ hb)))
  rw[List.length_erase_of_mem ha]at this;have hp:=List.length_pos_of_mem ha;simp only[yaR];omega
def e51 {c:Circ} {it:Int} (v:Val it c) (r:Int):(c.Holds.filter (λo=>o.Record==r)).length≤c.Patrons.length:=by
 have hp:=(b1c.1 v.holds).2.2;have h1:((c.Holds.filter (λo=>o.Record==r)).map (λo=>o.Patron)).Nodup:=by
  rw[List.nodup_iff_pairwise_ne,List.pairwise_map];refine (hp.filter _).imp_of_mem (λ{a b} ha hb q=>?_);have ha:=(yaE.1 ha).2;have hb:=(yaE.1 hb).2;simp only[ya6]at ha hb;unfold a0r at q;simp only[yai,ya1,yaY,ne_eq]at q;rcases q.1 with w|w
  ·exact λe=>w e.symm
  ·exact absurd (hb.trans ha.symm) w
 have h2:=e2c h1 (B:=c.Patrons.map (λp=>p.ID)) (λa ha=>by
  obtain ⟨o,ho,rfl⟩:=ybe.1 ha;have:=(v.holdP o (yaE.1 ho).1).1;unfold a3e at this;cases hq:c.Patrons.find? (λp=>p.ID==o.Patron) with
  |none=>rw[hq]at this;cases this
  |some p=>exact ybe.2 ⟨p,yaZ hq,by have:=ybs hq;simpa using this⟩)
 rw[ybn,ybn]at h2;exact h2
def b3w {c:Circ} (h:a1d c=true):c.Items.length≤64∧c.Moves.length≤2000:=by
 unfold a1d at h;simp only[yae,yan,yai,yaf]at h;omega
structure Inv (c:Circ):Prop where
 val:Val 0 c
 short:Short c
 pats:c.Patrons.length≤32
def h0g {c d:Circ} (s:Short c) (hp:c.Patrons.length≤32) (v:Val 0 d) (t:Stp c d):Inv d:=by
 obtain ⟨a1,a2,a3,a4,a5,a6,a7,a8,a9,a10,a11,a12,a13⟩:=s;have h1:=b3w v.items;have h2:=(b1e.1 v.loans).1;have h3:=(b1c.1 v.holds).1;have h4:=(b9d.1 v.charges).1;refine ⟨v,⟨by omega,by rw[t.pats];exact a2,by omega,by omega,by omega,by rw[t.rules];exact a6,by omega,λx hx=>by have:=(a4j v.items hx).2.2.2.2;omega,by rw[t.pats];exact a9,by rw[t.cals];exact a10,by rw[t.cals];exact a11,by rw[t.cals];exact a12,by rw[t.cals];exact a13⟩,by rw[t.pats];exact hp⟩
def Inv.fit {c:Circ} (h:Inv c):FitP c:=h5t (b5v h.val)
def Inv.mid {c:Circ} (h:Inv c):MidP c:=by
 have f:=h.fit;have h1:=b3w h.val.items;have h2:=(b1c.1 h.val.holds).1;have h4:=(b9d.1 h.val.charges).1;exact ⟨h.short,by omega,by omega,a0h f.holds,λo ho=>a6k f ho,λr=>by have:=e51 h.val r;have:=h.pats;omega,a8v f,λr hr=>c0x f hr,λx hx=>b0l f hx,b0n h.val.items,by omega⟩
def Inv.w {c:Circ} (h:Inv c):MidW c:=by
 have h1:=b3w h.val.items;have h2:=(b1e.1 h.val.loans).1;have h3:=(b1c.1 h.val.holds).1;exact ⟨h.short,by omega,by omega,by omega,λr=>by have:=e51 h.val r;have:=h.pats;omega⟩
def Inv.of {c d:Circ} (h:Inv c) (v:Val 0 d) (t:Stp c d):Inv d:=h0g h.short h.pats v t
def c7d {c:Circ} (p:Hold→Bool):d3c (t8 c (c.Holds.filter p)) c:=⟨rfl,λo ho _=>(yaE.1 ho).1⟩
def c9t.less {c d:Circ} (h:c9t c) (hi:d.Items=c.Items) (l:d3c d c):c9t d:=λy hy h3=>(h y (by rw[←hi];exact hy) h3).less l rfl rfl
end
section
open Go (IntKind)
def c0o {c:Circ} (s:Short c) {item patron branch due:Int} (e:qel c item patron branch=some (due,0)):(a3e c.Patrons patron).2=true:=by
 unfold qel at e;rw[a5w s.patrons,a96 s.items]at e;dsimp only at e;cases hg:(a3e c.Patrons patron).2 with
 |true=>rfl
 |false=>
  rw[hg]at e;cases hq:decide (a66 (λx=>x.ID==item) c.Items<0)<;>rw[hq]at e<;>cases e
def b2z {c:Circ} {item:Int} (h:(p7 c item).2=false):∀o∈c.Holds,o.Got≠item:=by
 intro o ho e;unfold p7 at h;cases hq:c.Holds.find? (λh=>h.Got==item) with
 |none=>exact absurd (ybF.1 hq o ho) (by simpa using e)
 |some p=>rw[hq]at h;cases h
def e8w {c d:Circ} {n:Int} (I:Inv c) {item patron branch:Int} (e:qfz c item patron branch=some (d,n,0)):Res c d:=by
 have v:=I.val;have m:=I.mid;have hlp:=(b1e.1 v.loans).1;have hhp:=(b1c.1 v.holds).1;unfold qfz at e;rcases e0:qel c item patron branch with _|⟨due,f⟩
 ·rw[e0]at e;cases e
 rw[e0]at e;dsimp only at e;have hz:=d3n e;clear e;obtain ⟨rfl,e⟩:=hz;have hk:=c0o m.short e0;rcases a79 m item with ⟨-,h2,-⟩|⟨i,x,-,h2,hx,rfl,-⟩
 ·rw[h2]at e;cases e
 rw[h2]at e;simp only[d8,hx]at e;rcases e1:qe5 c x.ID 3 branch patron with _|⟨c1,f⟩
 ·rw[e1]at e;cases e
 rw[e1]at e;dsimp only at e;have hz:=d3n e;clear e;obtain ⟨rfl,e⟩:=hz;have hm0:=yag hx;have hid:=a4j v.items hm0;have hst:x.Custody.State∈([3,5]:List Int):=c7y m hx e1;have hst:x.Custody.State=3∨x.Custody.State=5:=by simpa using hst
 obtain ⟨u,ha,hlen,hc1,m1⟩:=a5e m hx e1;have hu:u.State=4∧u.Who=patron:=by rw[(d7v ha).res];exact ⟨rfl,rfl⟩
 have v1:=(v.weak x.ID).move hx rfl ha hlen;have hlf:=v.lfree hm0 (f0f (by omega) (by omega) (by omega));have hm1:a04 u x∈(z8 c i x ⟨c.Today,x.ID,3,branch,patron⟩ u).Items:=(a6z v.items hx).2 (.inr rfl);have st1:Stp c (z8 c i x ⟨c.Today,x.ID,3,branch,patron⟩ u):=a5d;have hidle:c9t c→c9t (z8 c i x ⟨c.Today,x.ID,3,branch,patron⟩ u):=λh y hy h3=>by
  rcases (a6z v.items hx).1 hy with ⟨hy,_⟩|rfl
  ·exact h y hy h3
  ·rw[show (a04 u x).Custody=u from rfl]at h3;omega
 rw[←hc1]at v1 hm1 st1 hidle;have hL:c1.Loans=c.Loans:=by rw[hc1];rfl
 have hH:c1.Holds=c.Holds:=by rw[hc1];rfl
 have hP:c1.Patrons=c.Patrons:=by rw[hc1];rfl
 clear hc1;rw[f5g (by rw[hL];omega)]at e;dsimp only at e;rcases hout:e6h c1.Loans ⟨x.ID,patron,c1.Today,due,0,false⟩ with ⟨l,f⟩;rw[hout]at e;dsimp only at e;have hz:=d3n e;clear e;obtain ⟨rfl,e⟩:=hz;obtain ⟨o1,o2,o3⟩:=g2w hout;have v2:=v1.setLoans (l:=l) o1 (λz hz=>by
  rcases (o2 z).1 hz with rfl|hz
  ·exact ⟨by rw[hP];exact hk,.inr ⟨rfl,a04 u x,hm1,rfl⟩⟩
  ·exact ⟨v1.loanP z hz,.inl ⟨z,hz,rfl,rfl⟩⟩) (λz hz _=>⟨z,(o2 z).2 (.inr hz),rfl⟩)
 have hc2:{c1 with Loans:=l}=i7 c1 l:=rfl;simp only[hc2]at e;have hH2:(i7 c1 l).Holds=c.Holds:=hH;have hI2:(i7 c1 l).Items=c1.Items:=rfl;have hL2:(i7 c1 l).Loans=l:=rfl;have st2:Stp c (i7 c1 l):=st1.trans b31;have hid2:c9t c→c9t (i7 c1 l):=hidle;generalize i7 c1 l=c2 at e v2 hH2 hI2 hL2 st2 hid2;have fin:∀d:Circ,d.Items=c1.Items→d.Loans=l→Val x.ID d→d63 d x.ID→Stp c2 d→d3c d c2→Res c d:=by
  intro d qI qL vd hf st hless;refine ⟨vd.close (x:=a04 u x) (by rw[qI];exact hm1) rfl (λz hz hzi=>?_) (λ_=>⟨⟨x.ID,patron,c1.Today,due,0,false⟩,by rw[qL];exact (o2 _).2 (.inl rfl),rfl⟩) (λh hh hs1 hg=>absurd hg (hf h hh hs1)) (λh=>?_),st2.trans st,λh=>(hid2 h).less (qI.trans hI2.symm) hless⟩
  ·rw[qL]at hz;rcases (o2 z).1 hz with rfl|hz
   ·exact ⟨d5f (u:=u) (.inl hu.1),hu.2⟩
   ·exact absurd hzi (hlf z (by rw[←hL];exact hz))
  ·rw[show (a04 u x).Custody=u from rfl]at h;omega
 have hs2:c2.Holds.length<1000000:=by rw[hH2];omega
 rw[b48 (by omega)]at e;dsimp only at e;have cut:∀o∈c2.Holds,(o.State≠3∨o.Got=x.ID)→(∀p∈c2.Holds,p.State≠1→p.Got=x.ID→p.ID=o.ID)→(match qeu c2.Holds o.ID with
  |some (r23,r24,r25)=>bif !(r25==0) then some (y6,0,r25) else some (t8 c2 r23,due,0)
  |none=>none)=some (d,n,0)→Res c d:=by
  intro o ho hoq hall e;rw[f41 (by omega),c6p (a0h v2.holds) ho]at e;dsimp only at e;simp only[yal,yak,yaa]at e;cases e
  refine fin _ hI2 hL2 (v2.remove ho hoq) (λp hp hs1 hpg=>?_) a9w (c7d _);have hp2:=yaE.1 hp;have:=hall p hp2.1 hs1 hpg;have q:=hp2.2;rw[this]at q;simp at q
 cases hcg:(p7 c2 x.ID).2 with
 |true=>
  have hcm:=a5q hcg;rw[hcg]at e;have hw:b9 a2p (patron,due,true,0,c2,y6,x,(p7 c2 x.ID).1,())=some (due,true,c2,y6,(p7 c2 x.ID).1,()):=by
   refine o6 1 (by rw[n9];omega) ?_;simp only[o7,a2p];cases decide ((0:Int)<(c2.Holds.length:Int))<;>rfl
  rw[show b9 a2p (patron,due,true,0,c2,ZN,x,(p7 c2 x.ID).1,())=_ from hw]at e;dsimp only at e;simp only[yac]at e;exact cut _ hcm.1 (.inr hcm.2) (λp hp hs1 hpg=>by rw[e0c v2.holds hcm.1 hp (by rw[hcm.2];omega) (hcm.2.trans hpg.symm)]) e
 |false=>
  have hno:=b2z hcg;rw[hcg]at e;have hw:=b5a (c:=c2) (v:=y6) (patron:=patron) (due:=due) (x:=x) hs2 c2.Holds.length 0 (p7 c2 x.ID).1 (by omega);have hw2:b9 a2p (patron,due,false,0,c2,y6,x,(p7 c2 x.ID).1,())=_:=o6 (c2.Holds.length+2) (by rw[n9];omega) hw;rw[ybX]at hw2;rw[show b9 a2p (patron,due,false,0,c2,ZN,x,(p7 c2 x.ID).1,())=_ from hw2]at e;dsimp only at e;unfold c7s at e;cases hf:c2.Holds.find? (b3z patron x) with
  |none=>
   rw[hf]at e;dsimp only at e;simp only[yaa]at e;have hcc:t8 c2 c2.Holds=c2:=rfl;have e:some (t8 c2 c2.Holds,due,(0:Int))=some (d,n,0):=e;rw[hcc]at e;cases e
   exact fin _ hI2 hL2 v2 (λp hp _ hpg=>hno p hp hpg) (.refl _) (.refl _)
  |some o=>
   rw[hf]at e;dsimp only at e;simp only[yac]at e;have hoq:=ybs hf;unfold b3z at hoq;simp only[yae,ya6]at hoq;exact cut _ (yaZ hf) (.inl (by omega)) (λp hp _ hpg=>absurd hpg (hno p hp)) e
structure Ret (c d:Circ) (i:Nat) (x:Item) (branch:Int):Prop where
 val:Val x.ID d
 mid:MidP d
 items:d.Items=c.Items.set i (a04 ⟨2,branch,0,0⟩ x)
 free:d3b d x.ID
 holds:d.Holds=c.Holds
 today:d.Today=c.Today
 stp:Stp c d
def c5o {c d:Circ} (I:Inv c) {i:Nat} {x:Item} (hx:c.Items[i]?=some x) {branch:Int} (e:qei c x.ID branch=some (d,0)):Ret c d i x branch:=by
 have v:=I.val;have m:=I.mid;have hlp:=(b1e.1 v.loans).1;unfold qei at e;rcases e1:qe5 c x.ID 4 branch 0 with _|⟨c1,f⟩
 ·rw[e1]at e;cases e
 rw[e1]at e;dsimp only at e;have hz:=h4o e;clear e;obtain ⟨rfl,e⟩:=hz;obtain ⟨u,ha,hlen,hc1,m1⟩:=a5e m hx e1;have hu:u=⟨2,branch,0,0⟩:=(d7v ha).res;subst hu;have v1:=(v.weak x.ID).move hx rfl ha hlen;have st1:Stp c (z8 c i x ⟨c.Today,x.ID,4,branch,0⟩ ⟨2,branch,0,0⟩):=a5d;have hx1:=a8d hx ⟨c.Today,x.ID,4,branch,0⟩ ⟨2,branch,0,0⟩;rw[←hc1]at v1 st1 hx1;have hL:c1.Loans=c.Loans:=by rw[hc1];rfl
 have hH:c1.Holds=c.Holds:=by rw[hc1];rfl
 have hI:c1.Items=c.Items.set i (a04 ⟨2,branch,0,0⟩ x):=by rw[hc1];rfl
 have hT:c1.Today=c.Today:=by rw[hc1];rfl
 clear hc1;rw[f45 (by rw[hL];omega)]at e;rcases hb:a8u c1.Loans x.ID with ⟨l,n,f⟩;rw[hb]at e;dsimp only at e;have hz:=h4o e;clear e;obtain ⟨rfl,e⟩:=hz;obtain ⟨b1,b2,b3,b4⟩:=e60 v1.loans hb;have v2:=v1.setLoans b3 (λz hz=>⟨v1.loanP z ((b4 z).1 hz).1,.inl ⟨z,((b4 z).1 hz).1,rfl,rfl⟩⟩) (λz hz hne=>⟨z,(b4 z).2 ⟨hz,hne⟩,rfl⟩);have m2:=c3e m1 (l:=l) (by have:=(b1e.1 b3).1;omega);have hat:=a8r (c:=i7 c1 l) (x:=a04 ⟨2,branch,0,0⟩ x) m2 hx1;have hc2:{c1 with Loans:=l}=i7 c1 l:=rfl;simp -zeta only[hc2]at e;rw[show qgm (i7 c1 l) x.ID=_ from hat]at e;simp -zeta only[d8,hx1]at e;have hpn:(a3e (i7 c1 l).Patrons n.Patron).2=true:=v1.loanP n b1;have hfr:d3b (i7 c1 l) x.ID:=λz hz=>((b4 z).1 hz).2
 have hI2:(i7 c1 l).Items=c1.Items:=rfl;have hH2:(i7 c1 l).Holds=c1.Holds:=rfl;have hT2:(i7 c1 l).Today=c1.Today:=rfl;have st2:Stp c (i7 c1 l):=st1.trans b31;have rf:∀c3:Circ,Val x.ID c3→MidP c3→(∃ch nc,c3=a5j (i7 c1 l) ch nc)→(match qey c3.Charges n.Patron x.ID 2 with
  |some (r21,r22)=>some ({c3 with Charges:=r21},(0:Int))
  |none=>none)=some (d,0)→Ret c d i x branch:=by
  intro c3 v3 m3 h3 e;obtain ⟨w,hw⟩:=f42 (p:=n.Patron) (item:=x.ID) (kind:=2) m3.chN;rw[hw]at e;cases e
  have hfl:=yaX (λy=>!(b5c n.Patron x.ID 2 y)) c3.Charges;have hch:=m3.chN;have v4:=v3.setCharges (b54 v3.charges (λy=>!(b5c n.Patron x.ID 2 y))) ⟨Int.le_refl _,(b0u v3.nums).2.2.2⟩ (λy hy=>c2c (v3.chG y (yaE.1 hy).1));have m4:=d0j m3 (l:=c3.Charges.filter (λy=>!(b5c n.Patron x.ID 2 y))) (by omega) c3.NextCharge;obtain ⟨ch,nc,rfl⟩:=h3;exact ⟨v4,m4,hI2.trans hI,hfr,hH2.trans hH,hT2.trans hT,st2.trans (g84 (l:=(a5j (i7 c1 l) ch nc).Charges.filter (λy=>!(b5c n.Patron x.ID 2 y))) (n:=nc))⟩
 have core:∀fine:Int,(bif decide (0<fine) then (match qem (i7 c1 l) n.Patron x.ID 1 fine with
  |some (r17,r18)=>bif !(r18==0) then some (y6,r18) else (match qey r17.Charges n.Patron x.ID 2 with
   |some (r21,r22)=>some ({r17 with Charges:=r21},(0:Int))
   |none=>none)
  |none=>none)
  else (match qey (i7 c1 l).Charges n.Patron x.ID 2 with
   |some (r21,r22)=>some ((⟨(i7 c1 l).Today,(i7 c1 l).Items,(i7 c1 l).Patrons,(i7 c1 l).Loans,(i7 c1 l).Holds,r21,(i7 c1 l).Rules,(i7 c1 l).Cals,(i7 c1 l).Moves,(i7 c1 l).NextHold,(i7 c1 l).NextCharge,(i7 c1 l).Local⟩:Circ),(0:Int))
   |none=>none))=some (d,0)→Ret c d i x branch:=by
  intro fine e;cases hf:decide (0<fine) with
  |false=>
   rw[hf]at e;exact rf (i7 c1 l) v2 m2 ⟨(i7 c1 l).Charges,(i7 c1 l).NextCharge,rfl⟩ e
  |true=>
   rw[hf]at e;simp only[yac]at e;rcases e3:qem (i7 c1 l) n.Patron x.ID 1 fine with _|⟨c3,f⟩
   ·rw[e3]at e;cases e
   rw[e3]at e;dsimp only at e;have hz:=h4o e;clear e;obtain ⟨rfl,e⟩:=hz;obtain ⟨v3,m3,h3⟩:=c6q v2 m2 hpn e3;exact rf c3 v3 m3 h3 e
 cases hr:qfv (i7 c1 l) n.Patron (a04 ⟨2,branch,0,0⟩ x) with
 |none=>rw[hr]at e;cases e
 |some rb=>
  obtain ⟨r,b⟩:=rb;rw[hr]at e;cases b with
  |false=>exact core 0 e
  |true=>
   dsimp only at e;simp only[yac]at e;cases hcal:qt (i7 c1 l) branch with
   |none=>rw[hcal]at e;cases e
   |some cal=>
    rw[hcal]at e;dsimp only at e;cases hlate:qf8 r cal n.Due c1.Today with
    |none=>rw[hlate]at e;cases e
    |some fine=>
     rw[hlate]at e;exact core fine e
def d20 {c c1 d:Circ} {n:Int} {i:Nat} {x x1:Item} (v1:Val x.ID c1) (m1:MidP c1) (hx:c1.Items[i]?=some x1) (hxi:x1.ID=x.ID) (hf:d3b c1 x.ID) (st:Stp c c1) (hi:c9t c→e6j x.ID c1)
 (hcase:d63 c1 x.ID∨∀o∈c1.Holds,o.State≠1→o.Got=x.ID→o.State=2∧x1.Record=o.Record∧o.Pickup=x1.Custody.Branch) (e:e3k x.ID 0 c1=some (d,n,0)):Res c d:=by
 rw[←hxi]at v1 hf hi hcase e;unfold e3k at e;simp only[yal,yak,yaa]at e;rw[b48 m1.short.holds]at e;dsimp only at e;have fin:∀{o:Option (Circ×Int)},(match o with
  |some (d,f)=>(bif !(f==0) then some (y6,0,f) else match qet d x1.ID with
   |some (r,_)=>some (d,r.ID,0)
   |none=>none)
  |none=>none)=some (d,n,0)→o=some (d,0):=by
  intro o e;cases o with
  |none=>cases e
  |some p=>
   obtain ⟨d2,f⟩:=p;dsimp only at e;have hz:=d3n e;clear e;obtain ⟨rfl,e⟩:=hz;cases hc:qet d2 x1.ID with
   |none=>rw[hc]at e;cases e
   |some q=>rw[hc]at e;cases e;rfl
 cases hc:(p7 c1 x1.ID).2 with
 |false=>
  rw[hc]at e;have e2:qfy c1 x1.ID=some (d,0):=fin e;have hno:=b2z hc;have r:=e6y m1 hx e2;have f:=e6x v1.holds hx r;exact ⟨g8n v1 hx hf (λo ho _=>hno o ho) r,st.trans f.stp,λh=>f6n v1.items m1 hx f (hi h)⟩
 |true=>
  have hcm:=a5q hc;rw[hc]at e;have e2:qe4 c1 x1.ID (p7 c1 x1.ID).1=some (d,0):=fin e;have r:=c5h m1 hx e2;have hx1:=a4j v1.items (yag hx);have ho1:(p7 c1 x1.ID).1.State≠1:=λq=>by
   have:=(a9u (a3a v1.holds hcm.1)).2.2.2.2.1 q;rw[hcm.2]at this;omega
  rcases hcase with hcase|hcase
  ·exact absurd hcm.2 (hcase _ hcm.1 ho1)
  ·obtain ⟨h2,hrec,hpk⟩:=hcase _ hcm.1 ho1 hcm.2;have v3:=e3i v1 hx hf hcm.1 hrec hpk (λp hp _ hpg=>by rw[e0c v1.holds hcm.1 hp (by rw[hcm.2];omega) (hcm.2.trans hpg.symm)]) r;obtain ⟨u,l,un,ha,hlen,hcc,rfl⟩:=r;have hl:=b0c (c:=z8 c1 i x1 ⟨c1.Today,x1.ID,5,x1.Custody.Branch,(p7 c1 x1.ID).1.Patron⟩ u) v1.holds hcc;refine ⟨v3,st.trans (a5d.trans a9w),λh y hy h3=>?_⟩;have hl2:d3c (t8 (z8 c1 i x1 ⟨c1.Today,x1.ID,5,x1.Custody.Branch,(p7 c1 x1.ID).1.Patron⟩ u) l) c1:=hl.trans ⟨rfl,λo ho _=>ho⟩;have hy:y∈c1.Items.set i (a04 u x1):=hy;rcases (a81 v1.items hx).1 hy with ⟨hy,hne⟩|rfl
   ·exact (hi h y hy hne h3).less hl2 rfl rfl
   ·rw[show (a04 u x1).Custody=u from rfl,show u=⟨5,x1.Custody.Branch,(p7 c1 x1.ID).1.Patron,0⟩ from (d7v ha).res]at h3;exact absurd (show (5:Int)=3 from h3) (by decide)
def c97 {c d:Circ} {n:Int} (I:Inv c) {item branch:Int} (e:qf0 c item branch=some (d,n,0)):Res c d:=by
 have v:=I.val;have m:=I.mid;rcases a79 m item with ⟨-,h2,-⟩|⟨i,x,-,h2,hx,rfl,-⟩
 ·unfold qf0 at e;rw[h2]at e;cases e
 rw[f44 m.short h2 hx]at e;have hm0:=yag hx;have hid:=a4j v.items hm0;have idl:∀c1:Circ,∀u,c1.Items=c.Items.set i (a04 u x)→c1.Holds=c.Holds→c1.Today=c.Today→c9t c→e6j x.ID c1:=by
  intro c1 u hI hH hT h y hy hne h3;rw[hI,a81 v.items hx]at hy;rcases hy with ⟨hy,_⟩|rfl
  ·exact (h y hy h3).less ⟨hT,λo ho _=>by rw[hH]at ho;exact ho⟩ rfl rfl
  ·exact absurd rfl hne
 have mv:∀kind:Int,a3f x.Custody=false→(d63 c x.ID∨kind=7)→(kind=7→x.Custody.State=6)→d3p x.ID (qe5 c x.ID kind branch 0)=some (d,n,0)→Res c d:=by
  intro kind hwp hc h6 e;unfold d3p at e;rcases e1:qe5 c x.ID kind branch 0 with _|⟨c1,f⟩
  ·rw[e1]at e;cases e
  rw[e1]at e;dsimp only at e;by_cases hf:f=0
  ·subst hf;obtain ⟨u,ha,hlen,hc1,m1⟩:=a5e m hx e1;subst hc1;refine d20 (x:=x) ((v.weak x.ID).move hx rfl ha hlen) m1 (a8d hx _ u) rfl (v.lfree hm0 hwp) a5d (idl _ u rfl rfl rfl) ?_ e;by_cases hk:kind=7
   ·subst hk;right;intro o ho hs1 hg;obtain ⟨y,hy,hyi,hyr,hat⟩:=v.holdI o ho hs1;have:=a00 v.items hy hm0 (hyi.trans hg);subst this;have hat:=hat (by omega);have hs6:=h6 rfl;have h2:o.State=2:=by
     rcases (a9u (a3a v.holds ho)).2.2.2.1 with q|q|q
     ·exact absurd q hs1
     ·exact q
     ·have:=(hat.1 q).1;omega
    have hto:=(hat.2 h2).2.1;have hu:u=⟨2,branch,0,0⟩:=(d7v ha).res;have hfit:=(d7v ha).fits;unfold c0w at hfit;simp at hfit;refine ⟨h2,hyr,?_⟩;show o.Pickup=u.Branch
    rw[hu];show o.Pickup=branch
    omega
   ·left;rcases hc with hc|hc
    ·exact hc
    ·exact absurd hc hk
  ·exfalso;unfold e3k at e;rw[show (f==0)=false by simpa using hf]at e;cases e
   exact hf rfl
 cases hp:a3f x.Custody with
 |true=>
  rw[hp]at e;simp only[yac]at e;cases hb:(decide (branch<1)||decide (4<branch)) with
  |true=>rw[hb]at e;cases e
  |false=>
   rw[hb]at e;simp only[yaa]at e;unfold d3p at e;rcases e1:qei c x.ID branch with _|⟨c1,f⟩
   ·rw[e1]at e;cases e
   rw[e1]at e;dsimp only at e;by_cases hf:f=0
   ·subst hf;have R:=c5o I hx e1;have hst:x.Custody.State=4∨x.Custody.State=9∨x.Custody.State=10:=by
     rw[a1n]at hp;simpa[or_assoc]using hp
    have hfr:=v.hfree hm0 (by omega) (by omega);have hlt:=(zL hx)
    exact d20 (x:=x) R.val R.mid (i:=i) (x1:=a04 ⟨2,branch,0,0⟩ x) (by rw[R.items,ybx hlt]) rfl R.free R.stp (idl _ _ R.items R.holds R.today) (.inl (λo ho=>hfr o (by rw[←R.holds];exact ho))) e
   ·exfalso;unfold e3k at e;rw[show (f==0)=false by simpa using hf]at e;cases e
    exact hf rfl
 |false=>
  rw[hp]at e;simp only[yaa]at e;cases h8:x.Custody.State==8 with
  |true=>
   rw[h8]at e;have h8:x.Custody.State=8:=by simpa using h8
   exact mv 4 hp (.inl (v.hfree hm0 (by omega) (by omega))) (λq=>absurd q (by decide)) e
  |false=>
   rw[h8]at e;simp only[yaa]at e;cases h11:x.Custody.State==11 with
   |true=>
    rw[h11]at e;have h11:x.Custody.State=11:=by simpa using h11
    exact mv 14 hp (.inl (v.hfree hm0 (by omega) (by omega))) (λq=>absurd q (by decide)) e
   |false=>
    rw[h11]at e;simp only[yaa]at e;cases h6:x.Custody.State==6 with
    |true=>
     rw[h6]at e;exact mv 7 hp (.inr rfl) (λ_=>by simpa using h6) e
    |false=>
     rw[h6]at e;cases e
end
section
open Go (IntKind Lit)
def wi (n lo hi:Int):Bool:=decide (lo≤n)&&decide (n≤hi)
def h09 (n lo hi:Int):qb4 n lo hi=some (wi n lo hi):=by
 unfold qb4 wi;cases h:decide (lo≤n)<;>simp[h]
def h31 (n lo hi:Int):(decide (n<lo)||decide (hi<n))=!wi n lo hi:=by
 unfold wi;rw[ybj];simp only[ybr,yan,ya1,yad,yaf];omega
def chk (x:Off):Int:=
 bif (((!wi x.Device 1 9||!wi x.Seq 1 9999)||!wi x.Day 0 109572)||!wi x.Item 1 9999)||!wi x.Branch 1 4 then 2
 else bif !wi x.Kind 1 3 then 1
 else bif (x.Kind==1&&!wi x.Patron 1 9999)||(!(x.Kind==1)&&!(x.Patron==0)) then 2 else 0
def h1k (x:Off):qcy x=some (chk x):=by
 unfold qcy chk;simp -zeta only[h09];generalize wi x.Device 1 9=a1;generalize wi x.Seq 1 9999=a2;generalize wi x.Day 0 109572=a3;generalize wi x.Item 1 9999=a4;generalize wi x.Branch 1 4=a5;generalize wi x.Kind 1 3=a6;generalize (x.Kind==1)=a7;generalize wi x.Patron 1 9999=a8;generalize (x.Patron==0)=a9;dsimp only;cases a1
 ·rfl
 cases a2
 ·rfl
 cases a3
 ·rfl
 cases a4
 ·rfl
 cases a5
 ·rfl
 cases a6
 ·rfl
 cases a7<;>cases a8<;>cases a9<;>rfl
def h18 (x:Off):qeh x=some (chk x):=by
 unfold qeh chk;simp only[←h31];generalize decide (x.Device<1)=a1;generalize decide (9<x.Device)=b1;generalize decide (x.Seq<1)=a2;generalize decide (9999<x.Seq)=b2;generalize decide (x.Day<0)=a3;generalize decide (109572<x.Day)=b3;generalize decide (x.Item<1)=a4;generalize decide (9999<x.Item)=b4;generalize decide (x.Branch<1)=a5;generalize decide (4<x.Branch)=b5;generalize decide (x.Kind<1)=a6;generalize decide (3<x.Kind)=b6;generalize (x.Kind==1)=a7;generalize decide (x.Patron<1)=a8;generalize decide (9999<x.Patron)=b8;generalize (x.Patron==0)=a9;cases a1
 rotate_left
 ·rfl
 cases b1
 rotate_left
 ·rfl
 cases a2
 rotate_left
 ·rfl
 cases b2
 rotate_left
 ·rfl
 cases a3
 rotate_left
 ·rfl
 cases b3
 rotate_left
 ·rfl
 cases a4
 rotate_left
 ·rfl
 cases b4
 rotate_left
 ·rfl
 cases a5
 rotate_left
 ·rfl
 cases b5
 rotate_left
 ·rfl
 cases a6
 rotate_left
 ·rfl
 cases b6
 rotate_left
 ·rfl
 cases a7<;>cases a8<;>cases b8<;>cases a9<;>rfl
def b6d (x y:Off):Bool:=x.Device==y.Device&&x.Seq==y.Seq
def e0t (x y:Off):b6d x y=b6d y x:=by
 unfold b6d;rw[ybj];simp only[yae,ya6];omega
def b62 {X:Type} {p:X→Bool}:∀(l:List X) (i:Nat),(match a2u (β:=Unit⊕(Int×Unit)) p (λi _=>.inr ((i:Int),())) (.inl ()) i l with | .inl _=>some (-1:Int) | .inr (v,_)=>some v).map (λr=>decide (0≤r))=some (l.any p):=by
 intro l
 induction l with
 |nil=>intro i;rfl
 |cons x l ih=>
  intro i;simp only[a2u,ycb];cases p x with
  |true=>simp
  |false=>simp only[yaa,ybg];exact ih _
def h04 {γ:Type} {q:γ→Off→Option Bool} {p:Off→Bool} {g:γ} (hq:∀x,q g x=some (p x)) {l:List Off} (hl:l.length<1000000000) :
 qao q l g=(match a2u (β:=Unit⊕(Int×Unit)) p (λi _=>.inr ((i:Int),())) (.inl ()) 0 l with | .inl _=>some (-1:Int) | .inr (v,_)=>some v):=by
 unfold qao;have h:=w7 (step:=b7t q) (λi=>(l,g,(l.length:Int),(i:Int),())) l p (λi _=>.inr ((i:Int),())) (.inl ()) hl
  (by simp only[b7t,dge,yaa])
  (λi x hx=>by
   have hi:=(zL hx)
   simp only[b7t,dlt hi,d8,hx,yac,hq,wS i])
 rw[show b9 (b7t q) (l,g,(l.length:Int),0,())=_ from h];cases a2u (β:=Unit⊕(Int×Unit)) p (λi _=>.inr ((i:Int),())) (.inl ()) 0 l<;>rfl
def h1v {γ:Type} {q:γ→Off→Option Bool} {p:Off→Bool} {g:γ} (hq:∀x,q g x=some (p x)) {l:List Off} (hl:l.length<1000000000) :
 qds q l g=some (l.any p):=by
 unfold qds;rw[h04 hq hl,←b62 l 0];cases a2u (β:=Unit⊕(Int×Unit)) p (λi _=>.inr ((i:Int),())) (.inl ()) 0 l<;>rfl
def c2o (l:List Off):Int:=a0e (λ_ x=>chk x) 0 l
def f0o {l:List Off} (hl:l.length<1000000000):b9 d6a (l,l,(l.length:Int),0,())=some (if c2o l==0 then .inl (l,()) else .inr (c2o l,())):=
 a06 (step:=d6a) (λi=>(l,l,(l.length:Int),(i:Int),())) l (λ_ x=>chk x) (.inl (l,())) (λe=>.inr (e,())) hl
  (by simp only[d6a,dge,yaa])
  (λi x hx=>by
   have hi:=(zL hx)
   simp only[d6a,dlt hi,d8,hx,yac,h1k,wS i,a65];by_cases h:chk x=0
   ·rw[h];rfl
   ·rw[show (chk x==0)=false by simpa using h];rfl)
def e2w {l:List Off} (hl:l.length<1000000000):b9 c4o (l,0,())=some (if c2o l==0 then .inl (l,()) else .inr (c2o l,())):=
 a06 (step:=c4o) (λi=>(l,(i:Int),())) l (λ_ x=>chk x) (.inl (l,())) (λe=>.inr (e,())) hl
  (by simp only[c4o,dge,yaa])
  (λi x hx=>by
   have hi:=(zL hx)
   simp only[c4o,dlt hi,d8,hx,yac,h18,wS i,a65];by_cases h:chk x=0
   ·rw[h];rfl
   ·rw[show (chk x==0)=false by simpa using h];rfl)
def b4e (l:List Off):Bool:=a1s (λi x=>!(l.take i).any (λy=>b6d x y)) 0 l
def h1a (y v:Off):qbf y v=some (b6d v y):=by
 unfold qbf b6d;cases v.Device==y.Device<;>rfl
def e27 {l:List Off} (hl:l.length<1000000):b9 b8h (l,l,(l.length:Int),0,())=some (bif b4e l then .inl (l,()) else .inr (7,())):=
 j9 (step:=b8h) (λi=>(l,l,(l.length:Int),(i:Int),())) l (λi x=>!(l.take i).any (λy=>b6d x y)) (.inr (7,())) (.inl (l,())) (by omega)
  (by simp only[b8h,dge,yaa])
  (λi x hx=>by
   have hi:=(zL hx)
   have g1:(decide ((0:Int)≤(0:Int))&&(decide ((0:Int)≤(i:Int))&&decide ((i:Int)≤(l.length:Int))))=true:=by
    simp only[yae,yad];omega
   have e0:((l.take ((i:Int)).toNat).drop ((0:Int)).toNat)=l.take i:=by simp
   simp only[b8h,dlt hi,d8,hx,yac,g1,e0];rw[h1v (p:=λy=>b6d x y) (λy=>h1a y x) (by rw[yaD];omega)];simp only[wS i];cases (l.take i).any (λy=>b6d x y)<;>rfl)
def d5t {l:List Off} {i:Nat} {x:Off} (hx:l[i]?=some x) (hl:l.length<1000000):b9 b0w (l,(i:Int),0,())=some (bif !(l.take i).any (λy=>b6d x y) then .inl (l,(i:Int),()) else .inr (7,())):=by
 have hi:=(zL hx)
 have ht:(l.take i).length=i:=by rw[yaD];omega
 have h:=j9 (step:=b0w) (λk=>(l,(i:Int),(k:Int),())) (l.take i) (λ_ y=>!b6d x y) (.inr (7,())) (.inl (l,(i:Int),())) (by omega)
  (by rw[ht];simp only[b0w,dge,yaa])
  (λk y hy=>by
   have hk:k<i:=by have:=(zL hy);omega
   have hy2:l[k]?=some y:=by rw[yaH]at hy;rwa [yaF hk]at hy
   simp -zeta only[b0w,dlt hk,d8,hx,hy2,yac,wS k];unfold b6d;cases x.Device==y.Device<;>cases x.Seq==y.Seq<;>rfl)
 rw[show b9 b0w (l,(i:Int),0,())=_ from h,o0];have e:∀l:List Off,l.all (λy=>!b6d x y)=!l.any (λy=>b6d x y):=by
  intro l
  induction l with
  |nil=>rfl
  |cons z l ih=>rw[ybR,ycb,ih,Bool.not_or]
 rw[e]
def d5s {l:List Off} (hl:l.length<1000000):b9 b41 (l,0,())=some (bif b4e l then .inl (l,()) else .inr (7,())):=
 j9 (step:=b41) (λi=>(l,(i:Int),())) l (λi x=>!(l.take i).any (λy=>b6d x y)) (.inr (7,())) (.inl (l,())) (by omega)
  (by simp only[b41,dge,yaa])
  (λi x hx=>by
   have hi:=(zL hx)
   simp only[b41,dlt hi,yac,d5t hx hl];cases (l.take i).any (λy=>b6d x y) with
   |true=>rfl
   |false=>simp only[yar,yac,wS i])
def c4f {l:List Off} (h:b4e l=true):∀(i j:Nat) (x y:Off),l[i]?=some x→l[j]?=some y→b6d x y=true→i=j:=by
 unfold b4e at h;rw[a39]at h;have key:∀(i j:Nat) (x y:Off),l[i]?=some x→l[j]?=some y→j<i→b6d x y=false:=by
  intro i j x y hx hy hji;have:=h i x hx;rw[yaI]at this;simp only[yan,ybL]at this;have hm:y∈l.take i:=yag (i:=j) (by rw[yaH,yaF hji];exact hy);simpa using this y hm
 intro i j x y hx hy hk;rcases ycc i j with q|q|q
 ·rw[e0t,key j i y x hy hx q]at hk;cases hk
 ·exact q
 ·rw[key i j x y hx hy q]at hk;cases hk
end
section
open Go (IntKind Lit)
def ltO (a b:Off):Bool:=bif !(a.Day==b.Day) then decide (a.Day<b.Day) else bif !(a.Device==b.Device) then decide (a.Device<b.Device) else decide (a.Seq<b.Seq)
def h2b (a b:Off):qes a b=some (ltO a b):=by
 unfold qes ltO;cases a.Day==b.Day<;>cases a.Device==b.Device<;>rfl
def c0m (a b:Off):ltO a b=true↔a.Day<b.Day∨(a.Day=b.Day∧(a.Device<b.Device∨(a.Device=b.Device∧a.Seq<b.Seq))):=by
 unfold ltO;cases h1:a.Day==b.Day with
 |false=>
  have:a.Day≠b.Day:=by simpa using h1
  simp only[yar,yac,yad];omega
 |true=>
  have e1:a.Day=b.Day:=by simpa using h1
  cases h2:a.Device==b.Device with
  |false=>
   have:a.Device≠b.Device:=by simpa using h2
   simp only[yak,yar,yac,yaa,yad];omega
  |true=>
   have:a.Device=b.Device:=by simpa using h2
   simp only[yak,yaa,yad];omega
def e18 (a:Off):ltO a a=false:=by
 cases h:ltO a a with
 |false=>rfl
 |true=>rw[c0m]at h;omega
def c4b {a b c:Off} (h:ltO a b=true) (k:ltO b c=true):ltO a c=true:=by
 rw[c0m]at *;omega
def g2g {a b:Off} (h:ltO a b=false) (k:ltO b a=false):b6d a b=true:=by
 rw[Bool.eq_false_iff]at h k;unfold b6d;simp only[yae,ya6];rw[ne_eq,c0m]at h k;omega
structure OkN (x:Off):Prop where
 d0:0≤x.Day
 d1:x.Day≤109572
 v0:1≤x.Device
 v1:x.Device≤9
 s0:1≤x.Seq
 s1:x.Seq≤9999
def f2s {x:Off} (h:chk x=0):OkN x:=by
 unfold chk at h;cases h1:(((!wi x.Device 1 9||!wi x.Seq 1 9999)||!wi x.Day 0 109572)||!wi x.Item 1 9999)||!wi x.Branch 1 4 with
 |true=>rw[h1]at h;cases h
 |false=>
  simp only[yai,yay]at h1;obtain ⟨⟨⟨⟨a,b⟩,c⟩,-⟩,-⟩:=h1;unfold wi at a b c;simp only[yae,yad]at a b c;exact ⟨c.1,c.2,a.1,a.2,b.1,b.2⟩
def cmO (a b:Off):Int:=if wr .i64 (a.Day-b.Day)=0 then (if wr .i64 (a.Device-b.Device)=0 then wr .i64 (a.Seq-b.Seq) else wr .i64 (a.Device-b.Device)) else wr .i64 (a.Day-b.Day)
def h01 (a b:Off):qac a b=some (cmO a b):=by
 unfold qac cmO;generalize wr .i64 (a.Day-b.Day)=x;generalize wr .i64 (a.Device-b.Device)=y;generalize wr .i64 (a.Seq-b.Seq)=z;have step:∀(k:Nat) (v:Int),([x,y,z]:List Int)[k]?=some v→b4q ((([x,y,z]:List Int).length:Int),(k:Int),[x,y,z],())=if v=0 then some (.inl ((([x,y,z]:List Int).length:Int),((k+1:Nat):Int),[x,y,z],())) else some (.inr (.inr (v,()))):=λk v hv=>by
  have hk:=(zL hv)
  have h3:([x,y,z]:List Int).length=3:=rfl;simp only[b4q,dlt hk,d8,hv,yac,yaB,wS k];by_cases h:v=0
  ·rw[yaF h,show (v==0)=true by simpa using h];rfl
  ·rw[yap h,show (v==0)=false by simpa using h];rfl
 have hw:b9 b4q ((([x,y,z]:List Int).length:Int),0,[x,y,z],())=some (if x=0 then (if y=0 then (if z=0 then .inl () else .inr (z,())) else .inr (y,())) else .inr (x,())):=by
  refine o6 4 (by rw[n9];omega) ?_;have s0:b4q ((([x,y,z]:List Int).length:Int),0,[x,y,z],())=if x=0 then some (.inl ((([x,y,z]:List Int).length:Int),((0+1:Nat):Int),[x,y,z],())) else some (.inr (.inr (x,()))):=step 0 x rfl
  have s1:=step 1 y rfl;have s2:=step 2 z rfl;have s3:b4q ((([x,y,z]:List Int).length:Int),((2+1:Nat):Int),[x,y,z],())=some (.inr (.inl ())):=rfl;rw[o7,s0];by_cases hx:x=0
  ·rw[yaF hx,yaF hx];simp only;rw[o7,s1];by_cases hy:y=0
   ·rw[yaF hy,yaF hy];simp only;rw[o7,s2];by_cases hz:z=0
    ·rw[yaF hz,yaF hz];simp only;rw[o7,s3]
    ·rw[yap hz,yap hz]
   ·rw[yap hy,yap hy]
  ·rw[yap hx,yap hx]
 rw[hw];by_cases hx:x=0
 ·rw[yaF hx,yaF hx];by_cases hy:y=0
  ·rw[yaF hy,yaF hy];by_cases hz:z=0
   ·rw[yaF hz,hz]
   ·rw[yap hz]
  ·rw[yap hy,yap hy]
 ·rw[yap hx,yap hx]
def g86 {a b:Off} (ha:OkN a) (hb:OkN b):decide (cmO a b<0)=ltO a b:=by
 obtain ⟨a1,a2,a3,a4,a5,a6⟩:=ha;obtain ⟨b1,b2,b3,b4,b5,b6⟩:=hb;rw[ybj,yad,c0m];unfold cmO;rw[a0g (n:=a.Day-b.Day) (by omega) (by omega),a0g (n:=a.Device-b.Device) (by omega) (by omega),a0g (n:=a.Seq-b.Seq) (by omega) (by omega)];by_cases h1:a.Day-b.Day=0
 ·rw[yaF h1];by_cases h2:a.Device-b.Device=0
  ·rw[yaF h2];omega
  ·rw[yap h2];omega
 ·rw[yap h1];omega
def srt (l:List Off):Bool:=(List.range (l.length-1)).all λi=>match l[i+1]?,l[i]? with|some x,some y=>!decide (cmO x y<0)|_,_=>true
def e5s {l:List Off} (hl:l.length<1000000):qal (λ(g:Unit×Unit) x0 x1=>qac x0 x1) l ((),())=some (srt l):=by
 unfold qal;rcases Nat.eq_zero_or_pos l.length with h0|hpos
 ·have:l=[]:=ybo.1 h0;subst this;rfl
 ·have e:wr .i64 ((l.length:Int)-1)=((l.length-1:Nat):Int):=by rw[a0g (by omega) (by omega)];omega
  rw[e];have hlen:((List.range (l.length-1)).reverse).length=l.length-1:=by simp
  have h:=j9 (step:=c4j (λ(g:Unit×Unit) x0 x1=>qac x0 x1)) (λj=>(l,((),()),((l.length-1-j:Nat):Int),())) (List.range (l.length-1)).reverse
   (λ_ i=>match l[i+1]?,l[i]? with|some x,some y=>!decide (cmO x y<0)|_,_=>true) (.inr (false,())) (.inl ()) (by omega)
   (by rw[hlen,Nat.sub_self];rfl)
   (λj q hq=>by
    have hj:j<l.length-1:=by have:=(zL hq);omega
    have eq:q=l.length-1-1-j:=by
     rw[List.getElem?_reverse (by simpa using hj)]at hq;simp only[List.length_range]at hq;rw[List.getElem?_range (by omega)]at hq;exact (ybi hq).symm
    have e1:l.length-1-j=q+1:=by omega
    have h1:q+1<l.length:=by omega
    have h2:q<l.length:=by omega
    have p0:decide ((0:Int)<((q+1:Nat):Int))=true:=d9x;simp only[c4j,e1,p0,yac,d8,a30 (show q<1000000000 by omega),yab h1,yab h2,h01];rw[show l.length-1-(j+1)=q by omega];cases decide (cmO l[q+1] l[q]<0)<;>rfl)
  rw[show b9 (c4j (λ(g:Unit×Unit) x0 x1=>qac x0 x1)) (l,((),()),((l.length-1:Nat):Int),())=_ from h,o0,List.all_reverse];unfold srt;cases (List.range (l.length-1)).all λi=>match l[i+1]?,l[i]? with|some x,some y=>!decide (cmO x y<0)|_,_=>true<;>rfl
def asB (l:List Off):Bool:=(List.range (l.length-1)).all λi=>match l[i+1]?,l[i]? with|some x,some y=>ltO y x|_,_=>true
def d5u {l:List Off} (hl:l.length<1000000) (hpos:0<l.length):b9 a86 (l,1,())=some (bif asB l then .inl () else .inr (3,())):=by
 have hlen:(List.range (l.length-1)).length=l.length-1:=by simp
 have h:=j9 (step:=a86) (λj=>(l,((j+1:Nat):Int),())) (List.range (l.length-1)) (λ_ i=>match l[i+1]?,l[i]? with|some x,some y=>ltO y x|_,_=>true) (.inr (3,())) (.inl ()) (by omega)
  (by
   rw[hlen,show l.length-1+1=l.length by omega];simp only[a86,dge,yaa])
  (λj q hq=>by
   have hj:j<l.length-1:=by have:=(zL hq);omega
   have eq:q=j:=by
    rw[List.getElem?_range hj]at hq;exact (ybi hq).symm
   subst eq;have h1:q+1<l.length:=by omega
   have h2:q<l.length:=by omega
   simp only[a86,dlt h1,yac,d8,a30 (show q<1000000000 by omega),yab h1,yab h2,h2b];rw[w9 (show q+1<9223372036854775807 by omega)];cases ltO l[q] l[q+1]<;>rfl)
 rw[show b9 a86 (l,1,())=_ from h,o0];rfl
def c8g:b9 a86 ([],1,())=some (.inl ()):=o6 1 (by rw[n9];omega) rfl
def g0s {l:List Off} (h:c2o l=0):∀x∈l,OkN x:=by
 unfold c2o at h;rw[a6i]at h;intro x hx;obtain ⟨i,hi⟩:=yaw hx;exact f2s (h i x hi)
def g54 {l:List Off} (h:c2o l=0) (ho:b4e l=true):srt l=asB l:=by
 have hk:=g0s h;unfold srt asB;rw[ybj,yaj,yaj];have key:∀i∈List.range (l.length-1),(match l[i+1]?,l[i]? with|some x,some y=>!decide (cmO x y<0)|_,_=>true)=(match l[i+1]?,l[i]? with|some x,some y=>ltO y x|_,_=>true):=λi hi=>by
  rw[ybE]at hi;have h1:i+1<l.length:=by omega
  have h2:i<l.length:=by omega
  rw[yab h1,yab h2];simp only;rw[g86 (hk _ (ybB h1)) (hk _ (ybB h2))];cases hlt:ltO l[i+1] l[i]with
  |true=>
   cases hlt2:ltO l[i] l[i+1]with
   |false=>rfl
   |true=>have:=c4b hlt hlt2;rw[e18]at this;cases this
  |false=>
   cases hlt2:ltO l[i] l[i+1]with
   |true=>rfl
   |false=>
    have:=c4f ho (i+1) i _ _ (yab h1) (yab h2) (g2g hlt hlt2);omega
 constructor
 ·intro H i hi;rw[←key i hi];exact H i hi
 ·intro H i hi;rw[key i hi];exact H i hi
def rtO (l:List Off):Int:=bif decide (128<(l.length:Int)) then 13 else if c2o l==0 then (bif b4e l then (bif asB l then 0 else 3) else 7) else c2o l
def h2q {l:List Off} (hl:l.length<1000000):qj l=some (rtO l):=by
 unfold qj rtO;cases decide (128<(l.length:Int)) with
 |true=>rfl
 |false=>
  simp only[yaa];rw[f0o (by omega)];by_cases h:c2o l=0
  ·rw[h];simp only[yal,ybD];rw[e27 hl];cases ho:b4e l with
   |false=>rfl
   |true=>
    simp only[yac];rw[e5s hl];simp only;rw[g54 h ho];cases asB l<;>rfl
  ·rw[show (c2o l==0)=false by simpa using h];rfl
def h1x {l:List Off} (hl:l.length<1000000):qe3 l=some (rtO l):=by
 unfold qe3 rtO;cases decide (128<(l.length:Int)) with
 |true=>rfl
 |false=>
  simp only[yaa];rw[e2w (by omega)];by_cases h:c2o l=0
  ·rw[h];simp only[yal,ybD];rw[d5s hl];cases ho:b4e l with
   |false=>rfl
   |true=>
    simp only[yac];rcases Nat.eq_zero_or_pos l.length with h0|hpos
    ·have:l=[]:=ybo.1 h0;subst this;rw[c8g];rfl
    ·rw[d5u hl hpos];cases asB l<;>rfl
  ·rw[show (c2o l==0)=false by simpa using h];rfl
structure RtO (l:List Off):Prop where
 len:l.length≤128
 ok:∀x∈l,chk x=0
 one:∀x∈l,∀y∈l,b6d x y=true→x=y
 asc:l.Pairwise (λa b=>ltO a b=true)
def g8m:∀{l:List Off},asB l=true→l.Pairwise (λa b=>ltO a b=true):=by
 intro l h;unfold asB at h;rw[yaj]at h;have key:∀k i,i+k+1<l.length→∀x y,l[i]?=some x→l[i+k+1]?=some y→ltO x y=true:=by
  intro k
  induction k with
  |zero=>
   intro i hi x y hx hy;have:=h i (by rw[ybE];omega);rw[ya9]at hy;rw[hx,hy]at this;exact this
  |succ k ih=>
   intro i hi x y hx hy;have h1:i+k+1<l.length:=by omega
   have a:=ih i (by omega) x l[i+k+1] hx (yab h1);have b:=h (i+k+1) (by rw[ybE];omega);rw[show i+(k+1)+1=i+k+1+1 by omega]at hy;rw[hy,yab h1]at b;exact c4b a b
 rw[ya3];intro i j hi hj hij;exact key (j-i-1) i (by omega) _ _ (yab hi) (by rw[show i+(j-i-1)+1=j by omega];exact yab hj)
def h0w {l:List Off} (h:l.Pairwise (λa b=>ltO a b=true)):asB l=true:=by
 unfold asB;rw[yaj];intro i hi;rw[ybE]at hi;have h1:i+1<l.length:=by omega
 have h2:i<l.length:=by omega
 rw[yab h1,yab h2];rw[ya3]at h;exact h i (i+1) h2 h1 (by omega)
def b5f {l:List Off}:rtO l=0↔RtO l:=by
 unfold rtO;constructor
 ·intro h;cases h0:decide (128<(l.length:Int)) with
  |true=>rw[h0]at h;cases h
  |false=>
   rw[h0,yaa]at h;rw[yaf]at h0;by_cases he:c2o l=0
   ·rw[he]at h;simp only[yal,ybD]at h;cases ho:b4e l with
    |false=>rw[ho]at h;cases h
    |true=>
     rw[ho,yac]at h;cases ha:asB l with
     |false=>rw[ha]at h;cases h
     |true=>
      refine ⟨by omega,λx hx=>?_,λx hx y hy hk=>?_,g8m ha⟩
      ·unfold c2o at he;rw[a6i]at he;obtain ⟨i,hi⟩:=yaw hx;exact he i x hi
      ·obtain ⟨i,hi⟩:=yaw hx;obtain ⟨j,hj⟩:=yaw hy;have:=c4f ho i j x y hi hj hk;subst this;rw[hi]at hj;exact ybi hj
   ·rw[yap (by simpa using he)]at h;exact absurd h he
 ·intro R;have h0:decide (128<(l.length:Int))=false:=by rw[yaf];have:=R.len;omega
  have he:c2o l=0:=by
   unfold c2o;rw[a6i];intro i x hx;exact R.ok x (yag hx)
  have ho:b4e l=true:=by
   unfold b4e;rw[a39];intro i x hx;simp only[yan,ybL];intro y hy hk;rw[yaI]at hy;have e:=R.one x (yag hx) y (List.mem_of_mem_take hy) hk;subst e;obtain ⟨j,hj⟩:=yaw hy;have hji:j<i:=by have:=(zL hj);rw[yaD]at this;omega
   rw[yaH,yaF hji]at hj;have hp:=R.asc;rw[ya3]at hp;obtain ⟨h1,e1⟩:=yaA.1 hj;obtain ⟨h2,e2⟩:=yaA.1 hx;have:=hp j i h1 h2 hji;rw[e1,e2,e18]at this;cases this
  rw[h0,he,ho,h0w R.asc];rfl
end
section
open Go (IntKind)
structure SmO (c:Circ):Prop where
 moves:c.Moves.length≤200
 items:c.Items.length≤100
 patrons:c.Patrons.length≤100
 loans:c.Loans.length≤100
 holds:c.Holds.length≤100
 charges:c.Charges.length≤200
 rules:c.Rules.length≤100
 cal0:c.Cals.x0.Closed.length≤100
 cal1:c.Cals.x1.Closed.length≤100
 cal2:c.Cals.x2.Closed.length≤100
 cal3:c.Cals.x3.Closed.length≤100
structure Txt (c:Circ):Prop where
 call:∀x∈c.Items,x.Call.length≤1048576
 name:∀x∈c.Patrons,x.Name.length≤1048576
def g51 (c:Circ):∃b,qb c=some b∧(b=true→SmO c):=by
 unfold qb;simp -zeta only[a0s,p9];dsimp only;cases hb:(decide (200<(c.Moves.length:Int))||decide (100<(c.Items.length:Int))||decide (100<(c.Patrons.length:Int))||decide (100<(c.Loans.length:Int))||decide (100<(c.Holds.length:Int))||decide (200<(c.Charges.length:Int))||decide (100<(c.Rules.length:Int))) with
 |true=>exact ⟨false,rfl,λh=>by cases h⟩
 |false=>
  simp only[yai,yaf]at hb;have h3:b9 c4k (0,c,())=some (bif (!(decide (100<(c.Cals.x0.Closed.length:Int)))&&(!(decide (100<(c.Cals.x1.Closed.length:Int)))&&(!(decide (100<(c.Cals.x2.Closed.length:Int)))&&!(decide (100<(c.Cals.x3.Closed.length:Int)))))) then .inl () else .inr (false,())):=by
   have s0:c4k (0,c,())=bif decide (100<(c.Cals.x0.Closed.length:Int)) then some (.inr (.inr (false,()))) else some (.inl (1,c,())):=rfl;have s1:c4k (1,c,())=bif decide (100<(c.Cals.x1.Closed.length:Int)) then some (.inr (.inr (false,()))) else some (.inl (2,c,())):=rfl;have s2:c4k (2,c,())=bif decide (100<(c.Cals.x2.Closed.length:Int)) then some (.inr (.inr (false,()))) else some (.inl (3,c,())):=rfl;have s3:c4k (3,c,())=bif decide (100<(c.Cals.x3.Closed.length:Int)) then some (.inr (.inr (false,()))) else some (.inl (4,c,())):=rfl;have s4:c4k (4,c,())=some (.inr (.inl ())):=rfl;refine o6 5 (by rw[n9];omega) ?_;simp only[o7,s0];cases decide (100<(c.Cals.x0.Closed.length:Int)) with
   |true=>rfl
   |false=>
    simp only[yaa,o7,s1];cases decide (100<(c.Cals.x1.Closed.length:Int)) with
    |true=>rfl
    |false=>
     simp only[yaa,o7,s2];cases decide (100<(c.Cals.x2.Closed.length:Int)) with
     |true=>rfl
     |false=>
      simp only[yaa,o7,s3];cases decide (100<(c.Cals.x3.Closed.length:Int)) with
      |true=>rfl
      |false=>simp only[yaa,o7,s4];rfl
  rw[yaa,h3];cases hc:(!(decide (100<(c.Cals.x0.Closed.length:Int)))&&(!(decide (100<(c.Cals.x1.Closed.length:Int)))&&(!(decide (100<(c.Cals.x2.Closed.length:Int)))&&!(decide (100<(c.Cals.x3.Closed.length:Int)))))) with
  |false=>exact ⟨false,rfl,λh=>by cases h⟩
  |true=>
   simp only[yae,yan,yaf]at hc;exact ⟨true,rfl,λ_=>⟨by omega,by omega,by omega,by omega,by omega,by omega,by omega,by omega,by omega,by omega,by omega⟩⟩
def SmO.short {c:Circ} (h:SmO c) (t:Txt c):Short c:=by
 obtain ⟨h1,h2,h3,h4,h5,h6,h7,h8,h9,h10,h11⟩:=h;exact ⟨by omega,by omega,by omega,by omega,by omega,by omega,by omega,λx hx=>by have:=t.call x hx;omega,λx hx=>by have:=t.name x hx;omega,by omega,by omega,by omega,by omega⟩
def f6e {c:Circ} (hs:Short c) (h:a4u c=true):Inv c:=by
 have v:=h30 h;refine ⟨v,hs,?_⟩;have hp:=v.patrons;unfold a05 at hp;cases hd:decide (32<(c.Patrons.length:Int)) with
 |true=>rw[hd]at hp;cases hp
 |false=>rw[yaf]at hd;omega
def a99 {c:Circ} (I:Inv c) {n:Int} (h:0≤n∧n≤109572):Inv (a6u c n):=by
 obtain ⟨v,⟨a1,a2,a3,a4,a5,a6,a7,a8,a9,a10,a11,a12,a13⟩,p⟩:=I;exact ⟨v.setToday h,⟨a1,a2,a3,a4,a5,a6,a7,a8,a9,a10,a11,a12,a13⟩,p⟩
def b9l {γ:Type} {q:γ→Loan→Option Bool} {p:Loan→Bool} {g:γ} (hq:∀x,q g x=some (p x)) {l:List Loan} (hl:l.length<1000000000) :
 qd3 q l g=some (l.any p):=by
 have h:=w7 (step:=b1v q) (λi=>(l,g,(l.length:Int),(i:Int),())) l p (λi _=>.inr ((i:Int),())) (.inl ()) hl
  (by simp only[b1v,dge,yaa])
  (λi x hx=>by
   have hi:=(zL hx)
   simp only[b1v,dlt hi,d8,hx,yac,hq,wS i])
 unfold qd3 qe;rw[show b9 (b1v q) (l,g,(l.length:Int),0,())=_ from h,←b62 l 0];cases a2u (β:=Unit⊕(Int×Unit)) p (λi _=>.inr ((i:Int),())) (.inl ()) 0 l<;>rfl
def h0p {c:Circ} (hl:c.Loans.length<1000000000) (item:Int):qft c item=some (c.Loans.any λn=>n.Item==item):=by
 have h:=w7 (step:=c45) (λi=>(item,(i:Int),c,())) c.Loans (λn=>n.Item==item) (λi _=>.inr (true,())) (.inl ()) hl
  (by simp only[c45,dge,yaa])
  (λi x hx=>by
   have hi:=(zL hx)
   simp only[c45,dlt hi,d8,hx,yac,wS i])
 have k:∀(l:List Loan) (i:Nat),a2u (β:=Unit⊕(Bool×Unit)) (λn:Loan=>n.Item==item) (λi _=>.inr (true,())) (.inl ()) i l=bif l.any (λn=>n.Item==item) then .inr (true,()) else .inl ():=by
  intro l
  induction l with
  |nil=>intro i;rfl
  |cons x l ih=>
   intro i;simp only[a2u,ycb];cases x.Item==item with
   |true=>rfl
   |false=>simp only[yaa,ybg];exact ih _
 unfold qft;rw[show b9 c45 (item,0,c,())=_ from h,k];cases c.Loans.any λn=>n.Item==item<;>rfl
def a84 {c:Circ} (I:Inv c) {x:Off} (hk:x.Kind=1∨x.Kind=2∨x.Kind=3) :
 ∃d1 d2 e,qaq c x=some (d1,e)∧qek c x=some (d2,e)∧(e=0→d1=d2∧Inv d1∧Stp c d1):=by
 have hln:=I.mid.short.loans;have h3:=(b1e.1 I.val.loans).1;have hc:qd3 (λ(g:Unit×(Off×Unit)) x0=>qbv x0 g.2.1) c.Loans ((),(x,()))=some (c.Loans.any λn=>n.Item==x.Item):=b9l (λn=>rfl) hln;unfold qaq qek;rw[hc,h0p hln];rcases hk with h|h|h
 ·rw[h];have lend:∀{c:Circ} (I:Inv c),∃d n e,qbe c x.Item x.Patron x.Branch=some (d,n,e)∧qfz c x.Item x.Patron x.Branch=some (d,n,e)∧(e=0→Inv d∧Stp c d):=λ{c} I=>by
   obtain ⟨d,n,e,a1,a2,-⟩:=d4v (item:=x.Item) (patron:=x.Patron) (branch:=x.Branch) I.w I.fit;exact ⟨d,n,e,a1,a2,λhe=>by subst he;have r:=e8w I a2;exact ⟨I.of r.val r.stp,r.stp⟩⟩
  cases hl:c.Loans.any λn=>n.Item==x.Item with
  |false=>
   obtain ⟨d,n,e,b1,b2,b3⟩:=lend I;refine ⟨d,d,e,?_,?_,λhe=>⟨rfl,b3 he⟩⟩
   ·show (match qbe c x.Item x.Patron x.Branch with|some (r10,r11,r12)=>some (r10,r12)|none=>none)=_
    rw[b1]
   ·show (match qfz c x.Item x.Patron x.Branch with|some (r17,r18,r19)=>some (r17,r19)|none=>none)=_
    rw[b2]
  |true=>
   obtain ⟨d,n,e,a1,a2,-⟩:=b6p (item:=x.Item) (branch:=x.Branch) I.mid I.fit (by omega);by_cases he:e=0
   ·subst he;have r:=c97 I a2;have I2:=I.of r.val r.stp;obtain ⟨d2,n2,e2,b1,b2,b3⟩:=lend I2;refine ⟨d2,d2,e2,?_,?_,λhe=>⟨rfl,(b3 he).1,r.stp.trans (b3 he).2⟩⟩
    ·show (match qdl c x.Item x.Branch with|some (r4,r5,r6)=>_|none=>none)=_
     rw[a1];show (match qbe d x.Item x.Patron x.Branch with|some (r10,r11,r12)=>some (r10,r12)|none=>none)=_
     rw[b1]
    ·show (match qf0 c x.Item x.Branch with|some (r4,r5,r6)=>_|none=>none)=_
     rw[a2];show (match qfz d x.Item x.Patron x.Branch with|some (r17,r18,r19)=>some (r17,r19)|none=>none)=_
     rw[b2]
   ·have hb:(e==0)=false:=by simpa using he
    refine ⟨d,y6,e,?_,?_,λh=>absurd h he⟩
    ·show (match qdl c x.Item x.Branch with|some (r4,r5,r6)=>_|none=>none)=_
     rw[a1];simp only[hb];rfl
    ·show (match qf0 c x.Item x.Branch with|some (r4,r5,r6)=>_|none=>none)=_
     rw[a2];simp only[hb];rfl
 ·rw[h];obtain ⟨d,n,e,a1,a2,-⟩:=b6p (item:=x.Item) (branch:=x.Branch) I.mid I.fit (by omega);refine ⟨d,d,e,?_,?_,λhe=>⟨rfl,by subst he;have r:=c97 I a2;exact ⟨I.of r.val r.stp,r.stp⟩⟩⟩
  ·show (match qdl c x.Item x.Branch with|some (r4,r5,r6)=>_|none=>none)=_
   rw[a1];by_cases he:e=0
   ·subst he;rfl
   ·have hb:(e==0)=false:=by simpa using he
    simp only[hb];rfl
  ·show (match qf0 c x.Item x.Branch with|some (r4,r5,r6)=>_|none=>none)=_
   rw[a2]
 ·rw[h];obtain ⟨d,n,e,a1,a2,-⟩:=c89 (item:=x.Item) I.short I.fit;refine ⟨d,d,e,?_,?_,λhe=>⟨rfl,by subst he;have r:=e3n I.val I.mid a2;exact ⟨I.of r.val r.stp,r.stp⟩⟩⟩
  ·show (match qbd c x.Item with|some (r4,r5,r6)=>some (r4,r6)|none=>none)=_
   rw[a1]
  ·show (match qe7 c x.Item with|some (r4,r5,r6)=>some (r4,r6)|none=>none)=_
   rw[a2]
def a8n (today:Int) (c:Circ) (x:Off):Circ×Int:=
 bif decide (x.Day≤today) then (match qaq (a6u c x.Day) x with
  |some (d,e)=>bif e==0 then (a6u d today,e) else (c,e)
  |none=>(c,12)) else (c,12)
def c9l (today:Int) (s:Circ×List Outcome) (x:Off):Circ×List Outcome:=((a8n today s.1 x).1,s.2++[⟨x.Device,x.Seq,(a8n today s.1 x).2⟩])
def a1k (today:Int) (c:Circ) (l:List Off) (o:List Outcome):Circ×List Outcome:=l.foldl (c9l today) (c,o)
structure OnDay (today:Int) (c:Circ):Prop where
 inv:Inv c
 today:c.Today=today
def OnDay.rng {t:Int} {c:Circ} (h:OnDay t c):0≤t∧t≤109572:=by
 have:=(b0u h.inv.val.nums).1;rw[h.today]at this;exact this
def c7q {x:Off} (h:chk x=0):(x.Kind=1∨x.Kind=2∨x.Kind=3)∧0≤x.Day∧x.Day≤109572:=by
 have h0:=f2s h;refine ⟨?_,h0.d0,h0.d1⟩;unfold chk at h;cases h1:(((!wi x.Device 1 9||!wi x.Seq 1 9999)||!wi x.Day 0 109572)||!wi x.Item 1 9999)||!wi x.Branch 1 4 with
 |true=>rw[h1]at h;cases h
 |false=>
  rw[h1,yaa]at h;cases h2:!wi x.Kind 1 3 with
  |true=>rw[h2]at h;cases h
  |false=>
   unfold wi at h2;simp only[yay,yae,yad]at h2;omega
def b8y {c:Circ} {n:Int}:Stp c (a6u c n):=⟨rfl,rfl,rfl,[],by simp[a6u]⟩
def c0q {t:Int} {c:Circ} (h:OnDay t c) {x:Off} (hx:chk x=0):OnDay t (a8n t c x).1∧Stp c (a8n t c x).1:=by
 obtain ⟨hk,h0,h1⟩:=c7q hx;unfold a8n;cases decide (x.Day≤t) with
 |false=>exact ⟨h,.refl c⟩
 |true=>
  obtain ⟨d1,d2,e,p1,p2,p3⟩:=a84 (a99 h.inv ⟨h0,h1⟩) hk;rw[yac,p1];dsimp only;by_cases he:e=0
  ·subst he;obtain ⟨-,I,st⟩:=p3 rfl;exact ⟨⟨a99 I h.rng,rfl⟩,(b8y.trans st).trans b8y⟩
  ·rw[show (e==0)=false by simpa using he];exact ⟨h,.refl c⟩
def c0t {t:Int}:∀{l:List Off} {c:Circ} {o:List Outcome},OnDay t c→(∀x∈l,chk x=0)→OnDay t (a1k t c l o).1∧Stp c (a1k t c l o).1∧(a1k t c l o).2.length=o.length+l.length:=by
 intro l
 induction l with
 |nil=>intro c o h _;exact ⟨h,.refl c,rfl⟩
 |cons x l ih=>
  intro c o h hx;have a:=c0q h (hx x (yaK ..));obtain ⟨b1,b2,b3⟩:=ih (o:=o++[⟨x.Device,x.Seq,(a8n t c x).2⟩]) a.1 (λy hy=>hx y (yaN _ hy));refine ⟨b1,a.2.trans b2,?_⟩;show (a1k t (a8n t c x).1 l (o++[⟨x.Device,x.Seq,(a8n t c x).2⟩])).2.length=_
  rw[b3];simp;omega
def f0l {t:Int}:∀{l:List Off} {c:Circ} {o:List Outcome},a1k t c l o=((a1k t c l []).1,o++(a1k t c l []).2):=by
 intro l
 induction l with
 |nil=>intro c o;simp[a1k]
 |cons x l ih=>
  intro c o;show a1k t (a8n t c x).1 l (o++[⟨x.Device,x.Seq,(a8n t c x).2⟩])=((a1k t (a8n t c x).1 l [⟨x.Device,x.Seq,(a8n t c x).2⟩]).1,o++(a1k t (a8n t c x).1 l [⟨x.Device,x.Seq,(a8n t c x).2⟩]).2)
  rw[ih,ih (o:=[_])];simp
def d5c {t:Int} {c:Circ} (h:OnDay t c) {l:List Off} (hl:l.length<1000000) (ho:∀x∈l,chk x=0) (v:Circ) :
 b9 c74 (t,l,(l.length:Int),0,c,v,[],())=some ((a1k t c l []).1,v,(a1k t c l []).2,()):=by
 have hw:=t6 (step:=c74) (λi (s:Circ×List Outcome)=>OnDay t s.1∧s.2.length=i) (λi s=>(t,l,(l.length:Int),(i:Int),s.1,v,s.2,())) l (λ_ x s=>.inl (c9l t s x)) (λs=>(s.1,v,s.2,())) (by rw[n9];omega)
  (λs _=>by simp only[c74,dge,yaa])
  (λi x s hx hs=>by
   have hi:=(zL hx)
   have hc:=ho x (yag hx);obtain ⟨hk,h0,h1⟩:=c7q hc;have l1:∀e:Int,decide (s.2.length+([(⟨x.Device,x.Seq,e⟩:Outcome)]:List Outcome).length≤LIM)=true:=λe=>a1u (by simp;omega)
   refine ⟨?_,λs' hs'=>by cases hs';exact ⟨(c0q hs.1 hc).1,by simp[c9l,hs.2]⟩⟩;unfold c9l a8n;cases hd:decide (x.Day≤t) with
   |false=>simp only[c74,dlt hi,d8,hx,yac,hd,yaa,l1,wS i]
   |true=>
    obtain ⟨d1,d2,e,p1,p2,p3⟩:=a84 (a99 hs.1.inv ⟨h0,h1⟩) hk;have p1':qaq (⟨x.Day,s.1.Items,s.1.Patrons,s.1.Loans,s.1.Holds,s.1.Charges,s.1.Rules,s.1.Cals,s.1.Moves,s.1.NextHold,s.1.NextCharge,s.1.Local⟩:Circ) x=some (d1,e):=p1;simp only[c74,dlt hi,d8,hx,yac,hd,p1,p1',l1,wS i];cases e==0<;>rfl) (c,[]) ⟨h,rfl⟩
 rw[a0f]at hw;exact hw
def h2s {t:Int} {c:Circ} (h:OnDay t c) {l:List Off} (hl:l.length<1000000) (ho:∀x∈l,chk x=0) (v:Circ) :
 b9 b8d (l,t,0,c,v,[],())=some ((a1k t c l []).1,v,(a1k t c l []).2,()):=by
 have hw:=t6 (step:=b8d) (λi (s:Circ×List Outcome)=>OnDay t s.1∧s.2.length=i) (λi s=>(l,t,(i:Int),s.1,v,s.2,())) l (λ_ x s=>.inl (c9l t s x)) (λs=>(s.1,v,s.2,())) (by rw[n9];omega)
  (λs _=>by simp only[b8d,dge,yaa])
  (λi x s hx hs=>by
   have hi:=(zL hx)
   have hc:=ho x (yag hx);obtain ⟨hk,h0,h1⟩:=c7q hc;have l1:∀e:Int,decide (s.2.length+([(⟨x.Device,x.Seq,e⟩:Outcome)]:List Outcome).length≤LIM)=true:=λe=>a1u (by simp;omega)
   refine ⟨?_,λs' hs'=>by cases hs';exact ⟨(c0q hs.1 hc).1,by simp[c9l,hs.2]⟩⟩;unfold c9l a8n;cases hd:decide (x.Day≤t) with
   |false=>simp only[b8d,dlt hi,d8,hx,yac,hd,yaa,l1,wS i]
   |true=>
    obtain ⟨d1,d2,e,p1,p2,p3⟩:=a84 (a99 hs.1.inv ⟨h0,h1⟩) hk;have p2':qek (⟨x.Day,s.1.Items,s.1.Patrons,s.1.Loans,s.1.Holds,s.1.Charges,s.1.Rules,s.1.Cals,s.1.Moves,s.1.NextHold,s.1.NextCharge,s.1.Local⟩:Circ) x=some (d2,e):=p2;simp only[b8d,dlt hi,d8,hx,yac,hd,qgl,p1,p2',l1,wS i];by_cases he:e=0
    ·subst he;obtain ⟨rfl,-⟩:=p3 rfl;rfl
    ·rw[show (e==0)=false by simpa using he];rfl) (c,[]) ⟨h,rfl⟩
 rw[a0f]at hw;exact hw
def b4n {c:Circ} (hs:Short c) {l:List Off} (hl:l.length<1000000) :
 ∃d o,q9 c l=some (d,o)∧qfu c l=some (d,o)∧Short d∧o.length≤l.length∧
  (a4u c=true→rtO l=0→d=(a1k c.Today c l []).1∧o=(a1k c.Today c l []).2):=by
 unfold q9 qfu;rw[e2u hs,h1y hs,h2q hl,h1x hl];cases hr:a4u c with
 |false=>exact ⟨c,[],rfl,rfl,hs,by simp,λh=>by cases h⟩
 |true=>
  by_cases he:rtO l=0
  ·have O:OnDay c.Today c:=⟨f6e hs hr,rfl⟩
   have ho:=(b5f.1 he).ok;have r:=c0t (o:=[]) O ho;refine ⟨_,_,?_,?_,r.1.inv.short,by rw[r.2.2];simp,λ_ _=>⟨rfl,rfl⟩⟩
   ·simp only[he,yak,yaa,yal,d5c O hl ho]
   ·simp only[he,yak,yaa,yal,h2s O hl ho]
  ·refine ⟨c,[],?_,?_,hs,by simp,λ_ h=>absurd h he⟩
   ·simp only[yak,yaa,show (rtO l==0)=false by simpa using he,yar,yac]
   ·simp only[yak,yaa,show (rtO l==0)=false by simpa using he,yar,yac]
def g3h (o:List Outcome) (hl:o.length<1000000):qap o o=some true:=by
 have hw:=j9 (step:=b7u) (λi=>(o,o,(i:Int),())) o (λ_ _=>true) (.inr (false,())) (.inl ()) (by omega)
  (by simp only[b7u,dge,yaa])
  (λi x hx=>by
   have hi:=(zL hx)
   simp only[b7u,dlt hi,d8,hx,yac,show a8x x x=true by simp[a8x],yak,yaa,wS i])
 unfold qap;rw[show ((o.length:Int)==(o.length:Int))=true by simp,show b9 b7u (o,o,0,())=_ from hw,o0,a2h];rfl
end
section
open Go (IntKind)
def e3u {l m:List Off} (h:rtO l=0) (hs:m.Sublist l):rtO m=0:=by
 have r:=b5f.1 h;exact b5f.2 ⟨ybt hs.length_le r.len,λx hx=>r.ok x (hs.subset hx),λx hx y hy=>r.one x (hs.subset hx) y (hs.subset hy),r.asc.sublist hs⟩
def g0k {l:List Off} {vat:Int} {o:List Outcome} {c d:Circ} {m:List Move} (h:d.Moves=c.Moves++m) (hl:c.Moves.length<1000000000) :
 b9 b4s (l,vat,o,(c.Moves.length:Int),0,c,d,())=some (.inl (l,vat,o,c,d,())):=by
 have hw:=j9 (step:=b4s) (λk=>(l,vat,o,(c.Moves.length:Int),(k:Int),c,d,())) c.Moves (λ_ _=>true) (.inr (false,())) (.inl (l,vat,o,c,d,())) hl
  (by simp only[b4s,dge,yaa])
  (λk x hx=>by
   have hk:=(zL hx)
   have hd:d.Moves[k]?=some x:=by rw[h,yat hk];exact hx
   simp only[b4s,dlt hk,d8,hx,hd,yac,a9n,yak,yaa,wS k])
 rw[show b9 b4s (l,vat,o,(c.Moves.length:Int),0,c,d,())=_ from hw,o0,a2h];rfl
def d5l {t:Int} {c:Circ} {a b:List Off}:a1k t c (a++b) []=((a1k t (a1k t c a []).1 b []).1,(a1k t c a []).2++(a1k t (a1k t c a []).1 b []).2):=by
 have:a1k t c (a++b) []=a1k t (a1k t c a []).1 b (a1k t c a []).2:=by
  unfold a1k;rw[List.foldl_append]
 rw[this,f0l]
def a7v (c:Circ) (l:List Off) (vat:Int) (ht:Txt c) (hv:0≤vat∧vat≤255):qah c l vat=some true:=by
 unfold qah;obtain ⟨b,e,hb⟩:=g51 c;rw[e];cases b with
 |false=>rfl
 |true=>
  cases h20:decide (20<(l.length:Int)) with
  |true=>rfl
  |false=>
   rw[yaf]at h20;have hs:=(hb rfl).short ht;rw[e2u hs];cases hr:a4u c with
   |false=>rfl
   |true=>
    rw[h2q (by omega)];by_cases he:rtO l=0
    ·obtain ⟨d,o,h1,-,h3,h4,h5⟩:=b4n hs (l:=l) (by omega);obtain ⟨rfl,rfl⟩:=h5 hr he;have O:OnDay c.Today c:=⟨f6e hs hr,rfl⟩
     have r:=c0t (o:=[]) O (b5f.1 he).ok;obtain ⟨m,hm⟩:=r.2.1.moves;have hR:=b5v r.1.inv.val;have hlen:decide (((a1k c.Today c l []).1.Moves.length:Int)<(c.Moves.length:Int))=false:=by
      rw[yaf,hm,yaP];omega
     have htd:((a1k c.Today c l []).1.Today==c.Today)=true:=by rw[r.1.today];simp
     have hol:(((a1k c.Today c l []).2.length:Int)==(l.length:Int))=true:=by rw[r.2.2];simp
     obtain ⟨k,hk,hkl⟩:∃k:Nat,(wr .i64 vat).tmod (wr .i64 ((l.length:Int)+1))=(k:Int)∧k≤l.length:=by
      rw[a0g (n:=vat) (by omega) (by omega),w9 (show l.length<9223372036854775807 by omega)];obtain ⟨v,rfl⟩:∃v:Nat,vat=(v:Int):=⟨vat.toNat,by omega⟩
      refine ⟨v % (l.length+1),(Int.ofNat_tmod v (l.length+1)).symm,?_⟩;have:=Nat.mod_lt v (show 0<l.length+1 by omega);omega
     have e0:(wr .i64 ((l.length:Int)+1)==0)=false:=by
      rw[w9 (show l.length<9223372036854775807 by omega),yaY];omega
     have ta:=ya2 k l;have r1:rtO (l.take k)=0:=e3u he (List.take_sublist ..);have r2:rtO (l.drop k)=0:=e3u he (List.drop_sublist ..);obtain ⟨x,p,p1,-,p3,p4,p5⟩:=b4n hs (l:=l.take k) (by rw[yaD];omega);obtain ⟨rfl,rfl⟩:=p5 hr r1;have O2:=c0t (o:=[]) O (b5f.1 r1).ok;obtain ⟨y,q,q1,-,q3,q4,q5⟩:=b4n p3 (l:=l.drop k) (by rw[yaV];omega);obtain ⟨rfl,rfl⟩:=q5 (b5v O2.1.inv.val) r2;rw[O2.1.today]at q1 q3 q4;have hsp:=d5l (t:=c.Today) (c:=c) (a:=l.take k) (b:=l.drop k);rw[ta]at hsp;have s1:decide ((0:Int)≤(0:Int))=true:=rfl;have s2:decide ((0:Int)≤(k:Int))=true:=by rw[yad];omega
     have s3:decide ((k:Int)≤(l.length:Int))=true:=by rw[yad];omega
     have s4:decide ((l.length:Int)≤(l.length:Int))=true:=by rw[yad];omega
     have t1:(l.take ((k:Int)).toNat).drop (0:Int).toNat=l.take k:=by simp
     have t2:(l.take ((l.length:Int)).toNat).drop ((k:Int)).toNat=l.drop k:=by simp
     have lp:(a1k c.Today c (l.take k) []).2.length≤20:=by rw[yaD]at p4;omega
     have lq:(a1k c.Today (a1k c.Today c (l.take k) []).1 (l.drop k) []).2.length≤20:=by rw[yaV]at q4;omega
     have l1:decide (([]:List Outcome).length+(a1k c.Today c (l.take k) []).2.length≤LIM)=true:=a1u (by simp;omega);have l2:decide ((a1k c.Today c (l.take k) []).2.length+(a1k c.Today (a1k c.Today c (l.take k) []).1 (l.drop k) []).2.length≤LIM)=true:=a1u (by omega);have hsame:=g23 q3;have hso:=g3h ((a1k c.Today c (l.take k) []).2++(a1k c.Today (a1k c.Today c (l.take k) []).1 (l.drop k) []).2) (by simp;omega);simp only[yak,yar,yaa,yac,he,yal,h1,e2u r.1.inv.short,hR,htd,hlen,hol,g0k hm hs.moves,hk,e0,s1,s2,s3,s4,ybl,t1,t2,p1,q1];rw[hsp];simp only[hsame,yac,l1,l2,yaU,hso];rfl
    ·simp only[yak,yaa,show (rtO l==0)=false by simpa using he,yar,yac];rfl
end
end Go.Proofs.YtnajckeiaobmkabGreatDoor
