/- CircKeeps: a part of the proof of the given statement, which is proved without conditions. -/
import Derived.Test.YtcebdbdfgkahkaaGreatDoorK5
set_option linter.all false
namespace Go.Proofs.YtcebdbdfgkahkaaGreatDoor
open Ev
open Go (IntKind)
section
theorem c6y {X σ:Type} {f:Nat→X→σ→σ} (Inv:σ→Prop):∀{l:List X} {i:Nat} {s:σ},(∀i x s,x∈l→Inv s→Inv (f i x s))→Inv s→∃t,Inv t∧∀{β:Type} (g:σ→β),a2t (fun i x s=>.inl (f i x s)) g i l s=g t:=by
 intro l
 induction l with
 |nil=>intro i s _ hs;exact ⟨s,hs,fun g=>rfl⟩
 |cons x l ih=>
  intro i s h hs;obtain ⟨t,h1,h2⟩:=ih (i:=i+1) (s:=f i x s) (fun i y s hy=>h i y s (yaC _ hy)) (h i x s (yaA ..) hs);exact ⟨t,h1,fun g=>h2 g⟩
theorem e2p {c:Circ} (h:FitP c) {x:Item} (hx:x∈c.Items):1≤x.ID∧x.ID≤9999:=by
 have h:=h.items;unfold a04 at h;simp only[yae]at h;obtain ⟨i,hi⟩:=yav hx;have:=(a44.1 h.2.1) i x hi;rw[yaF]at this;simp only[yao,yai,yau]at this;have h2:=this.1;unfold y6 at h2;simp only[yae,w8]at h2;omega
def a86:Loan:=⟨0,0,0,0,0,false⟩
def a4q:Item:=⟨0,0,0,0,0,[],⟨0,0,0,0⟩⟩
abbrev RS:=Bool×Loan×Item
def c32 (h:Hold) (x:Item):Bool:=h.Record==x.Record&&(h.Item==0||h.Item==x.ID)
theorem f8z (h:Hold) (x:Item):qch h x=some (c32 h x):=by
 unfold qch c32;simp -zeta only[z6,o9]
 try rfl
def e9n (c:Circ) (h:Hold) (x:Item) (s:RS):RS:=
 bif x.Custody.State==4&&c32 h x&&((a0g c.Loans x.ID).2&&!(a0g c.Loans x.ID).1.Recalled&&(!s.1||decide ((a0g c.Loans x.ID).1.Due<s.2.1.Due))) then (true,(a0g c.Loans x.ID).1,x) else s
def b55 (c:Circ) (s:RS):Prop:=(s.1=false∧s.2.1=a86)∨(s.1=true∧s.2.1∈c.Loans∧s.2.2∈c.Items∧s.2.2.ID=s.2.1.Item∧s.2.1.Item≠0)
theorem b2w {c:Circ} (h:FitP c) {o:Hold} {x:Item} {s:RS} (hx:x∈c.Items) (hs:b55 c s):b55 c (e9n c o x s):=by
 unfold e9n;cases hb:(x.Custody.State==4&&c32 o x&&((a0g c.Loans x.ID).2&&!(a0g c.Loans x.ID).1.Recalled&&(!s.1||decide ((a0g c.Loans x.ID).1.Due<s.2.1.Due)))) with
 |false=>exact hs
 |true=>
  simp only[yae]at hb;have hf:=hb.2.1.1;unfold a0g at hf ⊢;cases hn:c.Loans.find? (fun n=>n.Item==x.ID) with
  |none=>rw[hn]at hf;cases hf
  |some n=>
   obtain ⟨m1,m2⟩:=c3z h hn;have:=(e2p h hx).1;exact .inr ⟨rfl,m1,hx,m2.symm,by show n.Item≠0;omega⟩
theorem c6n {c:Circ} {s:RS} (h:b55 c s):(s.2.1.Item==0)=!s.1:=by
 rcases h with ⟨h1,h2⟩|⟨h1,_,_,_,h2⟩
 ·rw[h1,h2];rfl
 ·rw[h1];simpa using h2
theorem b7k {c:Circ} (hs:Short c) (h:FitP c) (o:Hold):b9 b47 (false,c.Items,(c.Items.length:Int),0,c,o,a86,a4q,())=some (a2t (β:=Bool×Loan×Item×Unit) (fun (_:Nat) x s=>.inl (e9n c o x s)) (fun s=>(s.1,s.2.1,s.2.2,())) 0 c.Items (false,a86,a4q)):=by
 exact s8 (step:=b47) (fun (i:Nat) (s:RS)=>b55 c s) (fun i s=>(s.1,c.Items,(c.Items.length:Int),(i:Int),c,o,s.2.1,s.2.2,())) c.Items
  (fun i x s=>.inl (e9n c o x s)) (fun s=>(s.1,s.2.1,s.2.2,())) (by rw[m5];have:=hs.items;omega)
  (fun s _=>by simp only[b47,dge,yaa])
  (fun i x s hx hi=>by
   have hlt:=(zL hx)
   have:=hs.items;refine ⟨?_,fun s' hs'=>by cases hs';exact b2w h (yag hx) hi⟩;obtain ⟨ok,best,vat⟩:=s;unfold e9n;simp -zeta only[b47,dlt hlt,c9,hx,yab,f8z,c5y hs.loans,z6,o9,g9 (show i<9223372036854775807 by omega)];dsimp only;cases x.Custody.State==4<;>cases c32 o x<;>cases (a0g c.Loans x.ID).2<;>cases (a0g c.Loans x.ID).1.Recalled<;>cases ok<;>cases decide ((a0g c.Loans x.ID).1.Due<best.Due)<;>rfl) (false,a86,a4q) (.inl ⟨rfl,rfl⟩)
theorem b9i {c:Circ} (hs:Short c) (h:FitP c) (o:Hold):b9 b5s (0,c,o7,o,a86,())=some (a2t (β:=Circ×Circ×Loan×Unit) (fun (_:Nat) x s=>.inl (e9n c o x s)) (fun s=>(c,o7,s.2.1,())) 0 c.Items (false,a86,a4q)):=by
 exact s8 (step:=b5s) (fun (i:Nat) (s:RS)=>b55 c s) (fun i s=>((i:Int),c,o7,o,s.2.1,())) c.Items
  (fun i x s=>.inl (e9n c o x s)) (fun s=>(c,o7,s.2.1,())) (by rw[m5];have:=hs.items;omega)
  (fun s _=>by simp only[b5s,dge,yaa])
  (fun i x s hx hi=>by
   have hlt:=(zL hx)
   have:=hs.items;refine ⟨?_,fun s' hs'=>by cases hs';exact b2w h (yag hx) hi⟩;have hok:=c6n hi;obtain ⟨ok,best,vat⟩:=s;simp only at hok;unfold e9n;simp -zeta only[b5s,dlt hlt,c9,hx,yab,e48,d3x hs.loans,z6,o9,hok,g9 (show i<9223372036854775807 by omega)];rw[show (o.Record==x.Record&&(o.Item==0||o.Item==x.ID))=c32 o x from rfl];dsimp only;cases x.Custody.State==4<;>cases c32 o x<;>cases (a0g c.Loans x.ID).2<;>cases (a0g c.Loans x.ID).1.Recalled<;>cases ok<;>cases decide ((a0g c.Loans x.ID).1.Due<best.Due)<;>rfl) (false,a86,a4q) (.inl ⟨rfl,rfl⟩)
theorem a8m {c:Calendar} (hc:CalOk c) (d n:Int):∃a b,qgx c d n=some (a,b):=by
 unfold qgx;simp -zeta only[z6];dsimp only;cases hb:(decide (n<0)||decide (1000<n)) with
 |true=>exact ⟨_,_,rfl⟩
 |false=>
  simp only[yai,yaf]at hb;simp only[yaa];refine a1u ⟨_,_,rfl⟩ (a1u ?_ ?_)
  ·obtain ⟨a,b,h⟩:=b40 hc d;rw[h];exact ⟨_,_,rfl⟩
  ·obtain ⟨r,hr⟩:=a8h (step:=b9l) (fun a=>a.1=n∧0≤a.2.2.1∧a.2.2.2.1=c) (fun a=>(n-a.2.2.1).toNat) (by
    rintro ⟨n',d,i,c',_⟩ ⟨(rfl:n'=n),h0,(rfl:c'=c)⟩;simp only at h0;simp only[b9l];by_cases hq:i<n'
    ·rw[show decide (i<n')=true by rw[yad];exact hq];obtain ⟨a,b,h⟩:=b40 hc (wr .i64 (d+1));simp only[yab,h];cases !(b==0) with
     |true=>exact .inr ⟨_,rfl⟩
     |false=>
      simp only[yaa];rw[a0w (n:=i+1) (by omega) (by omega)];exact .inl ⟨_,rfl,⟨rfl,by show 0≤i+1;omega,rfl⟩,by show (n'-(i+1)).toNat<(n'-i).toNat;omega⟩
    ·rw[show decide (i<n')=false by rw[yaf];exact hq];exact .inr ⟨_,rfl⟩) (a:=(n,d,0,c,())) ⟨rfl,by show (0:Int)≤0;omega,rfl⟩ (by rw[m5];show (n-0).toNat<_;omega)
   rw[hr];rcases r with ⟨a,_⟩|⟨a,b,_⟩
   ·exact ⟨_,_,rfl⟩
   ·exact ⟨_,_,rfl⟩
theorem c9s {l:List Loan} {item due:Int} (hl:l.length<1000000000):(a6d l item due).1.length<1000000000:=by
 unfold a6d;cases l.find? (fun n=>n.Item==item) with
 |none=>simp
 |some x=>
  simp only;cases x.Recalled with
  |true=>simp
  |false=>
   simp only[yaa];cases (!(rng 0 109572 due)) with
   |true=>simp
   |false=>simp;exact hl
theorem c6o {c:Circ} {id:Int} (hs:Short c) (h:FitP c):a6g (qey c id) (qgf c id):=by
 unfold qey qgf;rw[b5k hs.holds,b1s hs.holds];obtain ⟨o,b⟩:=b2m c.Holds id;dsimp only;cases b with
 |false=>exact o4
 |true=>
  simp only[yaj,yaa];cases o.State==1 with
  |false=>exact o4
  |true=>
   simp only[yaj,yaa];obtain ⟨t,ht,hg⟩:=c6y (f:=fun (_:Nat) x s=>e9n c o x s) (b55 c) (l:=c.Items) (i:=0) (s:=(false,a86,a4q)) (fun i x s hx hs=>b2w h hx hs) (.inl ⟨rfl,rfl⟩);have r1:=b7k hs h o;have r2:=b9i hs h o;rw[hg]at r1 r2;unfold qa0;rw[show b9 b47 (false,c.Items,(c.Items.length:Int),0,c,o,(⟨0,0,0,0,0,false⟩:Loan),(⟨0,0,0,0,0,[],⟨0,0,0,0⟩⟩:Item),())=_ from r1];rw[show b9 b5s (0,c,ZN,o,(⟨0,0,0,0,0,false⟩:Loan),())=_ from r2];have hok:=c6n ht;obtain ⟨ok,best,vat⟩:=t;simp only at hok;dsimp only;rw[hok];rcases ht with ⟨h1,h2⟩|⟨h1,h2,h3,h4,h5⟩
   ·simp only at h1 h2;subst h1;exact o4
   ·simp only at h1 h2 h3 h4 h5;subst h1;simp only[yaj,yaa];have hb:=a8l h h3;have hfind:c.Items.find? (fun y=>y.ID==best.Item)=some vat:=by rw[←h4];exact a2j (key:=fun y:Item=>y.ID) (a2f h.items) h3
    obtain ⟨r,b,hr,hrm⟩:=b1d (p:=best.Patron) (x:=vat) hs;rcases b0m (item:=best.Item) hs.items with ⟨q1,q2⟩|⟨i,y,q1,q2,q3,q4⟩
    ·rw[hfind]at q2;cases q2
    ·rw[hfind]at q4;cases q4
     simp only[q1,c9,q2,b09 hs,hr];cases b with
     |false=>exact o4
     |true=>
      simp only[yaj,yaa,qae,qeq,b9e hb,b9n hb,c88 (a62 h _)];obtain ⟨due,err,hq⟩:=a8m (a62 h vat.Custody.Branch) c.Today r.Recall;rw[hq];simp only;cases he:err==0 with
      |false=>
       have he2:¬err=0:=by simpa using he
       simp only[yan,yab,qp,yah,he,yaa,qbf];exact o4
      |true=>
       simp only[yaj,yaa,yah,yab,h6s hs.loans,f9g hs.loans,h4];have hlen:=c9s (l:=c.Loans) (item:=best.Item) (due:=due) hs.loans;generalize a6d c.Loans best.Item due=q at hlen ⊢;obtain ⟨l,e2⟩:=q;simp only at hlen ⊢;by_cases h2:e2=0
       ·subst h2;exact ⟨i4 c l,best.Item,0,rfl,rfl,a5c hs hlen⟩
       ·have h3:(e2==0)=false:=by simpa using h2
        rw[a59 c l e2 h2];simp only[h3,yan,yab,qbf];exact o4
end
section
def b17 {X:Type} (lt:X→X→Bool) (y:X):List X→List X→List X
 | [],rest=>y::rest
 |z::zs,rest=>bif lt y z then b17 lt y zs (z::rest) else zs.reverse++z::y::rest
theorem e2o {X:Type} {lt:X→X→Bool} {y:X}:∀{r rest more:List X},b17 lt y r (rest++more)=b17 lt y r rest++more:=by
 intro r
 induction r with
 |nil=>intro rest more;rfl
 |cons z zs ih=>
  intro rest more;simp only[b17];cases lt y z with
  |true=>simp only[yab];rw[←yb2,ih]
  |false=>simp
theorem d53 {X:Type} {lt:X→X→Bool} {y:X}:∀{B A rest:List X},(∀b∈B,lt y b=true)→(∀a∈A,lt y a=false)→b17 lt y (B++A) rest=A.reverse++y::(B.reverse++rest):=by
 intro B
 induction B with
 |nil=>
  intro A rest _ hA;cases A with
  |nil=>rfl
  |cons a A=>simp only[ya1,b17,hA a (yaA ..),yaa,List.reverse_cons,ybz,List.reverse_nil];rfl
 |cons b B ih=>
  intro A rest hB hA;simp only[yb2,b17,hB b (yaA ..),yab];rw[ih (fun b hb=>hB b (yaC _ hb)) hA];simp
section
variable {γ:Type} {p:γ→Hold→Hold→Option Int} {g:γ} {lt:Hold→Hold→Bool}
theorem g54 (hp:∀y z,∃n,p g y z=some n∧decide (n<0)=lt y z) {b i:Int}:∀(r:List Hold) (y:Hold) (rest:List Hold),r.length<1000000→
 m9 (d7m p) (r.length+1) (0,b,g,i,(r.length:Int),r.reverse++y::rest,())=some (0,b,g,i,b17 lt y r rest,()):=by
 intro r
 induction r with
 |nil=>
  intro y rest _;simp only[ybQ,m9,b17,d7m]
  try rfl
 |cons z zs ih=>
  intro y rest hl;simp only[yaK]at hl;obtain ⟨n,h1,h2⟩:=hp y z;have d:decide ((0:Int)<((zs.length+1:Nat):Int))=true:=by rw[yad];omega
  have w:=a4m (j:=zs.length) (by omega);have e:(z::zs).reverse++y::rest=zs.reverse++z::y::rest:=by simp
  have gy:(zs.reverse++z::y::rest)[zs.length+1]?=some y:=by rw[yaI (by simp)];simp
  have gz:(zs.reverse++z::y::rest)[zs.length]?=some z:=by rw[yaI (by simp)];simp
  have s1:(zs.reverse++z::y::rest).set (zs.length+1) z=zs.reverse++z::z::rest:=by
   rw[List.set_append_right _ _ (by simp)];simp
  have gz2:(zs.reverse++z::z::rest)[zs.length]?=some z:=by rw[yaI (by simp)];simp
  have s2:(zs.reverse++z::z::rest).set zs.length y=zs.reverse++y::z::rest:=by
   rw[List.set_append_right _ _ (by simp)];simp
  rw[m9,e];simp only[yaK,d7m,d,yab,w,c9,yay,gy,gz,h1,h2,s1,gz2,s2,b17];cases lt y z with
  |true=>simp only[yab];exact ih y (z::rest) (by omega)
  |false=>rfl
def a6y (lt:Hold→Hold→Bool) (l:List Hold):List Hold:=l.foldl (fun pre y=>b17 lt y pre.reverse []) []
theorem a8s {l:List Hold} {y:Hold}:a6y lt (l++[y])=b17 lt y (a6y lt l).reverse []:=by
 unfold a6y;rw[List.foldl_append];rfl
theorem c8s {y:Hold}:∀{r rest:List Hold},(b17 lt y r rest).length=r.length+1+rest.length:=by
 intro r
 induction r with
 |nil=>intro rest;simp[b17];omega
 |cons z zs ih=>
  intro rest;simp only[b17];cases lt y z with
  |true=>simp only[yab];rw[ih];simp;omega
  |false=>simp;omega
theorem c65:∀{l:List Hold},(a6y lt l).length=l.length:=by
 have key:∀(l pre:List Hold),(l.foldl (fun pre y=>b17 lt y pre.reverse []) pre).length=pre.length+l.length:=by
  intro l
  induction l with
  |nil=>intro pre;rfl
  |cons y l ih=>intro pre;rw[ya9,ih,c8s];simp;omega
 intro l;unfold a6y;rw[key];simp
theorem f5d (hp:∀y z,∃n,p g y z=some n∧decide (n<0)=lt y z) {l:List Hold} (hl:l.length<1000000):∀(k i:Nat),i+k=l.length→
 m9 (d7l p) (k+1) (0,(l.length:Int),g,(i:Int),a6y lt (l.take i)++l.drop i,())=some (a6y lt l,()):=by
 intro k
 induction k with
 |zero=>
  intro i hi;have:i=l.length:=by omega
  subst this;have d:decide ((l.length:Int)<(l.length:Int))=false:=by rw[yaf];omega
  simp only[m9,d7l,d,yaa,List.take_length,List.drop_length,List.append_nil]
 |succ k ih=>
  intro i hi;have hlt:i<l.length:=by omega
  have d:decide ((i:Int)<(l.length:Int))=true:=by rw[yad];omega
  have hlen:(a6y lt (l.take i)).length=i:=by rw[c65,yaS];omega
  have hr:=g54 (p:=p) (g:=g) (lt:=lt) hp (b:=(l.length:Int)) (i:=(i:Int)) (a6y lt (l.take i)).reverse l[i] (l.drop (i+1)) (by rw[List.length_reverse,hlen];omega);rw[List.length_reverse,List.reverse_reverse,hlen,←ya7 hlt]at hr;have hw:b9 (d7m p) (0,(l.length:Int),g,(i:Int),(i:Int),a6y lt (l.take i)++l.drop i,())=_:=n5 (i+1) (by rw[m5];omega) hr;rw[m9];simp only[d7l,d,yab,hw,g9 (show i<9223372036854775807 by omega)];have e:b17 lt l[i] (a6y lt (l.take i)).reverse (l.drop (i+1))=a6y lt (l.take (i+1))++l.drop (i+1):=by
   have:=e2o (lt:=lt) (y:=l[i]) (r:=(a6y lt (l.take i)).reverse) (rest:=[]) (more:=l.drop (i+1));rw[ya1]at this;rw[this,List.take_succ_eq_append_getElem hlt,a8s]
  rw[e];exact ih (i+1) (by omega)
theorem h1b (hp:∀y z,∃n,p g y z=some n∧decide (n<0)=lt y z) {l:List Hold} (hl:l.length<20):qd2 p l g=some (a6y lt l):=by
 have h1:b9 (f4v p) ((l.length:Int),g,20,0,20,l,())=some ((l.length:Int),g,20,0,l,()):=by
  refine n5 1 (by rw[m5];omega) ?_;have d:decide ((20:Int)≤(l.length:Int))=false:=by rw[yaf];omega
  simp only[m9,f4v,d,yaa]
 have h2:∀m:List Hold,b9 (f4w p) ((l.length:Int),g,20,m,())=some (m,()):=fun m=>by
  refine n5 1 (by rw[m5];omega) ?_;have d:decide ((20:Int)<(l.length:Int))=false:=by rw[yaf];omega
  simp only[m9,f4w,d,yaa]
 have h3:qq p l 0 (l.length:Int) g=some (a6y lt l):=by
  unfold qq;have hw:b9 (d7l p) (0,(l.length:Int),g,wr .i64 (0+1),l,())=some (a6y lt l,()):=by
   cases l with
   |nil=>
    refine n5 1 (by rw[m5];omega) ?_
    try rfl
   |cons y m=>
    have:=f5d (p:=p) (g:=g) (lt:=lt) hp (l:=y::m) (by omega) m.length 1 (by simp only[yaK];omega);exact n5 (m.length+1) (by rw[m5];simp only[yaK]at hl;omega) this
  rw[hw]
 unfold qd2 qo;rw[h1];simp only[h3,h2]
end
end
section
def rk (k:Int) (l:List Hold):List Hold:=l.filter (fun x=>x.Rank==k)
def ltR (y z:Hold):Bool:=decide (z.Rank<y.Rank)
def w7 (l:List Hold):List Hold:=rk 9 l++(rk 8 l++(rk 7 l++(rk 6 l++(rk 5 l++(rk 4 l++(rk 3 l++(rk 2 l++(rk 1 l++rk 0 l))))))))
theorem h7i {k:Int} {l:List Hold} {x:Hold} (h:x∈rk k l):x.Rank=k:=by
 unfold rk at h;rw[yaz]at h;simpa using h.2
theorem a6e (k:Int) (l:List Hold) (y:Hold):rk k (l++[y])=rk k l++(bif y.Rank==k then [y] else []):=by
 unfold rk;rw[yb7,ybb];cases y.Rank==k<;>simp
theorem g53 {A B:List Hold} {y:Hold} (hA:∀a∈A,y.Rank≤a.Rank) (hB:∀b∈B,b.Rank<y.Rank):b17 ltR y (A++B).reverse []=A++y::B:=by
 rw[List.reverse_append,d53 (by intro b hb;rw[List.mem_reverse]at hb;unfold ltR;rw[yad];exact hB b hb) (by intro a ha;rw[List.mem_reverse]at ha;unfold ltR;rw[yaf];have:=hA a ha;omega)];simp
theorem d0a:∀(m:List Hold) (l:List Hold),l=m.reverse→(∀x∈l,rng 0 9 x.Rank=true)→a6y ltR l=w7 l:=by
 intro m
 induction m with
 |nil=>intro l h _;subst h;rfl
 |cons y m ih=>
  intro l h hr;rw[List.reverse_cons]at h;subst h;have hy:=w8.1 (hr y (by simp));rw[a8s,ih m.reverse rfl (fun x hx=>hr x (by simp at hx ⊢;exact .inl hx))];generalize m.reverse=l;have hc:y.Rank=0∨y.Rank=1∨y.Rank=2∨y.Rank=3∨y.Rank=4∨y.Rank=5∨y.Rank=6∨y.Rank=7∨y.Rank=8∨y.Rank=9:=by omega
  have mid:∀(A B:List Hold),w7 l=A++B→(∀a∈A,y.Rank≤a.Rank)→(∀b∈B,b.Rank<y.Rank)→b17 ltR y (w7 l).reverse []=A++y::B:=fun A B e hA hB=>by rw[e];exact g53 hA hB
  have mm:∀(k:Int) (x:Hold),x∈rk k l→x.Rank=k:=fun k x h=>h7i h
  rcases hc with h|h|h|h|h|h|h|h|h|h
  ·rw[mid (rk 9 l++(rk 8 l++(rk 7 l++(rk 6 l++(rk 5 l++(rk 4 l++(rk 3 l++(rk 2 l++(rk 1 l++rk 0 l))))))))) [] (by simp[w7]) (by intro a ha;simp only[yas]at ha;rcases ha with h|h|h|h|h|h|h|h|h|h<;>(have:=mm _ _ h;omega)) (by intro b hb;cases hb)];simp[w7,a6e,h]
  ·rw[mid (rk 9 l++(rk 8 l++(rk 7 l++(rk 6 l++(rk 5 l++(rk 4 l++(rk 3 l++(rk 2 l++rk 1 l)))))))) (rk 0 l) (by simp[w7]) (by intro a ha;simp only[yas]at ha;rcases ha with h|h|h|h|h|h|h|h|h<;>(have:=mm _ _ h;omega)) (by intro b hb;have:=mm _ _ hb;omega)];simp[w7,a6e,h]
  ·rw[mid (rk 9 l++(rk 8 l++(rk 7 l++(rk 6 l++(rk 5 l++(rk 4 l++(rk 3 l++rk 2 l))))))) (rk 1 l++rk 0 l) (by simp[w7]) (by intro a ha;simp only[yas]at ha;rcases ha with h|h|h|h|h|h|h|h<;>(have:=mm _ _ h;omega)) (by intro b hb;simp only[yas]at hb;rcases hb with h|h<;>(have:=mm _ _ h;omega))];simp[w7,a6e,h]
  ·rw[mid (rk 9 l++(rk 8 l++(rk 7 l++(rk 6 l++(rk 5 l++(rk 4 l++rk 3 l)))))) (rk 2 l++(rk 1 l++rk 0 l)) (by simp[w7]) (by intro a ha;simp only[yas]at ha;rcases ha with h|h|h|h|h|h|h<;>(have:=mm _ _ h;omega)) (by intro b hb;simp only[yas]at hb;rcases hb with h|h|h<;>(have:=mm _ _ h;omega))];simp[w7,a6e,h]
  ·rw[mid (rk 9 l++(rk 8 l++(rk 7 l++(rk 6 l++(rk 5 l++rk 4 l))))) (rk 3 l++(rk 2 l++(rk 1 l++rk 0 l))) (by simp[w7]) (by intro a ha;simp only[yas]at ha;rcases ha with h|h|h|h|h|h<;>(have:=mm _ _ h;omega)) (by intro b hb;simp only[yas]at hb;rcases hb with h|h|h|h<;>(have:=mm _ _ h;omega))];simp[w7,a6e,h]
  ·rw[mid (rk 9 l++(rk 8 l++(rk 7 l++(rk 6 l++rk 5 l)))) (rk 4 l++(rk 3 l++(rk 2 l++(rk 1 l++rk 0 l)))) (by simp[w7]) (by intro a ha;simp only[yas]at ha;rcases ha with h|h|h|h|h<;>(have:=mm _ _ h;omega)) (by intro b hb;simp only[yas]at hb;rcases hb with h|h|h|h|h<;>(have:=mm _ _ h;omega))];simp[w7,a6e,h]
  ·rw[mid (rk 9 l++(rk 8 l++(rk 7 l++rk 6 l))) (rk 5 l++(rk 4 l++(rk 3 l++(rk 2 l++(rk 1 l++rk 0 l))))) (by simp[w7]) (by intro a ha;simp only[yas]at ha;rcases ha with h|h|h|h<;>(have:=mm _ _ h;omega)) (by intro b hb;simp only[yas]at hb;rcases hb with h|h|h|h|h|h<;>(have:=mm _ _ h;omega))];simp[w7,a6e,h]
  ·rw[mid (rk 9 l++(rk 8 l++rk 7 l)) (rk 6 l++(rk 5 l++(rk 4 l++(rk 3 l++(rk 2 l++(rk 1 l++rk 0 l)))))) (by simp[w7]) (by intro a ha;simp only[yas]at ha;rcases ha with h|h|h<;>(have:=mm _ _ h;omega)) (by intro b hb;simp only[yas]at hb;rcases hb with h|h|h|h|h|h|h<;>(have:=mm _ _ h;omega))];simp[w7,a6e,h]
  ·rw[mid (rk 9 l++rk 8 l) (rk 7 l++(rk 6 l++(rk 5 l++(rk 4 l++(rk 3 l++(rk 2 l++(rk 1 l++rk 0 l))))))) (by simp[w7]) (by intro a ha;simp only[yas]at ha;rcases ha with h|h<;>(have:=mm _ _ h;omega)) (by intro b hb;simp only[yas]at hb;rcases hb with h|h|h|h|h|h|h|h<;>(have:=mm _ _ h;omega))];simp[w7,a6e,h]
  ·rw[mid (rk 9 l) (rk 8 l++(rk 7 l++(rk 6 l++(rk 5 l++(rk 4 l++(rk 3 l++(rk 2 l++(rk 1 l++rk 0 l)))))))) (by simp[w7]) (by intro a ha;have:=mm _ _ ha;omega) (by intro b hb;simp only[yas]at hb;rcases hb with h|h|h|h|h|h|h|h|h<;>(have:=mm _ _ h;omega))];simp[w7,a6e,h]
def z8 (record day:Int) (x:Hold):Bool:=x.Record==record&&x.State==1&&decide (x.Asleep≤day)
theorem e89 (record day:Int) (x:Hold):(x.State==1&&x.Record==record&&decide (x.Asleep≤day))=z8 record day x:=by
 unfold z8;cases x.Record==record<;>cases x.State==1<;>rfl
theorem e5n (y z:Hold) (hy:rng 0 9 y.Rank=true) (hz:rng 0 9 z.Rank=true):decide (wr .i64 (z.Rank-y.Rank)<0)=ltR y z:=by
 have h1:=w8.1 hy;have h2:=w8.1 hz;rw[a0w (by omega) (by omega)];unfold ltR;rw[decide_eq_decide];omega
theorem f2g {lt:Hold→Hold→Bool} {y x:Hold}:∀{r rest:List Hold},x∈b17 lt y r rest→x=y∨x∈r∨x∈rest:=by
 intro r
 induction r with
 |nil=>intro rest h;simp only[b17,yaN]at h;rcases h with h|h<;>simp[h]
 |cons z zs ih=>
  intro rest h;simp only[b17]at h;cases hb:lt y z with
  |true=>
   rw[hb]at h;rcases ih h with h|h|h
   ·exact .inl h
   ·exact .inr (.inl (yaC _ h))
   ·rcases yaN.1 h with h|h
    ·subst h;exact .inr (.inl (yaA ..))
    ·exact .inr (.inr h)
  |false=>
   rw[hb]at h;simp only[yaa,yas,List.mem_reverse,yaN]at h;rcases h with h|h|h|h
   ·exact .inr (.inl (yaC _ h))
   ·subst h;exact .inr (.inl (yaA ..))
   ·exact .inl h
   ·exact .inr (.inr h)
theorem d52 {lt lt':Hold→Hold→Bool} {y:Hold}:∀{r rest:List Hold},(∀z∈r,lt y z=lt' y z)→b17 lt y r rest=b17 lt' y r rest:=by
 intro r
 induction r with
 |nil=>intros;rfl
 |cons z zs ih=>
  intro rest h;simp only[b17];rw[h z (yaA ..),ih (fun z hz=>h z (yaC _ hz))]
theorem e80 {lt lt':Hold→Hold→Bool}:∀(m l:List Hold),l=m.reverse→(∀x∈l,∀y∈l,lt x y=lt' x y)→a6y lt l=a6y lt' l∧∀x∈a6y lt' l,x∈l:=by
 intro m
 induction m with
 |nil=>intro l h _;subst h;exact ⟨rfl,fun x hx=>by cases hx⟩
 |cons y m ih=>
  intro l h hc;rw[List.reverse_cons]at h;subst h;obtain ⟨e1,e2⟩:=ih m.reverse rfl (fun a ha b hb=>hc a (by simp at ha ⊢;exact .inl ha) b (by simp at hb ⊢;exact .inl hb));rw[a8s,a8s,e1];refine ⟨d52 (fun z hz=>hc y (by simp) z ?_),fun x hx=>?_⟩
  ·rw[List.mem_reverse]at hz;have:=e2 z hz;simp at this ⊢;exact .inl this
  ·rcases f2g hx with h|h|h
   ·subst h;simp
   ·rw[List.mem_reverse]at h;have:=e2 x h;simp at this ⊢;exact .inl this
   ·cases h
theorem d7o {l:List Hold} (hl:l.length<20) (hr:∀x∈l,rng 0 9 x.Rank=true):qd2 (fun (g:Unit×Unit) x0 x1=>qb1 x0 x1) l ((),())=some (w7 l):=by
 rw[h1b (lt:=fun y z=>decide (wr .i64 (z.Rank-y.Rank)<0)) (fun y z=>⟨_,rfl,rfl⟩) hl];congr 1;rw[(e80 l.reverse l (by simp) (fun x hx y hy=>e5n x y (hr x hx) (hr y hy))).1];exact d0a l.reverse l (by simp) hr
end
section
theorem a5g {X:Type} (p:X→Bool):∀(l o:List X),l.foldl (fun s y=>bif p y then s++[y] else s) o=o++l.filter p:=by
 intro l
 induction l with
 |nil=>intro o;simp
 |cons x l ih=>intro o;rw[ya9,ih,ybb];cases p x<;>simp
theorem b15 {X Y:Type} (p:X→Bool) (f:X→Y):∀(l:List X) (o:List Y),l.foldl (fun s y=>bif p y then s++[f y] else s) o=o++(l.filter p).map f:=by
 intro l
 induction l with
 |nil=>intro o;simp
 |cons x l ih=>intro o;rw[ya9,ih,ybb];cases p x<;>simp
theorem h8t {l:List Hold} {record day:Int} (hl:l.length<1000000) (h20:(l.filter (z8 record day)).length<20) (hr:∀x∈l,rng 0 9 x.Rank=true):qh l record day=some (w7 (l.filter (z8 record day))):=by
 have h:=s8 (step:=d7f) (fun (i:Nat) (s:List Hold)=>s.length≤i) (fun i s=>(record,day,l,(l.length:Int),(i:Int),s,())) l
  (fun i y s=>.inl (bif z8 record day y then s++[y] else s)) (fun s=>(s,())) (by rw[m5];omega)
  (fun s _=>by simp only[d7f,dge,yaa])
  (fun i y s hx hi=>by
   have hlt:=(zL hx)
   have l1:decide (s.length+([y]:List Hold).length≤LIM)=true:=a1q (by simp;omega);refine ⟨?_,fun s' hs'=>?_⟩
   ·simp -zeta only[d7f,dlt hlt,c9,hx,yab,l1,o9,g9 (show i<9223372036854775807 by omega)];unfold z8;dsimp only;cases (y.Record==record&&y.State==1&&decide (y.Asleep≤day))<;>rfl
   ·cases hs'
    cases z8 record day y<;>simp<;>omega) [] (by simp)
 rw[z7]at h;unfold qh;rw[show b9 d7f (record,day,l,(l.length:Int),0,[],())=_ from h,a5g,ya1];simp only;rw[d7o h20 (fun x hx=>hr x (yaz.1 hx).1)]
theorem d7e {l:List Hold} {record day rank:Int} (hl:l.length<1000000) (s:List Int) (hs:s.length<100000000):b9 b9j (l,record,day,rank,0,s,())=some (l,record,day,rank,s++(rk rank (l.filter (z8 record day))).map (fun x=>x.ID),()):=by
 have h:=s8 (step:=b9j) (fun (i:Nat) (o:List Int)=>o.length≤s.length+i) (fun i o=>(l,record,day,rank,(i:Int),o,())) l
  (fun i y o=>.inl (bif z8 record day y&&y.Rank==rank then o++[y.ID] else o)) (fun o=>(l,record,day,rank,o,())) (by rw[m5];omega)
  (fun o _=>by simp only[b9j,dge,yaa])
  (fun i y o hx hi=>by
   have hlt:=(zL hx)
   have l1:decide (o.length+([y.ID]:List Int).length≤LIM)=true:=a1q (by simp;omega);refine ⟨?_,fun s' hs'=>?_⟩
   ·simp -zeta only[b9j,dlt hlt,c9,hx,yab,l1,o9,g9 (show i<9223372036854775807 by omega)];dsimp only;rw[e89];cases (z8 record day y&&y.Rank==rank)<;>rfl
   ·cases hs'
    cases (z8 record day y&&y.Rank==rank)<;>simp<;>omega) s (by omega)
 rw[z7]at h;rw[show b9 b9j (l,record,day,rank,0,s,())=_ from h];have e:(fun (s:List Int) (x:Hold)=>bif z8 record day x&&x.Rank==rank then s++[x.ID] else s)=(fun s x=>bif (fun y=>z8 record day y&&y.Rank==rank) x then s++[(fun z:Hold=>z.ID) x] else s):=rfl;rw[e,b15];unfold rk;rw[ybL];have e2:(fun y:Hold=>z8 record day y&&y.Rank==rank)=(fun a=>a.Rank==rank&&z8 record day a):=by funext y;rw[Bool.and_comm]
 rw[e2]
def dn (q:List Hold):Nat→List Hold
 |0=>[]
 |k+1=>rk (k:Int) q++dn q k
theorem d9j (q:List Hold):w7 q=dn q 10:=by
 simp[w7,dn]
theorem c6v {k:Int} {q:List Hold}:(rk k q).length≤q.length:=yax _ _
theorem g72 {l:List Hold} {record day:Int} (hl:l.length<1000000):∀(k:Nat) (s:List Int),k≤10→s.length+k*1000000<100000000→
 m9 d30 (k+1) (l,record,day,(k:Int)-1,s,())=some (s++(dn (l.filter (z8 record day)) k).map (fun x=>x.ID),()):=by
 intro k
 induction k with
 |zero=>
  intro s _ _;simp only[m9,dn,List.map_nil,List.append_nil]
  try rfl
 |succ k ih=>
  intro s hk hs;have e:((k+1:Nat):Int)-1=(k:Int):=by omega
  have hlen:(rk (k:Int) (l.filter (z8 record day))).length≤l.length:=ybm c6v (yax _ _);rw[m9];have d2:decide ((0:Int)≤(k:Int))=true:=by rw[yad];omega
  simp only[d30,d2,yab,e,d7e hl s (by omega)];rw[a0w (n:=(k:Int)-1) (by omega) (by omega),ih _ (by omega) (by rw[yaU,ybe];omega)];simp only[dn,List.map_append,ybz]
theorem h6w {l:List Hold} {record day:Int} (hl:l.length<1000000):qgr l record day=some ((w7 (l.filter (z8 record day))).map (fun x=>x.ID)):=by
 have h:=g72 (record:=record) (day:=day) hl 10 [] (by omega) (by simp);unfold qgr;rw[show b9 d30 (l,record,day,9,([]:List Int),())=_ from n5 11 (by rw[m5];omega) h,ya1,d9j]
theorem a3r {q:List Hold} {x:Hold} (h:x∈w7 q):x∈q:=by
 have k:∀(k:Int),x∈rk k q→x∈q:=fun k h=>(yaz.1 h).1
 unfold w7 at h;simp only[yas]at h;rcases h with h|h|h|h|h|h|h|h|h|h<;>exact k _ h
def b7i (branch:Int) (vlocal:Bool) (x:Item) (h:Hold) (first:Int):Int⊕Int:=
 bif !(h.Item==0)&&!(h.Item==x.ID) then .inl first
 else bif !vlocal||h.Pickup==branch then .inr h.ID
 else .inl (bif first==0 then h.ID else first)
def c5u (branch:Int) (vlocal:Bool) (x:Item) (h:Hold) (first:Int):Int⊕Int:=
 bif !(h.Item==0)&&!(h.Item==x.ID) then .inl first
 else bif vlocal&&h.Pickup==branch then .inr h.ID
 else .inl (bif first==0 then h.ID else first)
def b45 (branch:Int) (vlocal:Bool) (x:Item):List Hold→Int→Int
 | [],first=>first
 |h::q,first=>match b7i branch vlocal x h first with | .inl f=>b45 branch vlocal x q f | .inr r=>r
def a79 (branch:Int) (vlocal:Bool) (x:Item):List Hold→Int→Int
 | [],first=>first
 |h::q,first=>match c5u branch vlocal x h first with | .inl f=>a79 branch vlocal x q f | .inr r=>r
theorem d6v {branch:Int} {x:Item}:∀{q:List Hold} {f:Int},f≠0→a79 branch false x q f=f:=by
 intro q
 induction q with
 |nil=>intros;rfl
 |cons h q ih=>
  intro f hf;have h0:(f==0)=false:=by simpa using hf
  simp only[a79,c5u,ybt,yaa,h0];cases (!(h.Item==0)&&!(h.Item==x.ID))<;>exact ih hf
theorem c5v {branch:Int} {vlocal:Bool} {x:Item}:∀{q:List Hold} {f:Int},(∀h∈q,h.ID≠0)→(vlocal=false→f=0)→b45 branch vlocal x q f=a79 branch vlocal x q f:=by
 intro q
 induction q with
 |nil=>intros;rfl
 |cons h q ih=>
  intro f hq hf;simp only[b45,a79,b7i,c5u];cases (!(h.Item==0)&&!(h.Item==x.ID)) with
  |true=>exact ih (fun y hy=>hq y (yaC _ hy)) hf
  |false=>
   cases vlocal with
   |true=>
    cases h.Pickup==branch with
    |true=>rfl
    |false=>exact ih (fun y hy=>hq y (yaC _ hy)) (fun e=>by cases e)
   |false=>
    have:=hf rfl;subst this;exact (d6v (hq h (yaA ..))).symm
end
section
theorem a5w {l:List Hold} (hsort:∀i x,l[i]?=some x→u7 l i (fun y=>decide (x.ID≤y.ID))=false) {h:Hold} (hm:h∈l):b2m l h.ID=(h,true):=by
 unfold b2m;rw[a2j (key:=fun y:Hold=>y.ID) hsort hm]
theorem d6w {β:Type} {branch:Int} {vlocal:Bool} {x:Item} (fin:Int→β) (out:Int→β) (hfo:∀v:Int,True):∀(q:List Hold) (i:Nat) (f:Int),∃r:Int⊕Int,(match r with | .inl v=>v | .inr v=>v)=b45 branch vlocal x q f∧
 a2t (fun (_:Nat) h f=>match b7i branch vlocal x h f with | .inl f=>.inl f | .inr v=>.inr (out v)) fin i q f=(match r with | .inl v=>fin v | .inr v=>out v):=by
 intro q
 induction q with
 |nil=>intro i f;exact ⟨.inl f,rfl,rfl⟩
 |cons h q ih=>
  intro i f;simp only[a2t,b45];cases b7i branch vlocal x h f with
  |inl f'=>exact ih (i+1) f'
  |inr v=>exact ⟨.inr v,rfl,rfl⟩
theorem d6x {β:Type} {branch:Int} {vlocal:Bool} {x:Item} (fin:Int→β) (out:Int→β) (hfo:∀v:Int,True):∀(q:List Hold) (i:Nat) (f:Int),∃r:Int⊕Int,(match r with | .inl v=>v | .inr v=>v)=a79 branch vlocal x q f∧
 a2t (fun (_:Nat) h f=>match c5u branch vlocal x h f with | .inl f=>.inl f | .inr v=>.inr (out v)) fin i q f=(match r with | .inl v=>fin v | .inr v=>out v):=by
 intro q
 induction q with
 |nil=>intro i f;exact ⟨.inl f,rfl,rfl⟩
 |cons h q ih=>
  intro i f;simp only[a2t,a79];cases c5u branch vlocal x h f with
  |inl f'=>exact ih (i+1) f'
  |inr v=>exact ⟨.inr v,rfl,rfl⟩
theorem a9y {q:List Hold}:(w7 q).length≤10*q.length:=by
 have k:∀n:Int,(rk n q).length≤q.length:=fun n=>c6v
 unfold w7;simp only[yaU];have:=k 0;have:=k 1;have:=k 2;have:=k 3;have:=k 4;have:=k 5;have:=k 6;have:=k 7;have:=k 8;have:=k 9;omega
theorem e4v {l:List Hold} {x:Item} {branch day:Int} {vlocal:Bool} (hl:l.length<1000000) (h20:(l.filter (z8 x.Record day)).length<20) (hr:∀x∈l,rng 0 9 x.Rank=true) :
 qbj l x branch day vlocal=some (b45 branch vlocal x (w7 (l.filter (z8 x.Record day))) 0):=by
 unfold qbj;rw[h8t hl h20 hr];have hq:(w7 (l.filter (z8 x.Record day))).length<1000:=by have:=a9y (q:=l.filter (z8 x.Record day));omega
 generalize w7 (l.filter (z8 x.Record day))=q at hq ⊢;have h:=a2m (step:=b9a) (fun i f=>(branch,vlocal,f,q,(q.length:Int),(i:Int),x,())) q
  (fun _ h f=>match b7i branch vlocal x h f with | .inl f=>.inl f | .inr v=>.inr (.inr (v,()))) (fun f=>.inl (f,())) (by rw[m5];omega)
  (fun f=>by simp only[b9a,dge,yaa])
  (fun i y f hx=>by
   have hlt:=(zL hx)
   simp -zeta only[b9a,dlt hlt,c9,hx,yab,z6,o9,g9 (show i<9223372036854775807 by omega)];unfold b7i;dsimp only;cases (!(y.Item==0)&&!(y.Item==x.ID)) with
   |true=>rfl
   |false=>
    cases (!vlocal||y.Pickup==branch) with
    |true=>rfl
    |false=>cases f==0<;>rfl) 0
 obtain ⟨r,r1,r2⟩:=d6w (branch:=branch) (vlocal:=vlocal) (x:=x) (fun f=>(.inl (f,()):(Int×Unit)⊕(Int×Unit))) (fun v=>.inr (v,())) (fun _=>trivial) q 0 0;rw[r2]at h;simp only;rw[show b9 b9a (branch,vlocal,0,q,(q.length:Int),0,x,())=_ from h,←r1];cases r<;>rfl
theorem e5c {l:List Hold} {x:Item} {branch day:Int} {vlocal:Bool} (hl:l.length<1000000) (hsort:∀i x,l[i]?=some x→u7 l i (fun y=>decide (x.ID≤y.ID))=false) :
 qhb l x branch day vlocal=some (a79 branch vlocal x (w7 (l.filter (z8 x.Record day))) 0):=by
 unfold qhb;rw[h6w hl];have hq:(w7 (l.filter (z8 x.Record day))).length<100000000:=by
  have:=a9y (q:=l.filter (z8 x.Record day));have:=yax (z8 x.Record day) l;omega
 have hm:∀h∈w7 (l.filter (z8 x.Record day)),h∈l:=fun h hh=>(yaz.1 (a3r hh)).1
 generalize w7 (l.filter (z8 x.Record day))=q at hq hm ⊢;have h:=a2m (step:=c6b) (fun i f=>(l,branch,vlocal,q.map (fun x=>x.ID),f,(i:Int),x,())) q
  (fun _ h f=>match c5u branch vlocal x h f with | .inl f=>.inl f | .inr v=>.inr (.inr (v,()))) (fun f=>.inl (f,())) (by rw[m5];omega)
  (fun f=>by
   have d:decide ((q.length:Int)<((q.map (fun x=>x.ID)).length:Int))=false:=by rw[yaf,ybe];omega
   simp only[c6b,d,yaa])
  (fun i y f hx=>by
   have hlt:=(zL hx)
   have d:decide ((i:Int)<((q.map (fun x=>x.ID)).length:Int))=true:=by rw[yad,ybe];omega
   have gx:(q.map (fun x=>x.ID))[i]?=some y.ID:=by rw[yaJ,hx];rfl
   simp -zeta only[c6b,d,c9,gx,yab,z6,o9,b1s (show l.length<1000000000 by omega),a5w hsort (hm y (yag hx)),g9 (show i<9223372036854775807 by omega)];unfold c5u;dsimp only;cases (!(y.Item==0)&&!(y.Item==x.ID)) with
   |true=>rfl
   |false=>
    cases (vlocal&&y.Pickup==branch) with
    |true=>rfl
    |false=>cases f==0<;>rfl) 0
 obtain ⟨r,r1,r2⟩:=d6x (branch:=branch) (vlocal:=vlocal) (x:=x) (fun f=>(.inl (f,()):(Int×Unit)⊕(Int×Unit))) (fun v=>.inr (v,())) (fun _=>trivial) q 0 0;rw[r2]at h;simp only;rw[show b9 c6b (l,branch,vlocal,q.map (fun x=>x.ID),0,0,x,())=_ from h,←r1];cases r<;>rfl
theorem a6q {c:Circ} (h:FitP c) {o:Hold} (ho:o∈c.Holds):rng 0 9 o.Rank=true∧o.ID≠0:=by
 have:=a1k h.holds ho;unfold s9 at this;have:=a0f this (by decide);simp only[yai,yaf]at this;obtain ⟨⟨hx,h1⟩,h2⟩:=this;refine ⟨by rw[w8];omega,?_⟩;have:=hx.1.1.1.1.1.1.1.1.1.1;omega
structure MidW (c:Circ):Prop where
 short:Short c
 moves:c.Moves.length≤2000
 holds:c.Holds.length≤64
 loans:c.Loans.length≤64
 few:∀r,(c.Holds.filter (fun o=>o.Record==r)).length<20
theorem SmallP.w {c:Circ} (h:SmallP c):MidW c:=by
 have h1:=h.moves;have h2:=h.holds;have h3:=h.loans;exact ⟨h.short,by omega,by omega,by omega,fun r=>by have:=yax (fun o:Hold=>o.Record==r) c.Holds;omega⟩
theorem e13 {l:List Hold} {r day:Int} (h:(l.filter (fun o=>o.Record==r)).length<20):(l.filter (z8 r day)).length<20:=by
 have e:l.filter (z8 r day)=(l.filter (fun o=>o.Record==r)).filter (z8 r day):=by
  rw[ybL];apply ybW;intro o _;unfold z8;cases o.Record==r<;>simp
 rw[e];have:=yax (z8 r day) (l.filter (fun o=>o.Record==r));omega
theorem g7t {c:Circ} (hs:MidW c) (h:FitP c) {x:Item} {branch day:Int} {vlocal:Bool}:qbj c.Holds x branch day vlocal=qhb c.Holds x branch day vlocal:=by
 have h1:=hs.holds;rw[e4v (by omega) (e13 (hs.few x.Record)) (fun o ho=>(a6q h ho).1),e5c (by omega) (a0a h.holds)];congr 1;exact c5v (fun o ho=>(a6q h (yaz.1 (a3r ho)).1).2) (fun _=>rfl)
end
section
def e9m (l:List Loan) (n:Loan):List Loan×Int:=
 bif decide (0≤a5e (fun x=>x.Item==n.Item) l) then ([],7)
 else bif !(o6 (b1l (fun x=>decide (n.Item<x.Item)) n l)==0) then ([],o6 (b1l (fun x=>decide (n.Item<x.Item)) n l)) else (b1l (fun x=>decide (n.Item<x.Item)) n l,0)
theorem h55 {l:List Loan} {n:Loan} (hl:l.length<100000000):qbu l n=some (e9m l n):=by
 have hl2:l.length<1000000000:=by omega
 have hi:(b1l (fun x=>decide (n.Item<x.Item)) n l).length<1000000000:=by rw[a9g];omega
 unfold qbu qaa e9m;dsimp only;rw[a4z hl2];rcases j6 (fun x:Loan=>x.Item==n.Item) l with ⟨h1,h2⟩|⟨i,x,h1,h2,h3,h4⟩
 ·have hc:qdn l=some l:=by unfold qdn;rw[a4s hl2];rfl
  have e:=c8t (p:=fun x:Loan=>decide (n.Item<x.Item)) (x:=n) hl2;have hI:∀i:Int,qd5 l i [n]=a7y l i [n]:=fun _=>rfl
  have hf:qbl (fun (g:Unit×Loan×Unit) x0=>qcv x0 g.2.1) l ((),(n,()))=some (match l.find? (fun x=>decide (n.Item<x.Item)) with|some x=>(x,a5e (fun x=>decide (n.Item<x.Item)) l)|none=>((⟨0,0,0,0,0,false⟩:Loan),-1)):=by
   unfold qbl;rw[e5g (p:=fun (g:Unit×Loan×Unit) x0=>qcv x0 g.2.1) (g:=((),(n,()))) (fun x=>decide (n.Item<x.Item)) hl2 (fun x _=>rfl)];rcases j6 (fun x:Loan=>decide (n.Item<x.Item)) l with ⟨h1,h2⟩|⟨i,x,h1,h2,h3,h4⟩
   ·simp only[h1,h2,a4i,yab]
   ·simp only[h1,h4,a09,yaa,c9,h2]
  have d:decide ((0:Int)≤-1)=false:=rfl;simp only[h1,h2,d,yaa,hf,hc];rcases j6 (fun x:Loan=>decide (n.Item<x.Item)) l with ⟨g1,g2⟩|⟨i,x,g1,g2,g3,g4⟩
  ·rw[g1]at e;simp only[a4i,yab]at e;simp only[g2,a4i,yab,hI,e,e40 hi]
  ·rw[g1]at e;simp only[a09,yaa]at e;simp only[g4,g1,a09,yaa,hI,e,e40 hi]
 ·have d:decide ((0:Int)≤(i:Int))=true:=by rw[yad];omega
  simp only[h4,h1,d,yab]
theorem c08 {X:Type} {p q:X→Bool}:∀{l:List X},(∀x∈l,p x=q x)→l.findIdx? p=l.findIdx? q:=by
 intro l
 induction l with
 |nil=>intros;rfl
 |cons x l ih=>
  intro h;rw[ybr,ybr,h x (yaA ..),ih (fun y hy=>h y (yaC _ hy))]
theorem d7h {l:List Loan} {n:Loan} (hl:l.length<1000000000):b9 b9o (l,0,n,())=some (l,(match l.findIdx? (fun x=>!(decide (x.Item<n.Item))) with|some k=>(k:Int)|none=>(l.length:Int)),n,()):=by
 have h:=u6 (step:=b9o) (fun i=>(l,(i:Int),n,())) l (fun x=>!(decide (x.Item<n.Item))) (fun i _=>(l,(i:Int),n,())) (l,(l.length:Int),n,()) hl
  (by simp only[b9o,dge,yaa])
  (fun i x hx=>by
   have hi:=(zL hx)
   simp only[b9o,dlt hi,c9,hx,yab,g9 (show i<9223372036854775807 by omega)];cases decide (x.Item<n.Item)<;>rfl)
 rw[show b9 b9o (l,0,n,())=_ from h];congr 1;have key:∀(m:List Loan) (i:Nat) (d:Int),a4f (fun x:Loan=>!(decide (x.Item<n.Item))) (fun i _=>(l,(i:Int),n,())) (l,d,n,()) i m=(l,(match m.findIdx? (fun x=>!(decide (x.Item<n.Item))) with|some k=>((i+k:Nat):Int)|none=>d),n,()):=by
  intro m
  induction m with
  |nil=>intro i d;rfl
  |cons x m ih=>
   intro i d;rw[ybr];simp only[a4f];cases !(decide (x.Item<n.Item)) with
   |true=>rfl
   |false=>
    simp only[yaa,yaB,ya5];rw[ih];cases m.findIdx? (fun x=>!(decide (x.Item<n.Item))) with
    |none=>rfl
    |some k=>simp only[ybF];rw[show i+1+k=i+(k+1) by omega]
 rw[key l 0];simp
theorem f9m {l:List Loan} {n:Loan} (hl:l.length<100000000):qhp l n=some (e9m l n):=by
 have hl2:l.length<1000000000:=by omega
 have hi:(b1l (fun x=>decide (n.Item<x.Item)) n l).length<1000000000:=by rw[a9g];omega
 unfold qhp e9m;rw[c5x hl2];dsimp only;rcases j6 (fun x:Loan=>x.Item==n.Item) l with ⟨h1,h2⟩|⟨i,x,h1,h2,h3,h4⟩
 ·have d:decide ((0:Int)≤-1)=false:=rfl;have ec:l.findIdx? (fun x=>!(decide (x.Item<n.Item)))=l.findIdx? (fun x=>decide (n.Item<x.Item)):=c08 (fun x hx=>by
   have hne:¬x.Item=n.Item:=by
    rw[ybj]at h2;have:=h2 x hx;simpa using this
   rw[ybo];simp;omega)
  simp only[h1,d,yaa,d7h hl2,ec];have fin:∀k:Nat,k≤l.length→b1l (fun x=>decide (n.Item<x.Item)) n l=l.take k++n::l.drop k→
   (bif decide (0≤(0:Int))&&(decide ((0:Int)≤(k:Int))&&decide ((k:Int)≤(l.length:Int))) then
    bif decide (([]:List Loan).length+((l.take (k:Int).toNat).drop (0:Int).toNat).length≤LIM) then
    bif decide ((([])++((l.take (k:Int).toNat).drop (0:Int).toNat)).length+([n]:List Loan).length≤LIM) then
    bif decide (0≤(k:Int))&&(decide ((k:Int)≤(l.length:Int))&&decide ((l.length:Int)≤(l.length:Int))) then
    bif decide (((([])++((l.take (k:Int).toNat).drop (0:Int).toNat))++([n]:List Loan)).length+((l.take (l.length:Int).toNat).drop (k:Int).toNat).length≤LIM) then
    (match qgb (((([])++((l.take (k:Int).toNat).drop (0:Int).toNat))++([n]:List Loan))++((l.take (l.length:Int).toNat).drop (k:Int).toNat)) with
    |some (r6,r7)=>some (r6,r7)
    |none=>none)
    else none
    else none
    else none
    else none
    else none)=some (bif !(o6 (b1l (fun x=>decide (n.Item<x.Item)) n l)==0) then ([],o6 (b1l (fun x=>decide (n.Item<x.Item)) n l)) else (b1l (fun x=>decide (n.Item<x.Item)) n l,0)):=by
   intro k hk e;have d1:decide ((0:Int)≤(k:Int))=true:=by rw[yad];omega
   have d2:decide ((k:Int)≤(l.length:Int))=true:=by rw[yad];omega
   have t1:decide (([]:List Loan).length+(l.take k).length≤LIM)=true:=a1q (by simp;omega);have t2:decide ((l.take k).length+([n]:List Loan).length≤LIM)=true:=a1q (by simp;omega);have t3:decide ((l.take k++[n]).length+(l.drop k).length≤LIM)=true:=a1q (by simp;omega);have e2:(l.take k++[n])++l.drop k=b1l (fun x=>decide (n.Item<x.Item)) n l:=by rw[e];simp
   simp only[d1,d2,yay,Int.toNat_zero,ybw,ya1,List.take_length,t1,t2,t3,yb1,decide_true,ybO,yab,e2,f9e hi]
  cases hx:l.findIdx? (fun x=>decide (n.Item<x.Item)) with
  |none=>exact fin l.length (yaH _) (by rw[b37 hx];simp)
  |some k=>
   obtain ⟨e1,e2⟩:=b38 (x:=n) hx;exact fin k e2 e1
 ·have d:decide ((0:Int)≤(i:Int))=true:=by rw[yad];omega
  simp only[h1,d,yab]
end
section
def a1v (l:List Hold) (id:Int):List Hold×Hold×Int:=
 match l.find? (fun h=>h.ID==id) with|some h=>(l.filter (fun x=>!(x.ID==id)),h,0)|none=>([],a85,9)
theorem d5i {l:List Hold} (hsort:∀i x,l[i]?=some x→u7 l i (fun y=>decide (x.ID≤y.ID))=false) {i:Nat} {x:Hold} (hx:l[i]?=some x):l.take i++l.drop (i+1)=l.filter (fun y=>!(y.ID==x.ID)):=by
 have hlt:=(zL hx)
 have e:l=l.take i++x::l.drop (i+1):=by
  have h2:l[i]=x:=(yaM.1 hx).2;rw[←h2,←ya7 hlt,ybU]
 have hA:(l.take i).filter (fun y=>!(y.ID==x.ID))=l.take i:=by
  rw[List.filter_eq_self];intro y hy;obtain ⟨j,hj⟩:=yav hy;have hj2:=(zL hj)
  rw[yaS]at hj2;rw[ybN (by omega)]at hj;have:=a2k (key:=fun y:Hold=>y.ID) hsort i j y x (by omega) hj hx;have hne:¬y.ID=x.ID:=by omega
  simpa using hne
 have hB:(l.drop (i+1)).filter (fun y=>!(y.ID==x.ID))=l.drop (i+1):=by
  rw[List.filter_eq_self];intro y hy;obtain ⟨j,hj⟩:=yav hy;rw[ybK]at hj;have:=a2k (key:=fun y:Hold=>y.ID) hsort (i+1+j) i x y (by omega) hx hj;have hne:¬y.ID=x.ID:=by omega
  simpa using hne
 conv=>rhs;rw[e]
 rw[yb7,hA,ybb,hB];simp
theorem h6m {l:List Hold} {id:Int} (hl:l.length<100000000) (hsort:∀i x,l[i]?=some x→u7 l i (fun y=>decide (x.ID≤y.ID))=false):qex l id=some (a1v l id):=by
 have hl2:l.length<1000000000:=by omega
 unfold qex qa5 a1v;rw[b49 (p:=fun (g:Unit×Int×Unit) x0=>qeh x0 g.2.1) (g:=((),(id,()))) (fun x=>x.ID==id) hl2 (fun x _=>rfl)];dsimp only;rcases j6 (fun x:Hold=>x.ID==id) l with ⟨h1,h2⟩|⟨i,x,h1,h2,h3,h4⟩
 ·simp only[h1,h2,a4i,yab]
  try rfl
 ·have hlt:=(zL h2)
  have hc:qdo l=some l:=by unfold qdo;rw[a4s hl2];rfl
  have hid:x.ID=id:=by simpa using h3
  have hd:qd8 l (i:Int) ((i+1:Nat):Int)=some (l.take i++l.drop (i+1)):=by
   show a7p l (i:Int) ((i+1:Nat):Int)=_
   unfold a7p;have d1:decide ((0:Int)≤(i:Int))=true:=by rw[yad];omega
   have d2:decide ((i:Int)≤((i+1:Nat):Int))=true:=by rw[yad];omega
   have d3:decide (((i+1:Nat):Int)≤(l.length:Int))=true:=by rw[yad];omega
   have d4:decide (l.length≤1073741824)=true:=by rw[yad];omega
   simp only[d1,d2,d3,d4,ybO,yab,yay]
  simp only[h4,h1,a09,yaa,hc,g9 (show i<9223372036854775807 by omega),hd,c9,h2];rw[d5i hsort h2,hid]
theorem c54 {l:List Hold} {id:Int} (hl:l.length<100000000):qgh l id=some (a1v l id):=by
 have hl2:l.length<1000000000:=by omega
 unfold qgh a1v;rw[b1s hl2];unfold b2m;cases hf:l.find? (fun h=>h.ID==id) with
 |none=>rfl
 |some h=>
  have hw:=s8 (step:=c53) (fun (i:Nat) (s:List Hold)=>s.length≤i) (fun i s=>(l,id,(i:Int),a85,h,s,())) l
   (fun i y s=>.inl (bif !(y.ID==id) then s++[y] else s)) (fun s=>(a85,h,s,())) (by rw[m5];omega)
   (fun s _=>by simp only[c53,dge,yaa])
   (fun i y s hx hi=>by
    have hlt:=(zL hx)
    have l1:decide (s.length+([y]:List Hold).length≤LIM)=true:=a1q (by simp;omega);refine ⟨?_,fun s' hs'=>?_⟩
    ·simp only[c53,dlt hlt,c9,hx,yab,l1,g9 (show i<9223372036854775807 by omega)];cases !(y.ID==id)<;>rfl
    ·cases hs'
     cases !(y.ID==id)<;>simp<;>omega) [] (by simp)
  rw[z7]at hw;simp only[yaj,yaa];rw[show b9 c53 (l,id,0,(⟨0,0,0,0,0,0,0,0,0,0,0⟩:Hold),h,([]:List Hold),())=_ from hw,a5g]
  try rfl
def i7 (c:Circ) (l:List Hold):Circ:=⟨c.Today,c.Items,c.Patrons,c.Loans,l,c.Charges,c.Rules,c.Cals,c.Moves,c.NextHold,c.NextCharge,c.Local⟩
theorem a67 (c:Circ) (l:List Hold):qcb l 0 ⟨c,0⟩=some ((),⟨i7 c l,0⟩):=rfl
theorem a2w (c:Circ) (l:List Hold) (e:Int) (he:e≠0):qcb l e ⟨c,0⟩=some ((),⟨i7 c c.Holds,e⟩):=by
 have h:(e==0)=false:=by simpa using he
 unfold qcb qp;simp only[h,yan,yab,yah,yaa]
 try rfl
end
section
def b7o {X:Type} (i:Int) (upd:X→X):Nat→List X→List X
 |_,[]=>[]
 |k,x::l=>(bif (k:Int)==i then upd x else x)::b7o i upd (k+1) l
theorem d8a {X:Type} {i:Nat} {upd:X→X}:∀{l:List X} {k:Nat},i<k→b7o (i:Int) upd k l=l:=by
 intro l
 induction l with
 |nil=>intros;rfl
 |cons x l ih=>
  intro k h;have:((k:Int)==(i:Int))=false:=by
   have hne:¬(k:Int)=(i:Int):=by omega
   simpa using hne
  simp only[b7o,this,yaa];rw[ih (by omega)]
theorem e82 {X:Type} {upd:X→X} {x:X}:∀{l:List X} {k j:Nat},l[j]?=some x→b7o ((k+j:Nat):Int) upd k l=l.set j (upd x):=by
 intro l
 induction l with
 |nil=>intro k j h;simp at h
 |cons y l ih=>
  intro k j h;cases j with
  |zero=>
   simp at h;subst h;have:((k:Int)==((k+0:Nat):Int))=true:=by simp
   simp only[b7o,this,yab,List.set_cons_zero];rw[d8a (by omega)]
  |succ j=>
   have hne:((k:Int)==((k+(j+1):Nat):Int))=false:=by
    have:¬(k:Int)=((k+(j+1):Nat):Int):=by omega
    simpa using this
   simp only[b7o,hne,yaa,List.set_cons_succ];have:=ih (k:=k+1) (j:=j) (by simpa using h);rw[show k+1+j=k+(j+1) by omega]at this;rw[this]
theorem e6a {X β:Type} {i:Int} {upd:X→X} {g:List X→β}:∀{l:List X} {k:Nat} {s:List X},a2t (fun (k:Nat) x (s:List X)=>.inl (s++[bif (k:Int)==i then upd x else x])) g k l s=g (s++b7o i upd k l):=by
 intro l
 induction l with
 |nil=>intro k s;simp[a2t,b7o]
 |cons x l ih=>intro k s;simp only[a2t,b7o];rw[ih];simp
def y3 (u:Custody) (x:Item):Item:=⟨x.ID,x.Record,x.Branch,x.Kind,x.Price,x.Call,u⟩
def u0 (c:Circ) (i:Nat) (x:Item) (m:Move) (u:Custody):Circ:=⟨c.Today,c.Items.set i (y3 u x),c.Patrons,c.Loans,c.Holds,c.Charges,c.Rules,c.Cals,c.Moves++[m],c.NextHold,c.NextCharge,c.Local⟩
def a6u (c:Circ) (e:Int):Int:=bif e==0&&decide (2000≤(c.Moves.length:Int)) then 13 else e
theorem a4d {c:Circ} {i:Nat} {x:Item} {kind branch who:Int} (hs:Short c) (hm:c.Moves.length<100000000) (hx:c.Items[i]?=some x) :
 qan (i:Int) kind branch who ⟨c,0⟩=some ((),bif a6u c (p8 x.Custody ⟨c.Today,x.ID,kind,branch,who⟩).2==0 then ⟨u0 c i x ⟨c.Today,x.ID,kind,branch,who⟩ (p8 x.Custody ⟨c.Today,x.ID,kind,branch,who⟩).1,0⟩ else ⟨c,a6u c (p8 x.Custody ⟨c.Today,x.ID,kind,branch,who⟩).2⟩):=by
 have hc1:qcm c.Items=some c.Items:=by unfold qcm;rw[a4s hs.items];rfl
 have hc2:qdm c.Moves=some c.Moves:=by unfold qdm;rw[a4s hs.moves];rfl
 have l1:decide (c.Moves.length+([(⟨c.Today,x.ID,kind,branch,who⟩:Move)]:List Move).length≤LIM)=true:=a1q (by simp;omega);unfold qan a6u;simp -zeta only[yah,yaj,yaa,c9,hx,f9a,o9];generalize p8 x.Custody ⟨c.Today,x.ID,kind,branch,who⟩=q;obtain ⟨u,e⟩:=q;dsimp only;cases hb:(e==0&&decide (2000≤(c.Moves.length:Int))) with
 |true=>
  simp only[yab,qp,yah]
  try rfl
 |false=>
  simp only[yaa];cases he:e==0 with
  |true=>
   have:e=0:=by simpa using he
   subst this;simp only[yaj,yaa,yab,hc1,hc2,c9,hx,yay,l1]
   try rfl
  |false=>
   simp only[yan,yab,yaa,qp,yah]
theorem c9f {c:Circ} {i:Nat} {m:Move} {u:Custody} (hs:Short c):b9 b1a ((i:Int),0,c,o7,m,u,[],())=some (c,o7,m,b7o (i:Int) (y3 u) 0 c.Items,()):=by
 have h:=s8 (step:=b1a) (fun (k:Nat) (s:List Item)=>s.length≤k) (fun k s=>((i:Int),(k:Int),c,o7,m,u,s,())) c.Items
  (fun k x s=>.inl (s++[bif (k:Int)==(i:Int) then y3 u x else x])) (fun s=>(c,o7,m,s,())) (by rw[m5];have:=hs.items;omega)
  (fun s _=>by simp only[b1a,dge,yaa])
  (fun k x s hx hi=>by
   have hlt:=(zL hx)
   have:=hs.items;have l1:∀y:Item,decide (s.length+([y]:List Item).length≤LIM)=true:=fun y=>a1q (by simp;omega)
   refine ⟨?_,fun s' hs'=>?_⟩
   ·simp only[b1a,dlt hlt,c9,hx,yab,l1,g9 (show k<9223372036854775807 by omega)];cases (k:Int)==(i:Int)<;>rfl
   ·cases hs'
    simp;omega) [] (by simp)
 rw[e6a]at h;exact h
theorem c57 {c:Circ} {item:Int} {i:Nat} {x:Item} {kind branch who:Int} (hs:Short c) (hm:c.Moves.length<100000000) (hat:qt c item=some (i:Int)) (hx:c.Items[i]?=some x) (hid:x.ID=item) :
 qgn c item kind branch who=some (bif a6u c (p8 x.Custody ⟨c.Today,x.ID,kind,branch,who⟩).2==0 then (u0 c i x ⟨c.Today,x.ID,kind,branch,who⟩ (p8 x.Custody ⟨c.Today,x.ID,kind,branch,who⟩).1,0) else (o7,a6u c (p8 x.Custody ⟨c.Today,x.ID,kind,branch,who⟩).2)):=by
 subst hid;unfold qgn a6u;rw[hat];simp only[c9,hx,f8y];generalize p8 x.Custody ⟨c.Today,x.ID,kind,branch,who⟩=q;obtain ⟨u,e⟩:=q;simp only;cases he:e==0 with
 |false=>simp only[yan,yab,ybt,yaa,he];rfl
 |true=>
  have:e=0:=by simpa using he
  subst this;simp only[yaj,yaa,yaT];cases decide (2000≤(c.Moves.length:Int)) with
  |true=>rfl
  |false=>
   have hw:=c9f (i:=i) (m:=⟨c.Today,x.ID,kind,branch,who⟩) (u:=u) hs;have l1:decide (c.Moves.length≤LIM)=true:=by rw[yad];unfold LIM;omega
   have l2:decide (c.Moves.length+([(⟨c.Today,x.ID,kind,branch,who⟩:Move)]:List Move).length≤LIM)=true:=a1q (by simp;omega);have es:=e82 (upd:=y3 u) (l:=c.Items) (k:=0) (j:=i) hx;rw[yaF]at es;rw[es]at hw;simp only[yaa];rw[show b9 b1a ((i:Int),0,c,ZN,(⟨c.Today,x.ID,kind,branch,who⟩:Move),u,([]:List Item),())=_ from hw];simp only[l1,l2,yab]
   try rfl
end
section
theorem e5e {l:List Loan} {p:Int} (hl:l.length<1000000000):qht l p=some (l.filter (fun x=>x.Patron==p)):=by
 have h:=s8 (step:=c6i) (fun (i:Nat) (s:List Loan)=>s.length≤i) (fun i s=>(l,p,(i:Int),s,())) l
  (fun i y s=>.inl (bif y.Patron==p then s++[y] else s)) (fun s=>(s,())) (by rw[m5];omega)
  (fun s _=>by simp only[c6i,dge,yaa])
  (fun i y s hx hi=>by
   have hlt:=(zL hx)
   have l1:decide (s.length+([y]:List Loan).length≤LIM)=true:=a1q (by simp;omega);refine ⟨?_,fun s' hs'=>?_⟩
   ·simp only[c6i,dlt hlt,c9,hx,yab,l1,g9 (show i<9223372036854775807 by omega)];cases y.Patron==p<;>rfl
   ·cases hs'
    cases y.Patron==p<;>simp<;>omega) [] (by simp)
 rw[z7]at h;unfold qht;rw[show b9 c6i (l,p,0,[],())=_ from h,a5g,ya1]
theorem b46 {branch:Int} {vlocal:Bool} {x:Item}:∀{q:List Hold} {f:Int},a79 branch vlocal x q f=f∨∃h∈q,a79 branch vlocal x q f=h.ID:=by
 intro q
 induction q with
 |nil=>intro f;exact .inl rfl
 |cons h q ih=>
  intro f;have lift:∀g:Int,(a79 branch vlocal x q g=g∨∃o∈q,a79 branch vlocal x q g=o.ID)→(g=f∨g=h.ID)→(a79 branch vlocal x q g=f∨∃o∈h::q,a79 branch vlocal x q g=o.ID):=by
   intro g hg hgf;rcases hg with hg|⟨o,ho,hg⟩
   ·rcases hgf with e|e
    ·exact .inl (by rw[hg,e])
    ·exact .inr ⟨h,yaA ..,by rw[hg,e]⟩
   ·exact .inr ⟨o,yaC _ ho,hg⟩
  simp only[a79,c5u];cases (!(h.Item==0)&&!(h.Item==x.ID)) with
  |true=>exact lift f ih (.inl rfl)
  |false=>
   cases (vlocal&&h.Pickup==branch) with
   |true=>exact .inr ⟨h,yaA ..,rfl⟩
   |false=>
    cases f==0 with
    |true=>exact lift h.ID ih (.inr rfl)
    |false=>exact lift f ih (.inl rfl)
theorem e2c {c:Circ} (h:FitP c) {x:Item} {branch day:Int} {vlocal:Bool} {v:Int} (hv:v=a79 branch vlocal x (w7 (c.Holds.filter (z8 x.Record day))) 0):(b2m c.Holds v).2=!(v==0):=by
 rcases b46 (branch:=branch) (vlocal:=vlocal) (x:=x) (q:=w7 (c.Holds.filter (z8 x.Record day))) (f:=0) with e|⟨o,ho,e⟩
 ·rw[e]at hv;subst hv;unfold b2m;have:c.Holds.find? (fun h=>h.ID==0)=none:=by
   rw[ybj];intro o ho;have:=(a6q h ho).2;simpa using this
  rw[this]
  try rfl
 ·rw[e]at hv;subst hv;have hm:=(yaz.1 (a3r ho)).1;rw[a5w (a0a h.holds) hm];have:=(a6q h hm).2;simp[this]
end
section
theorem c1t {c:Circ} (hm:MidW c) (h:FitP c) {item patron branch:Int} {i:Nat} {x:Item} {p:Patron} (hat:qt c item=some (i:Int)) (hx:c.Items[i]?=some x) (hp:a2d c.Patrons patron=(p,true)) :
 ∃a b,qev c x p branch=some (a,b)∧qf5 c item patron branch=some (a,b):=by
 have hs:=hm.short;have hxm:=yag hx;have hpi:=(c1b hp).2;have hb:=a8l h hxm;have hpk:=e5c (l:=c.Holds) (x:=x) (branch:=x.Custody.Branch) (day:=c.Today) (vlocal:=c.Local) (by have:=hm.holds;omega) (a0a h.holds);have hpk2:=g7t (x:=x) (branch:=x.Custody.Branch) (day:=c.Today) (vlocal:=c.Local) hm h;rw[hpk]at hpk2;have hget:=e2c h (x:=x) (branch:=x.Custody.Branch) (day:=c.Today) (vlocal:=c.Local) rfl;generalize a79 x.Custody.Branch c.Local x (w7 (c.Holds.filter (z8 x.Record c.Today))) 0=v at hpk hpk2 hget;have e1:qcw c x=some v:=by unfold qcw;rw[hpk2]
 have e2:qg0 c item=some v:=by unfold qg0;rw[hat];simp only[c9,hx,hpk]
 obtain ⟨r,b,hr,hrm⟩:=b1d (p:=patron) (x:=x) hs;unfold qev qf5;rw[hat];simp -zeta only[a3j hs.patrons,hp,c9,hx,e1,e2,b5k hs.holds,b1s hs.holds,e43 hs h.charges,e46 hs h.charges,hpi,b09 hs,hr,g7q hs.loans,e5e hs.loans,a09,z6,o9];dsimp only;simp only[yaj,Bool.or_self,yaa];cases (!(x.Custody.State==3)&&!(x.Custody.State==5)) with
 |true=>exact ⟨_,_,rfl,rfl⟩
 |false=>
  cases hbr:x.Custody.Branch==branch with
  |false=>exact ⟨_,_,rfl,rfl⟩
  |true=>
   have hbr2:branch=x.Custody.Branch:=(by simpa using hbr:x.Custody.Branch=branch).symm;subst hbr2;simp only[yaa,yaj];cases (x.Custody.State==5&&!(x.Custody.Who==patron)) with
   |true=>exact ⟨_,_,rfl,rfl⟩
   |false=>
    simp only[yaa];have tail:∃a b2,(bif decide (0<((a38 p c.Today (a8z patron c.Charges) (b7d patron c.Today c.Loans)).length:Int)) then (some (0,14):Option (Int×Int)) else
     bif !b then some (0,15) else bif decide (r.Loans≤((c.Loans.filter (fun x=>x.Patron==patron)).length:Int)) then some (0,15) else qhs r (e9h c x.Custody.Branch) c.Today p.Until)=some (a,b2):=by
     obtain ⟨a,b2,hq⟩:=c04 (r:=r) (a62 h x.Custody.Branch) c.Today p.Until;rw[hq];exact a1u ⟨_,_,rfl⟩ (a1u ⟨_,_,rfl⟩ (a1u ⟨_,_,rfl⟩ ⟨_,_,rfl⟩))
    have tl:∀rr:Rule,∀bb:Bool,(bb=true→rr∈c.Rules)→(bif (!bb||decide (rr.Loans≤((c.Loans.filter (fun x=>x.Patron==patron)).length:Int))) then (some (0,15):Option (Int×Int)) else qhs rr (e9h c x.Custody.Branch) c.Today p.Until)=(bif (!bb||decide (rr.Loans≤((c.Loans.filter (fun x=>x.Patron==patron)).length:Int))) then some (0,15) else qdh rr (e9h c x.Custody.Branch) c.Today p.Until):=fun rr bb hh=>by
     cases bb with
     |false=>rfl
     |true=>rw[c9d (a62 h _) (c2b h (hh rfl))]
    obtain ⟨a,b2,ht⟩:=tail;cases hb0:decide (0<((a38 p c.Today (a8z patron c.Charges) (b7d patron c.Today c.Loans)).length:Int)) with
    |true=>
     simp only[yab];cases x.Custody.State==3 with
     |false=>exact ⟨_,_,rfl,rfl⟩
     |true=>
      generalize b2m c.Holds v=gh at hget ⊢;obtain ⟨o,ok⟩:=gh;simp only at hget;subst hget;cases v==0<;>cases o.Patron==patron<;>exact ⟨_,_,rfl,rfl⟩
    |false=>
     rw[hb0]at ht;simp only[yaa]at ht ⊢;have key:∀(bb:Bool),bb=b→∃a b2,(match (some (r,bb):Option (Rule×Bool)) with
      |some (r14,r15)=>(bif (!r15||decide (r14.Loans≤((c.Loans.filter (fun x=>x.Patron==patron)).length:Int))) then (some (0,15):Option (Int×Int)) else match qcl c x.Custody.Branch with
       |some r20=>(match qdh r14 r20 c.Today p.Until with|some (r22,r23)=>some (r22,r23)|none=>none)
       |none=>none)
      |none=>none)=some (a,b2)∧(match (some (r,bb):Option (Rule×Bool)) with
      |some (r14,r15)=>(bif (!r15||decide (r14.Loans≤((c.Loans.filter (fun x=>x.Patron==patron)).length:Int))) then (some (0,15):Option (Int×Int)) else match qhl c x.Custody.Branch with
       |some r20=>(match qhs r14 r20 c.Today p.Until with|some (r22,r23)=>some (r22,r23)|none=>none)
       |none=>none)
      |none=>none)=some (a,b2):=by
      intro bb hbb;subst hbb;simp only[b9e hb,b9n hb];cases bb with
      |false=>exact ⟨_,_,rfl,rfl⟩
      |true=>
       rw[c9d (a62 h _) (c2b h (hrm rfl))];obtain ⟨a,b2,hq⟩:=c04 (r:=r) (a62 h x.Custody.Branch) c.Today p.Until;rw[hq];cases decide (r.Loans≤((c.Loans.filter (fun x=>x.Patron==patron)).length:Int))<;>exact ⟨_,_,rfl,rfl⟩
     obtain ⟨a,b2,k1,k2⟩:=key b rfl;cases x.Custody.State==3 with
     |false=>exact ⟨a,b2,k1,k2⟩
     |true=>
      generalize b2m c.Holds v=gh at hget ⊢;obtain ⟨o,ok⟩:=gh;simp only at hget;subst hget;cases v==0 with
      |true=>exact ⟨a,b2,k1,k2⟩
      |false=>
       cases o.Patron==patron with
       |true=>exact ⟨a,b2,k1,k2⟩
       |false=>exact ⟨_,_,rfl,rfl⟩
end
section
def b4e (patron:Int) (x:Item) (h:Hold):Bool:=h.Patron==patron&&h.State==1&&c32 h x
theorem h6b (h:Hold) (v:Int) (x:Item):qdf h v x=some (b4e v x h):=by
 unfold qdf b4e;simp -zeta only[f8z,z6,o9]
 try rfl
def f2j:List Hold→Hold→Hold
 | [],h=>h
 |x::l,_=>f2j l x
def c8z (patron:Int) (x:Item) (l:List Hold) (h:Hold):Bool×Hold:=match l.find? (b4e patron x) with|some o=>(true,o)|none=>(false,f2j l h)
theorem b5q {c v:Circ} {patron due:Int} {x:Item} (hl:c.Holds.length<1000000):∀(k i:Nat) (h:Hold),i+k=c.Holds.length→
 m9 a2s (k+2) (patron,due,false,(i:Int),c,v,x,h,())=some (due,(c8z patron x (c.Holds.drop i) h).1,c,v,(c8z patron x (c.Holds.drop i) h).2,()):=by
 intro k
 induction k with
 |zero=>
  intro i h hi;have:i=c.Holds.length:=by omega
  subst this;rw[List.drop_length];simp only[m9,a2s,dge,yaa,c8z,List.find?_nil,f2j]
 |succ k ih=>
  intro i h hi;have hlt:i<c.Holds.length:=by omega
  have hx:c.Holds[i]?=some c.Holds[i]:=yac hlt;rw[ya7 hlt];have st:a2s (patron,due,false,(i:Int),c,v,x,h,())=some (.inl (patron,due,b4e patron x c.Holds[i],((i+1:Nat):Int),c,v,x,c.Holds[i],())):=by
   simp -zeta only[a2s,dlt hlt,c9,hx,yab,yan,e48,o9,g9 (show i<9223372036854775807 by omega)]
   try rfl
  rw[m9,st];simp only;cases hq:b4e patron x c.Holds[i]with
  |true=>
   simp only[c8z,yb8,hq];rw[m9];simp only[a2s];cases decide (((i+1:Nat):Int)<(c.Holds.length:Int))<;>rfl
  |false=>
   rw[ih (i+1) c.Holds[i] (by omega)];simp only[c8z,yb8,hq,f2j]
end
section
theorem a58 (c:Circ) (l:List Loan) (e e0:Int) (h0:e0≠0):qca l e ⟨c,e0⟩=some ((),⟨i4 c c.Loans,e0⟩):=by
 have h:(e0==0)=false:=by simpa using h0
 unfold qca qp;simp only[h,yaa];cases !(e==0)<;>simp only[yab,yaa,h]<;>rfl
theorem a4v (c:Circ) (id e0:Int) (h0:e0≠0):qdr id ⟨c,e0⟩=some ((),⟨c,e0⟩):=by
 have h:(e0==0)=false:=by simpa using h0
 unfold qdr;simp only[h,yaa]
theorem a7r {c:Circ} {id:Int} (hl:c.Holds.length<100000000) (hsort:∀i x,c.Holds[i]?=some x→u7 c.Holds i (fun y=>decide (x.ID≤y.ID))=false) :
 qdr id ⟨c,0⟩=some ((),bif (a1v c.Holds id).2.2==0 then ⟨i7 c (a1v c.Holds id).1,0⟩ else ⟨i7 c c.Holds,(a1v c.Holds id).2.2⟩):=by
 unfold qdr;simp only[yah,yab,h6m hl hsort];generalize a1v c.Holds id=q;obtain ⟨l,o,e⟩:=q;simp only;by_cases he:e=0
 ·subst he;rw[a67]
  try rfl
 ·have h:(e==0)=false:=by simpa using he
  rw[a2w c l e he,h]
  try rfl
theorem a5v (c:Circ) (n e0:Int) (h0:e0≠0):qbf n ⟨c,e0⟩=some ((o7,0,e0),⟨c,e0⟩):=by
 have h:(e0==0)=false:=by simpa using h0
 unfold qbf;simp only[h,yan,yab]
 try rfl
theorem c8h (c:Circ) (n:Int):qbf n ⟨c,0⟩=some ((c,n,0),⟨c,0⟩):=rfl
end
section
theorem f4p {l:List Loan} {n:Loan} (hl:l.length<100000000):(e9m l n).1.length<1000000000:=by
 unfold e9m;cases decide (0≤a5e (fun x=>x.Item==n.Item) l) with
 |true=>simp
 |false=>
  simp only[yaa];cases (!(o6 (b1l (fun x=>decide (n.Item<x.Item)) n l)==0)) with
  |true=>simp
  |false=>simp only[yaa];rw[a9g];omega
theorem c7u {l:List Hold} {id:Int} (hl:l.length<1000000000):(a1v l id).1.length<1000000000:=by
 unfold a1v;cases l.find? (fun h=>h.ID==id) with
 |none=>simp
 |some h=>simp only;have:=yax (fun x:Hold=>!(x.ID==id)) l;omega
theorem b4z {c:Circ} {i:Nat} {x:Item} {m:Move} {u:Custody} (hs:Short c) (hm:c.Moves.length<100000000) (hx:c.Items[i]?=some x):Short (u0 c i x m u):=by
 obtain ⟨h1,h2,h3,h4,h5,h6,h7,h8,h9,h10,h11,h12,h13⟩:=hs;refine ⟨?_,h2,h3,h4,h5,h6,?_,fun z hz=>?_,h9,h10,h11,h12,h13⟩
 ·show (c.Items.set i _).length<_
  rw[List.length_set];exact h1
 ·show (c.Moves++[m]).length<_
  simp;omega
 ·rcases ybJ hz with h|h
  ·exact h8 z h
  ·rw[h];exact h8 x (yag hx)
theorem a3f {c:Circ} {l:List Hold} (hs:Short c) (hl:l.length<1000000000):Short (i7 c l):=by
 obtain ⟨h1,h2,h3,h4,h5,h6,h7,h8,h9,h10,h11,h12,h13⟩:=hs;exact ⟨h1,h2,h3,hl,h5,h6,h7,h8,h9,h10,h11,h12,h13⟩
end
section
theorem a0u {c:Circ} {id:Int} (hs:Short c):qbs id ⟨c,0⟩=some (a5e (fun x=>x.ID==id) c.Items,⟨c,bif decide (a5e (fun x=>x.ID==id) c.Items<0) then 9 else 0⟩):=by
 unfold qbs;simp only[d63 hs.items];cases decide (a5e (fun x:Item=>x.ID==id) c.Items<0)<;>rfl
theorem d57 {c:Circ} (hm:MidW c) (h:FitP c) {item patron branch:Int}:a6g (qbe c item patron branch) (qg7 c item patron branch):=by
 have hs:=hm.short;have hmv:=hm.moves;have hhl:=hm.holds;have hln:=hm.loans;unfold qbe qg7;simp -zeta only[qae,a0u hs,b9d hs.patrons];rcases j6 (fun x:Item=>x.ID==item) c.Items with ⟨h1,h2⟩|⟨i,x,h1,h2,h3,h4⟩
 ·have hat:qt c item=some (-1):=by rw[b5z hs.items,h1]
  have hml:qf5 c item patron branch=some (0,9):=by
   unfold qf5;rw[hat];simp -zeta only[a3j hs.patrons,a4i,z6]
   try rfl
  rw[h1,hml];simp only[a4i,yab];cases (a2d c.Patrons patron).2<;>exact o4
 ·have hat:qt c item=some (i:Int):=by rw[b5z hs.items,h1]
  have hid:x.ID=item:=by simpa using h3
  rw[h1];simp only[a09,yaa];cases hp:a2d c.Patrons patron with
  |mk p ok=>
   cases ok with
   |false=>
    have hml:qf5 c item patron branch=some (0,9):=by
     unfold qf5;rw[hat];simp -zeta only[a3j hs.patrons,hp,z6]
     try rfl
    rw[hml];exact o4
   |true=>
    obtain ⟨a,e,m1,m2⟩:=c1t hm h (branch:=branch) hat h2 hp;simp only[yaj,yaa,yah,c9,h2,m1,m2,hat];by_cases he:e=0
    ·subst he;have dm:=a4d (kind:=3) (branch:=branch) (who:=patron) hs (show c.Moves.length<100000000 by omega) h2;have rm:=c57 (kind:=3) (branch:=branch) (who:=patron) hs (show c.Moves.length<100000000 by omega) hat h2 hid;generalize a6u c (p8 x.Custody ⟨c.Today,x.ID,3,branch,patron⟩).2=E at dm rm;generalize (p8 x.Custody ⟨c.Today,x.ID,3,branch,patron⟩).1=u at dm rm;have lo:=h55 (l:=c.Loans) (n:=⟨item,patron,c.Today,a,0,false⟩) (by omega);have ro:=f9m (l:=c.Loans) (n:=⟨item,patron,c.Today,a,0,false⟩) (by omega);have ol:=f4p (l:=c.Loans) (n:=⟨item,patron,c.Today,a,0,false⟩) (by omega);generalize e9m c.Loans ⟨item,patron,c.Today,a,0,false⟩=q at lo ro ol;obtain ⟨l,e2⟩:=q;have hI:=b49 (p:=fun (g:Unit×Int×Item×Unit) x0=>qdf x0 g.2.1 g.2.2.1) (g:=((),(patron,x,()))) (b4e patron x) hs.holds (fun o _=>h6b o patron x);simp only[dm,rm,lo,a87 hs.holds,hI];by_cases hE:E=0
     ·subst hE;simp only[yah,yab,yaj,yaa];generalize hc1:u0 c i x ⟨c.Today,x.ID,3,branch,patron⟩ u=c1;have t1:c1.Today=c.Today:=by rw[←hc1];rfl
      have t2:c1.Loans=c.Loans:=by rw[←hc1];rfl
      have t3:c1.Holds=c.Holds:=by rw[←hc1];rfl
      have sc1:Short c1:=by rw[←hc1];exact b4z hs (by omega) h2
      simp only[t1,t2,ro];by_cases hE2:e2=0
      ·subst hE2;simp only[a91,yah,yaj,yaa];have sc2:Short (i4 c1 l):=a5c sc1 ol;have hH:(i4 c1 l).Holds=c.Holds:=t3;have dd:∀id:Int,qdr id ⟨i4 c1 l,0⟩=some ((),bif (a1v c.Holds id).2.2==0 then ⟨i7 (i4 c1 l) (a1v c.Holds id).1,0⟩ else ⟨i7 (i4 c1 l) (i4 c1 l).Holds,(a1v c.Holds id).2.2⟩):=fun id=>by
        have:=a7r (c:=i4 c1 l) (id:=id) (by rw[hH];omega) (by rw[hH];exact a0a h.holds);rw[hH]at this;rw[this,hH]
       have cc:p7 (i4 c1 l) item=p7 c item:=by unfold p7;rw[hH]
       have rc:=b0k (c:=i4 c1 l) (item:=item) (by rw[hH];omega);rw[cc]at rc;have kc:(⟨c.Today,c1.Items,c1.Patrons,l,c1.Holds,c1.Charges,c1.Rules,c1.Cals,c1.Moves,c1.NextHold,c1.NextCharge,c1.Local⟩:Circ)=i4 c1 l:=by rw[←t1];rfl
       simp only[kc,rc];generalize i4 c1 l=c2 at dd sc2 hH;have fin:∀id:Int,a6g (match qdr id ⟨c2,0⟩ with
        |some (_,v)=>(match qbf a v with|some ((r25,r26,r27),v28)=>some (r25,r26,r27)|none=>none)
        |none=>none) (match qgh c2.Holds id with
        |some (r23,r24,r25)=>(bif !(r25==0) then some (o7,0,r25) else some (i7 c2 r23,a,0))
        |none=>none):=by
        intro id;rw[dd id,c54 (by rw[hH];omega),hH];have cl:=c7u (l:=c.Holds) (id:=id) hs.holds;generalize a1v c.Holds id=q at cl ⊢;obtain ⟨m,o,e⟩:=q;simp only at cl ⊢;by_cases he:e=0
        ·subst he;exact ⟨_,_,_,rfl,rfl,a3f sc2 cl⟩
        ·have he2:(e==0)=false:=by simpa using he
         simp only[he2,yaa,a5v _ _ _ he,yan,yab];exact o4
       generalize p7 c item=q2;obtain ⟨o,ok⟩:=q2;cases ok with
       |true=>
        have hw:b9 a2s (patron,a,true,0,c2,o7,x,o,())=some (a,true,c2,o7,o,()):=by
         refine n5 1 (by rw[m5];omega) ?_;simp only[m9,a2s];cases decide ((0:Int)<(c2.Holds.length:Int))<;>rfl
        simp only[yab];rw[show b9 a2s (patron,a,true,0,c2,ZN,x,o,())=_ from hw];exact fin o.ID
       |false=>
        have hw:=b5q (c:=c2) (v:=o7) (patron:=patron) (due:=a) (x:=x) (by rw[hH];omega) c2.Holds.length 0 o (by omega);have hw2:b9 a2s (patron,a,false,0,c2,o7,x,o,())=_:=n5 (c2.Holds.length+2) (by rw[m5,hH];omega) hw;rw[ybw,hH]at hw2;simp only[yaa];rw[show b9 a2s (patron,a,false,0,c2,ZN,x,o,())=_ from hw2];unfold c8z;rcases j6 (b4e patron x) c.Holds with ⟨g1,g2⟩|⟨j,y,g1,g2,g3,g4⟩
        ·rw[g1,g2];have d:decide ((0:Int)≤-1)=false:=rfl;simp only[d,yaa,c8h];exact ⟨c2,a,0,rfl,rfl,sc2⟩
        ·have d:decide ((0:Int)≤(j:Int))=true:=by rw[yad];omega
         rw[g1,g4];simp only[d,yab,c9,g2];exact fin y.ID
      ·have he2:(e2==0)=false:=by simpa using hE2
       simp only[a59 _ _ _ hE2,a4v _ _ _ hE2,a5v _ _ _ hE2,he2,yan,yab];cases (p7 c item).2 with
       |true=>exact o4
       |false=>
        simp only[yaa];rcases j6 (b4e patron x) c.Holds with ⟨g1,g2⟩|⟨j,o,g1,g2,g3,g4⟩
        ·rw[g1];exact o4
        ·have d:decide ((0:Int)≤(j:Int))=true:=by rw[yad];omega
         simp only[g1,d,yab,c9,g2];exact o4
     ·have hE2:(E==0)=false:=by simpa using hE
      simp only[hE2,yaa,a58 _ _ _ _ hE,a4v _ _ _ hE,a5v _ _ _ hE,yan,yab];cases (p7 c item).2 with
      |true=>exact o4
      |false=>
       simp only[yaa];rcases j6 (b4e patron x) c.Holds with ⟨g1,g2⟩|⟨j,o,g1,g2,g3,g4⟩
       ·rw[g1];exact o4
       ·have d:decide ((0:Int)≤(j:Int))=true:=by rw[yad];omega
        simp only[g1,d,yab,c9,g2];exact o4
    ·have he2:(e==0)=false:=by simpa using he
     simp only[he2,yan,yab];exact o4
end
section
structure MidP (c:Circ):Prop where
 short:Short c
 moves:c.Moves.length<10000000
 holdsN:c.Holds.length<1000000
 sorted:∀(i:Nat) (x:Hold),c.Holds[i]?=some x→u7 c.Holds i (fun y=>decide (x.ID≤y.ID))=false
 rank:∀o∈c.Holds,rng 0 9 o.Rank=true∧o.ID≠0
 few:∀r,(c.Holds.filter (fun o=>o.Record==r)).length<20
 cal:∀b,CalOk (e9h c b)
 rules:∀r∈c.Rules,a5y r=true
 branch:∀x∈c.Items,rng 1 4 x.Custody.Branch=true
 ids:∀(i:Nat) (x:Item) (j:Nat) (y:Item),c.Items[i]?=some x→c.Items[j]?=some y→x.ID=y.ID→i=j
 chN:c.Charges.length<1000000
theorem a6t {c:Circ} (h:MidP c) {i:Nat} {x:Item} (hx:c.Items[i]?=some x):qt c x.ID=some (i:Int):=by
 rw[b5z h.short.items];rcases j6 (fun y:Item=>y.ID==x.ID) c.Items with ⟨h1,h2⟩|⟨j,y,h1,h2,h3,h4⟩
 ·have:=ybj.1 h2 x (yag hx);simp at this
 ·rw[h1,h.ids i x j y hx h2 (by simpa using (by simpa using h3:y.ID=x.ID).symm)]
theorem a1s {X Y:Type} {f:X→Y} {l:List X} {j:Nat} {x y:X} (hx:l[j]?=some x) (hf:f y=f x):(l.set j y).map f=l.map f:=by
 rw[List.map_set,hf];apply List.ext_getElem?;intro k;rw[List.getElem?_set];split
 ·rename_i e;subst e;split
  ·rw[yaJ,hx];rfl
  ·rename_i hk;have:=(zL hx)
   exact absurd (by simpa using this) hk
 ·rfl
theorem g51 {l m:List Item} (e:m.map (fun x=>x.ID)=l.map (fun x=>x.ID)) (h:∀(i:Nat) (x:Item) (j:Nat) (y:Item),l[i]?=some x→l[j]?=some y→x.ID=y.ID→i=j) :
 ∀(i:Nat) (x:Item) (j:Nat) (y:Item),m[i]?=some x→m[j]?=some y→x.ID=y.ID→i=j:=by
 have key:∀(i:Nat) (x:Item),m[i]?=some x→∃x',l[i]?=some x'∧x'.ID=x.ID:=by
  intro i x hx;have h1:(m.map (fun x=>x.ID))[i]?=some x.ID:=by rw[yaJ,hx];rfl
  rw[e,yaJ]at h1;cases hl:l[i]? with
  |none=>rw[hl]at h1;cases h1
  |some x'=>rw[hl]at h1;exact ⟨x',rfl,by simpa using h1⟩
 intro i x j y hx hy hxy;obtain ⟨x',hx',ex⟩:=key i x hx;obtain ⟨y',hy',ey⟩:=key j y hy;exact h i x' j y' hx' hy' (by rw[ex,ey,hxy])
theorem e4g {c:Circ} (h:MidP c) {i:Nat} {x:Item} (hx:c.Items[i]?=some x) {m:Move} {u:Custody} (hu:rng 1 4 u.Branch=true) (hl:c.Moves.length<5000000):MidP (u0 c i x m u):=by
 refine ⟨b4z h.short (by omega) hx,?_,h.holdsN,h.sorted,h.rank,h.few,h.cal,h.rules,fun y hy=>?_,?_,h.chN⟩
 ·show (c.Moves++[m]).length<_
  simp;omega
 ·rcases ybJ hy with hy|hy
  ·exact h.branch y hy
  ·rw[hy];exact hu
 ·exact g51 (a1s hx rfl) h.ids
theorem b6x {c:Custody} {m:Move} {u:Custody} (h:p8 c m=(u,0)):rng 1 4 u.Branch=true:=by
 have:=a9u (c:=c) (m:=m) (by rw[h];rfl);rw[h]at this;exact this
theorem a1w {c:Circ} (h:MidP c) {i:Nat} {x:Item} (hx:c.Items[i]?=some x) (kind branch who:Int) :
 (∃u,p8 x.Custody ⟨c.Today,x.ID,kind,branch,who⟩=(u,0)∧qan (i:Int) kind branch who ⟨c,0⟩=some ((),⟨u0 c i x ⟨c.Today,x.ID,kind,branch,who⟩ u,0⟩)∧
  qgn c x.ID kind branch who=some (u0 c i x ⟨c.Today,x.ID,kind,branch,who⟩ u,0)∧MidP (u0 c i x ⟨c.Today,x.ID,kind,branch,who⟩ u))∨
 (∃e,e≠0∧qan (i:Int) kind branch who ⟨c,0⟩=some ((),⟨c,e⟩)∧qgn c x.ID kind branch who=some (o7,e)):=by
 have hmv:=h.moves;have dm:=a4d (kind:=kind) (branch:=branch) (who:=who) h.short (by omega) hx;have rm:=c57 (kind:=kind) (branch:=branch) (who:=who) h.short (by omega) (a6t h hx) hx rfl;rw[dm,rm];cases ha:p8 x.Custody ⟨c.Today,x.ID,kind,branch,who⟩ with
 |mk u e=>
  by_cases hE:a6u c e=0
  ·left;simp only[hE,yah,yab];have he:e=0∧c.Moves.length<2000:=by
    unfold a6u at hE;cases hb:(e==0&&decide (2000≤(c.Moves.length:Int))) with
    |true=>rw[hb]at hE;cases hE
    |false=>
     rw[hb]at hE;simp only[yaa]at hE;subst hE;simp only[yah,yaT,yaf]at hb;exact ⟨rfl,by omega⟩
   obtain ⟨rfl,hlen⟩:=he;exact ⟨u,rfl,rfl,rfl,e4g h hx (b6x ha) (by omega)⟩
  ·right;have hE2:(a6u c e==0)=false:=by simpa using hE
   simp only[hE2,yaa];exact ⟨a6u c e,hE,rfl,rfl⟩
theorem c03 (c:Circ) (i kind branch who e0:Int) (h0:e0≠0):qan i kind branch who ⟨c,e0⟩=some ((),⟨c,e0⟩):=by
 have h:(e0==0)=false:=by simpa using h0
 unfold qan;simp only[h,yan,yab]
theorem a8p {c:Circ} (h:MidP c) {i:Nat} {x:Item} (hx:c.Items[i]?=some x):∃v,qcw c x=some v∧qg0 c x.ID=some v∧(b2m c.Holds v).2=!(v==0)∧(v≠0→∃o∈c.Holds,o.ID=v∧b2m c.Holds v=(o,true)∧z8 x.Record c.Today o=true):=by
 have hf:(c.Holds.filter (z8 x.Record c.Today)).length<20:=by
  have e:c.Holds.filter (z8 x.Record c.Today)=(c.Holds.filter (fun o=>o.Record==x.Record)).filter (z8 x.Record c.Today):=by
   rw[ybL];apply ybW;intro o _;unfold z8;cases o.Record==x.Record<;>simp
  rw[e];have:=yax (z8 x.Record c.Today) (c.Holds.filter (fun o=>o.Record==x.Record));have:=h.few x.Record;omega
 have q1:=e4v (l:=c.Holds) (x:=x) (branch:=x.Custody.Branch) (day:=c.Today) (vlocal:=c.Local) h.holdsN hf (fun o ho=>(h.rank o ho).1);have q2:=e5c (l:=c.Holds) (x:=x) (branch:=x.Custody.Branch) (day:=c.Today) (vlocal:=c.Local) h.holdsN h.sorted;rw[c5v (fun o ho=>(h.rank o (yaz.1 (a3r ho)).1).2) (fun _=>rfl)]at q1;refine ⟨_,by unfold qcw;rw[q1],by unfold qg0;rw[a6t h hx];simp only[c9,hx,q2],?_,?_⟩
 ·rcases b46 (branch:=x.Custody.Branch) (vlocal:=c.Local) (x:=x) (q:=w7 (c.Holds.filter (z8 x.Record c.Today))) (f:=0) with e|⟨o,ho,e⟩
  ·rw[e];unfold b2m;have:c.Holds.find? (fun h=>h.ID==0)=none:=by
    rw[ybj];intro o ho;have:=(h.rank o ho).2;simpa using this
   rw[this]
   try rfl
  ·rw[e];have hm:=(yaz.1 (a3r ho)).1;rw[a5w h.sorted hm];have:=(h.rank o hm).2;simp[this]
 ·intro hv;rcases b46 (branch:=x.Custody.Branch) (vlocal:=c.Local) (x:=x) (q:=w7 (c.Holds.filter (z8 x.Record c.Today))) (f:=0) with e|⟨o,ho,e⟩
  ·exact absurd e hv
  ·have hm:=yaz.1 (a3r ho);exact ⟨o,hm.1,e.symm,by rw[e];exact a5w h.sorted hm.1,hm.2⟩
end
section
theorem h5b {α:Type} (a b:Bool) (x y:α):(bif a then (bif b then x else y) else y)=bif a&&b then x else y:=by cases a<;>rfl
def okS (state u:Int):Bool:=(state==3&&rng 1 109572 u)||(state==2&&u==0)
def c1c (x:Hold) (item state u:Int):Hold:=⟨x.ID,x.Patron,x.Record,x.Item,x.Pickup,x.Placed,state,item,u,x.Asleep,x.Rank⟩
def a2v (l:List Hold) (id item state u:Int):List Hold×Int:=
 match l.find? (fun h=>h.ID==id) with
 |none=>([],9)
 |some x=>bif !(rng 1 9999 item)||!(okS state u) then ([],1)
  else bif !(x.State==1)&&((!(x.State==2)||!(x.Got==item))||!(state==3)) then ([],12)
  else bif l.any (fun o=>o.Got==item&&!(o.ID==id)) then ([],7)
  else (l.set (a5e (fun h=>h.ID==id) l).toNat (c1c x item state u),0)
theorem b7v {l:List Hold} (hl:l.length<1000000000):qdo l=some l:=by
 unfold qdo;rw[a4s hl];rfl
theorem f83 {l:List Hold} {i:Nat} {x y:Hold} (hl:l.length<1000000000) (hx:l[i]?=some x):qd1 l (i:Int) y=some (l.set i y):=by
 unfold qd1;simp only[b7v hl,c9,hx,yay]
theorem g7d (state u:Int):(!(okS state u))=(!(state==3&&rng 1 109572 u)&&(!(state==2)||!(u==0))):=by
 unfold okS;cases (state==3&&rng 1 109572 u)<;>cases state==2<;>cases u==0<;>rfl
theorem f8m {l:List Hold} {id item state u:Int} (hl:l.length<1000000000):qaq l id item state u=some (a2v l id item state u):=by
 unfold qaq qa5 a2v;rw[b49 (p:=fun (g:Unit×Int×Unit) x0=>qeh x0 g.2.1) (g:=((),(id,()))) (fun x=>x.ID==id) hl (fun x _=>rfl)];have hc:=c9a (p:=fun (g:Unit×Int×Int×Unit) x0=>qcq x0 g.2.1 g.2.2.1) (g:=((),(item,id,()))) (fun o=>o.Got==item&&!(o.ID==id)) hl (fun o _=>by
  simp -zeta only[qcq,o9];rfl)
 rcases j6 (fun x:Hold=>x.ID==id) l with ⟨h1,h2⟩|⟨i,x,h1,h2,h3,h4⟩
 ·simp only[h1,h2,a4i,yab]
 ·simp -zeta only[h1,h4,a09,yaa,c9,h2,e4s,z6,o9,b0g,yay];dsimp only;rw[g7d];cases (!(rng 1 9999 item)||(!(state==3&&rng 1 109572 u)&&(!(state==2)||!(u==0)))) with
  |true=>rfl
  |false=>
   simp only[yaa,h5b];cases (!(x.State==1)&&((!(x.State==2)||!(x.Got==item))||!(state==3))) with
   |true=>rfl
   |false=>
    simp only[yaa,hc];cases l.any (fun o=>o.Got==item&&!(o.ID==id)) with
    |true=>rfl
    |false=>simp only[yaa,f83 hl h2];rfl
theorem e5b {l:List Hold} {y:Hold} (hl:l.length<1000000000):qha l y=some (l.map (fun x=>bif x.ID==y.ID then y else x)):=by
 have h:=s8 (step:=c6a) (fun (i:Nat) (s:List Hold)=>s.length≤i) (fun i s=>(l,(i:Int),y,s,())) l
  (fun i x s=>.inl (s++[bif x.ID==y.ID then y else x])) (fun s=>(s,())) (by rw[m5];omega)
  (fun s _=>by simp only[c6a,dge,yaa])
  (fun i x s hx hi=>by
   have hlt:=(zL hx)
   have l1:∀z:Hold,decide (s.length+([z]:List Hold).length≤LIM)=true:=fun z=>a1q (by simp;omega)
   refine ⟨?_,fun s' hs'=>?_⟩
   ·simp only[c6a,dlt hlt,c9,hx,yab,l1,g9 (show i<9223372036854775807 by omega)];cases x.ID==y.ID<;>rfl
   ·cases hs'
    simp;omega) [] (by simp)
 rw[z7]at h;unfold qha;rw[show b9 c6a (l,0,y,([]:List Hold),())=_ from h];simp only;congr 1;have key:∀(l o:List Hold),l.foldl (fun s x=>s++[bif x.ID==y.ID then y else x]) o=o++l.map (fun x=>bif x.ID==y.ID then y else x):=by
  intro l
  induction l with
  |nil=>intro o;simp
  |cons x l ih=>intro o;rw[ya9,ih];simp
 rw[key,ya1]
theorem a8n {l:List Hold} (hsort:∀i x,l[i]?=some x→u7 l i (fun y=>decide (x.ID≤y.ID))=false) {i:Nat} {x y:Hold} (hx:l[i]?=some x) (hy:y.ID=x.ID):l.map (fun z=>bif z.ID==y.ID then y else z)=l.set i y:=by
 apply List.ext_getElem?;intro j;rw[yaJ,List.getElem?_set];have hlt:=(zL hx)
 split
 ·rename_i e;subst e;simp only[hx,ybF,hlt,ybB,hy,yah,yab]
 ·rename_i e;cases hj:l[j]? with
  |none=>rfl
  |some z=>
   have hne:¬z.ID=y.ID:=by
    rw[hy];rcases Nat.lt_or_gt_of_ne e with h|h
    ·have:=a2k (key:=fun y:Hold=>y.ID) hsort j i x z h hx hj;omega
    ·have:=a2k (key:=fun y:Hold=>y.ID) hsort i j z x h hj hx;omega
   have hb:(z.ID==y.ID)=false:=by simpa using hne
   simp only[ybF,hb,yaa]
theorem g7c (state u:Int):((!(state==2)&&!(state==3))||(state==3&&(decide (u<1)||!(rng 0 109572 u)))||(state==2&&!(u==0)))=!(okS state u):=by
 unfold okS;by_cases h3:state=3
 ·subst h3;unfold rng;by_cases h1:u<1
  ·have:¬1≤u:=by omega
   simp[h1,this]
  ·have a:1≤u:=by omega
   have b:0≤u:=by omega
   simp[h1,a,b]
 ·have e3:(state==3)=false:=by simpa using h3
  rw[e3];cases state==2<;>cases u==0<;>rfl
theorem d31 {l:List Hold} {id item state u:Int} (hl:l.length<1000000000) (hsort:∀i x,l[i]?=some x→u7 l i (fun y=>decide (x.ID≤y.ID))=false):qgt l id item state u=some (a2v l id item state u):=by
 unfold qgt a2v;rw[b1s hl];unfold b2m;rcases j6 (fun x:Hold=>x.ID==id) l with ⟨h1,h2⟩|⟨i,x,h1,h2,h3,h4⟩
 ·rw[h2];rfl
 ·have hxid:x.ID=id:=by simpa using h3
  have hw:=u6 (step:=c59) (fun i=>(l,id,item,state,u,(i:Int),x,())) l (fun o=>!(o.ID==id)&&o.Got==item) (fun _ _=>(.inr ([],7,()):(List Hold×Int×Int×Int×Hold×Unit)⊕(List Hold×Int×Unit))) (.inl (l,item,state,u,x,())) hl
   (by simp only[c59,dge,yaa])
   (fun j y hy=>by
    have hlt:=(zL hy)
    simp -zeta only[c59,dlt hlt,c9,hy,yab,o9,g9 (show j<9223372036854775807 by omega)];rfl)
  rw[a3v]at hw;rw[h4];simp -zeta only[yaj,yaa,f9b,f87,z6,o9,b0g,h1,yay];dsimp only;rw[←g7c];have eb:∀a b c d:Bool,((a||b||c)||d)=(a||(b||c||d)):=by decide
  cases hq:(!(rng 1 9999 item)||(!(state==2)&&!(state==3)||(state==3&&(decide (u<1)||!(rng 0 109572 u)))||(state==2&&!(u==0)))) with
  |true=>
   rw[←eb]at hq;rw[hq]
   try rfl
  |false=>
   rw[←eb]at hq;rw[hq];simp only[yaa,h5b];cases (!(x.State==1)&&((!(x.State==2)||!(x.Got==item))||!(state==3))) with
   |true=>rfl
   |false=>
    simp only[yaa];rw[show b9 c59 (l,id,item,state,u,0,x,())=_ from hw];have ea:l.any (fun o=>o.Got==item&&!(o.ID==id))=(l.find? (fun o=>!(o.ID==id)&&o.Got==item)).isSome:=by
     rw[ybo,List.find?_isSome,yb3];constructor
     ·rintro ⟨o,ho,hp⟩;exact ⟨o,ho,by rw[Bool.and_comm];exact hp⟩
     ·rintro ⟨o,ho,hp⟩;exact ⟨o,ho,by rw[Bool.and_comm];exact hp⟩
    rw[ea];cases l.find? (fun o=>!(o.ID==id)&&o.Got==item) with
    |some o=>rfl
    |none=>
     simp only[ybT,yaa];have:=e5b (l:=l) (y:=c1c x item state u) hl;rw[a8n hsort h2 (y:=c1c x item state u) rfl]at this;rw[show qha l (⟨x.ID,x.Patron,x.Record,x.Item,x.Pickup,x.Placed,state,item,u,x.Asleep,x.Rank⟩:Hold)=_ from this]
def a1j (o:Hold):Int×Int×Int:=(o.ID,o.Rank,o.Record)
theorem b0c {c:Circ} (h:MidP c) {l:List Hold} (e:l.map a1j=c.Holds.map a1j):MidP (i7 c l):=by
 have hlen:l.length=c.Holds.length:=by have:=congrArg List.length e;simpa using this
 have key:∀(i:Nat) (x:Hold),l[i]?=some x→∃x',c.Holds[i]?=some x'∧a1j x'=a1j x:=by
  intro i x hx;have h1:(l.map a1j)[i]?=some (a1j x):=by rw[yaJ,hx];rfl
  rw[e,yaJ]at h1;cases hl:c.Holds[i]? with
  |none=>rw[hl]at h1;cases h1
  |some x'=>rw[hl]at h1;exact ⟨x',rfl,by simpa using h1⟩
 refine ⟨a3f h.short (by rw[hlen];exact h.short.holds),h.moves,?_,?_,?_,?_,h.cal,h.rules,h.branch,h.ids,h.chN⟩
 ·show l.length<_;rw[hlen];exact h.holdsN
 ·intro i x hx;obtain ⟨x',hx',ek⟩:=key i x hx;have hs:=h.sorted i x' hx';cases i with
  |zero=>rfl
  |succ j=>
   show u7 l (j+1) _=false
   unfold u7 at hs ⊢;simp only at hs ⊢;cases hj:l[j]? with
   |none=>rfl
   |some y=>
    obtain ⟨y',hy',ey⟩:=key j y hj;rw[hy']at hs;unfold a1j at ek ey;simp only[yaO]at ek ey;simp only at hs;rw[ek.1,ey.1]at hs;exact hs
 ·intro o ho;obtain ⟨i,hi⟩:=yav ho;obtain ⟨x',hx',ek⟩:=key i o hi;have:=h.rank x' (yag hx');unfold a1j at ek;simp only[yaO]at ek;rw[←ek.1,←ek.2.1];exact this
 ·intro r;have e1:∀m:List Hold,(m.filter (fun o=>o.Record==r)).length=((m.map a1j).filter (fun k=>k.2.2==r)).length:=by
   intro m;rw[List.filter_map,ybe]
   try rfl
  show (l.filter (fun o=>o.Record==r)).length<20
  rw[e1,e,←e1];exact h.few r
theorem b7u {l:List Hold} {id item state u:Int} (h:(a2v l id item state u).2=0):(a2v l id item state u).1.map a1j=l.map a1j:=by
 unfold a2v at h ⊢;rcases j6 (fun x:Hold=>x.ID==id) l with ⟨h1,h2⟩|⟨i,x,h1,h2,h3,h4⟩
 ·rw[h2]at h;cases h
 ·rw[h4]at h ⊢;simp only at h ⊢;cases hq:(!(rng 1 9999 item)||!(okS state u)) with
  |true=>rw[hq]at h;cases h
  |false=>
   rw[hq]at h;simp only[yaa]at h ⊢;cases hq2:(!(x.State==1)&&((!(x.State==2)||!(x.Got==item))||!(state==3))) with
   |true=>rw[hq2]at h;cases h
   |false=>
    rw[hq2]at h;simp only[yaa]at h ⊢;cases hq3:l.any (fun o=>o.Got==item&&!(o.ID==id)) with
    |true=>rw[hq3]at h;cases h
    |false=>
     simp only[yaa,h1,yay];exact a1s h2 rfl
end
section
structure Frame (c d:Circ):Prop where
 ids:d.Items.map (fun x=>x.ID)=c.Items.map (fun x=>x.ID)
 holds:d.Holds.map a1j=c.Holds.map a1j
 patrons:d.Patrons=c.Patrons
 loans:d.Loans=c.Loans
 charges:d.Charges=c.Charges
 rules:d.Rules=c.Rules
 cals:d.Cals=c.Cals
 today:d.Today=c.Today
 here:d.Local=c.Local
 nh:d.NextHold=c.NextHold
 nc:d.NextCharge=c.NextCharge
 br:d.Items.map (fun x=>x.Custody.Branch)=c.Items.map (fun x=>x.Custody.Branch)
 recs:d.Items.map (fun x=>x.Record)=c.Items.map (fun x=>x.Record)
theorem Frame.refl (c:Circ):Frame c c:=⟨rfl,rfl,rfl,rfl,rfl,rfl,rfl,rfl,rfl,rfl,rfl,rfl,rfl⟩
theorem Frame.trans {a b c:Circ} (h:Frame a b) (k:Frame b c):Frame a c:=
 ⟨k.ids.trans h.ids,k.holds.trans h.holds,k.patrons.trans h.patrons,k.loans.trans h.loans,k.charges.trans h.charges,k.rules.trans h.rules,k.cals.trans h.cals,k.today.trans h.today,k.here.trans h.here,k.nh.trans h.nh,k.nc.trans h.nc,k.br.trans h.br,k.recs.trans h.recs⟩
theorem a9i {c:Circ} {i:Nat} {x:Item} (hx:c.Items[i]?=some x) (m:Move) {u:Custody} (hu:u.Branch=x.Custody.Branch):Frame c (u0 c i x m u):=
 ⟨a1s hx rfl,rfl,rfl,rfl,rfl,rfl,rfl,rfl,rfl,rfl,rfl,a1s hx hu,a1s hx rfl⟩
theorem a9b {c:Custody} {m:Move} {u:Custody} (h:p8 c m=(u,0)) (hk:(a0b m.Kind==2)=false):u.Branch=c.Branch:=by
 unfold p8 at h;cases e1:(!(a9m c)||!(a9n m)) with
 |true=>rw[e1]at h;cases h
 |false=>
  rw[e1]at h;simp only[yaa]at h;cases e2:!(a7g c.State m.Kind) with
  |true=>rw[e2]at h;cases h
  |false=>
   rw[e2]at h;simp only[yaa]at h;cases e3:(m.Kind==3&&c.State==5&&!(m.Who==c.Who)) with
   |true=>rw[e3]at h;cases h
   |false=>
    rw[e3]at h;simp only[yaa]at h;cases e4:!(c16 c m) with
    |true=>rw[e4]at h;cases h
    |false=>
     rw[e4]at h;simp only[yaa,hk]at h;cases e5:(a0b m.Kind==4||(a0b m.Kind==5||a0b m.Kind==8)) with
     |true=>rw[e5]at h;cases h;rfl
     |false=>
      rw[e5]at h;simp only[yaa]at h;cases e6:(a0b m.Kind==6) with
      |true=>rw[e6]at h;cases h;rfl
      |false=>
       rw[e6]at h;simp only[yaa]at h;cases e7:(a0b m.Kind==9||a0b m.Kind==10) with
       |true=>rw[e7]at h;cases h;rfl
       |false=>rw[e7]at h;cases h;rfl
theorem a7q {c:Circ} {l:List Hold} (e:l.map a1j=c.Holds.map a1j):Frame c (i7 c l):=⟨rfl,e,rfl,rfl,rfl,rfl,rfl,rfl,rfl,rfl,rfl,rfl,rfl⟩
def c2l (a:Option (Unit×Circ_desk)) (b:Option (Circ×Int)) (Q:Circ→Prop):Prop:=
 (∃c,a=some ((),⟨c,0⟩)∧b=some (c,0)∧Q c)∨∃c e,e≠0∧a=some ((),⟨c,e⟩)∧b=some (o7,e)∧Short c
def a80 (a b:Option (Circ×Int)):Prop:=∃c e,a=some (c,e)∧b=some (c,e)∧Short c
theorem p9 {e:Int}:a80 (some (o7,e)) (some (o7,e)):=⟨_,_,rfl,rfl,b1n⟩
theorem o5 (c:Circ) (e0:Int) (h0:e0≠0):qg ⟨c,e0⟩=some ((o7,e0),⟨c,e0⟩):=by
 have h:(e0==0)=false:=by simpa using h0
 unfold qg;simp only[h,yan,yab]
 try rfl
theorem c02 {c:Circ} (h:MidP c) {b n:Int} (hb:rng 1 4 b=true):∃d e,qeq b n ⟨c,0⟩=some (d,⟨c,e⟩)∧qgx (e9h c b) c.Today n=some (d,e):=by
 obtain ⟨d,e,hq⟩:=a8m (h.cal b) c.Today n;refine ⟨d,e,?_,hq⟩;unfold qeq;simp only[b9e hb,c88 (h.cal b),hq];by_cases he:e=0
 ·subst he;rfl
 ·have he2:(e==0)=false:=by simpa using he
  simp only[he2,yan,yab,qp,yah]
theorem b65 {c:Circ} (h:MidP c) {b n e0:Int} (hb:rng 1 4 b=true) (h0:e0≠0):∃d,qeq b n ⟨c,e0⟩=some (d,⟨c,e0⟩):=by
 obtain ⟨d,e,hq⟩:=a8m (h.cal b) c.Today n;have h2:(e0==0)=false:=by simpa using h0
 refine ⟨d,?_⟩;unfold qeq;simp only[b9e hb,c88 (h.cal b),hq];cases e==0<;>simp only[yan,yaj,yab,yaa,qp,h2]
theorem c2l.mono {a:Option (Unit×Circ_desk)} {b:Option (Circ×Int)} {Q R:Circ→Prop} (h:c2l a b Q) (hQ:∀d,Q d→R d):c2l a b R:=by
 rcases h with ⟨d,h1,h2,h3⟩|h
 ·exact .inl ⟨d,h1,h2,hQ d h3⟩
 ·exact .inr h
theorem b9u {c:Circ} (h:MidP c) {i:Nat} {x:Item} (hx:c.Items[i]?=some x) (o:Hold):c2l (qdp (i:Int) o ⟨c,0⟩) (qgm c x.ID o) (fun d=>(MidP d∧Frame c d)∧(∃u,d.Items=c.Items.set i (y3 u x))∧∃st u,a2v c.Holds o.ID x.ID st u=(d.Holds,0)):=by
 obtain ⟨r,b,hr,_⟩:=b1d (p:=o.Patron) (x:=x) h.short;have hb:=h.branch x (yag hx);unfold qdp qgm;simp -zeta only[yah,yaj,yaa,a6t h hx,c9,hx,b09 h.short,hr];rcases a1w h hx 5 x.Custody.Branch o.Patron with ⟨u,ha,m1,m2,hm2⟩|⟨e,he,m1,m2⟩
 ·have hf:=a9i hx ⟨c.Today,x.ID,5,x.Custody.Branch,o.Patron⟩ (a9b ha rfl);rw[m1,m2];have hh:(u0 c i x ⟨c.Today,x.ID,5,x.Custody.Branch,o.Patron⟩ u).Holds=c.Holds:=rfl;have hI:(u0 c i x ⟨c.Today,x.ID,5,x.Custody.Branch,o.Patron⟩ u).Items=c.Items.set i (y3 u x):=rfl;generalize u0 c i x ⟨c.Today,x.ID,5,x.Custody.Branch,o.Patron⟩ u=c2 at hm2 hf hh hI;dsimp only;have core:∀days:Int,∃d e,qeq x.Custody.Branch days ⟨c2,0⟩=some (d,⟨c2,e⟩)∧qgx (e9h c2 x.Custody.Branch) c2.Today days=some (d,e):=fun days=>c02 hm2 hb
  cases b
  all_goals
   simp only[yab,yaa,yah,yaj,b9n hb];obtain ⟨d,e,l1,l2⟩:=core _;rw[l1,l2];by_cases he:e=0
   ·subst he;simp only[yah,yaj,yab,yaa,f8m hm2.short.holds,d31 hm2.short.holds hm2.sorted];have ck:=b7u (l:=c2.Holds) (id:=o.ID) (item:=x.ID) (state:=3) (u:=d);generalize hcq:a2v c2.Holds o.ID x.ID 3 d=q at ck;obtain ⟨l,e⟩:=q;by_cases he:e=0
    ·subst he;exact .inl ⟨i7 c2 l,rfl,rfl,⟨b0c hm2 (ck rfl),hf.trans (a7q (ck rfl))⟩,⟨u,hI⟩,3,d,by rw[←hh];exact hcq⟩
    ·have he2:(e==0)=false:=by simpa using he
     simp only[a2w c2 l e he,he2,yan,yab];exact .inr ⟨_,e,he,rfl,rfl,hm2.short⟩
   ·have he2:(e==0)=false:=by simpa using he
    simp only[he2,yan,yab,yaa];exact .inr ⟨_,e,he,rfl,rfl,hm2.short⟩
 ·have he2:(e==0)=false:=by simpa using he
  rw[m1,m2];dsimp only;cases b
  all_goals
   simp only[yab,yaa,he2,yan];obtain ⟨d,l1⟩:=b65 (n:=_) h hb he;rw[l1];simp only[he2,yaa];exact .inr ⟨_,e,he,rfl,rfl,h.short⟩
theorem e5x {c:Circ} (h:MidP c) {i:Nat} {x:Item} (hx:c.Items[i]?=some x) (o:Hold):c2l (qdp (i:Int) o ⟨c,0⟩) (qgm c x.ID o) (fun d=>MidP d∧Frame c d):=(b9u h hx o).mono (fun _ h=>h.1)
theorem a3b {c:Circ} {i:Nat} {x:Item} (hx:c.Items[i]?=some x) (kind:Int):qbv (i:Int) kind ⟨c,0⟩=qan (i:Int) kind x.Custody.Branch 0 ⟨c,0⟩:=by
 unfold qbv;simp only[yah,yab,c9,hx];cases qan (i:Int) kind x.Custody.Branch 0 ⟨c,0⟩ with
 |none=>rfl
 |some p=>rfl
theorem a66 (c:Circ) (i kind e0:Int) (h0:e0≠0):qbv i kind ⟨c,e0⟩=some ((),⟨c,e0⟩):=by
 have h:(e0==0)=false:=by simpa using h0
 unfold qbv;simp only[h,yaa]
theorem a4u (c:Circ) (i e0:Int) (h0:e0≠0):qcg i ⟨c,e0⟩=some ((),⟨c,e0⟩):=by
 have h:(e0==0)=false:=by simpa using h0
 unfold qcg;simp only[h,yan,yab]
theorem b66 (c:Circ) (i e0:Int) (o:Hold) (h0:e0≠0):qdp i o ⟨c,e0⟩=some ((),⟨c,e0⟩):=by
 have h:(e0==0)=false:=by simpa using h0
 unfold qdp;simp only[h,yan,yab]
theorem d4b {X:Type} {l:List X} {i:Nat} {x:X} (h:l[i]?=some x):l.set i x=l:=by
 obtain ⟨h1,h2⟩:=yaM.1 h;rw[←h2,List.set_getElem_self]
theorem c1e {l:List Hold} (hs:∀i x,l[i]?=some x→u7 l i (fun y=>decide (x.ID≤y.ID))=false) {o p:Hold} (ho:o∈l) (hp:p∈l) (e:o.ID=p.ID):o=p:=by
 have h1:=a5w hs ho;have h2:=a5w hs hp;rw[e,h2]at h1;cases h1
 try rfl
def Put (c d:Circ) (i:Nat) (x:Item):Prop:=(∃u,d.Items=c.Items.set i (y3 u x))∧∃v,qcw c x=some v∧((v=0∧d.Holds=c.Holds)∨∃st u,a2v c.Holds v x.ID st u=(d.Holds,0)∧(st=3→∀o∈c.Holds,o.ID=v→o.Pickup=x.Custody.Branch))
theorem a9w {c:Circ} (h:MidP c) {i:Nat} {x:Item} (hx:c.Items[i]?=some x):c2l (qcg (i:Int) ⟨c,0⟩) (qg3 c x.ID) (fun d=>(MidP d∧Frame c d)∧Put c d i x):=by
 obtain ⟨v,p1,p2,g1,g2⟩:=a8p h hx;have mv:∀kind branch who:Int,(a0b kind==2)=false→c2l (qan (i:Int) kind branch who ⟨c,0⟩) (qgn c x.ID kind branch who) (fun d=>(MidP d∧Frame c d)∧d.Holds=c.Holds∧∃u,d.Items=c.Items.set i (y3 u x)):=by
  intro kind branch who hk;rcases a1w h hx kind branch who with ⟨u,ha,m1,m2,hm2⟩|⟨e,he,m1,m2⟩
  ·exact .inl ⟨_,m1,m2,⟨hm2,a9i hx _ (a9b ha hk)⟩,rfl,u,rfl⟩
  ·exact .inr ⟨_,e,he,m1,m2,h.short⟩
 unfold qcg qg3;simp -zeta only[yah,yaj,yaa,a6t h hx,c9,hx,p1,p2,b5k h.short.holds,b1s h.short.holds,a3b hx,o9];by_cases hv:v=0
 ·subst hv;generalize b2m c.Holds 0=q at g1 ⊢;obtain ⟨o,ok⟩:=q;simp only[yah,yaj]at g1;subst g1;dsimp only;simp only[yan,yaT,yah,yab];cases x.Branch==x.Custody.Branch with
  |false=>
   simp only[yan,yab];rcases mv 6 x.Branch 0 rfl with ⟨d,m1,m2,hQ,hH,hI⟩|⟨d,e,he,m1,m2,hsd⟩
   ·rw[m1,m2];exact .inl ⟨d,rfl,rfl,hQ,hI,0,p1,.inl ⟨rfl,hH⟩⟩
   ·rw[m1,m2];exact .inr ⟨d,e,he,rfl,rfl,hsd⟩
  |true=>
   simp only[yaj,yaa];cases x.Custody.State==3 with
   |true=>exact .inl ⟨c,rfl,rfl,⟨h,Frame.refl c⟩,⟨x.Custody,(d4b hx).symm⟩,0,p1,.inl ⟨rfl,rfl⟩⟩
   |false=>
    simp only[yan,yab,yaa];rcases mv 2 x.Custody.Branch 0 rfl with ⟨d,m1,m2,hQ,hH,hI⟩|⟨d,e,he,m1,m2,hsd⟩
    ·rw[m1,m2];exact .inl ⟨d,rfl,rfl,hQ,hI,0,p1,.inl ⟨rfl,hH⟩⟩
    ·rw[m1,m2];exact .inr ⟨d,e,he,rfl,rfl,hsd⟩
 ·have hv2:(v==0)=false:=by simpa using hv
  obtain ⟨o,ho,hoi,hg,hw⟩:=g2 hv;rw[hg,hv2];dsimp only;simp only[yaj,ybt,yaa];cases hpk:o.Pickup==x.Custody.Branch with
  |true=>
   simp only[yab];rcases b9u h hx o with ⟨d,m1,m2,hQ,hI,st,u,hH⟩|⟨d,e,he,m1,m2,hsd⟩
   ·rw[m1,m2];exact .inl ⟨d,rfl,rfl,hQ,hI,v,p1,.inr ⟨st,u,by rw[←hoi];exact hH,fun _ o2 ho2 hv2=>by rw[c1e h.sorted ho2 ho (hv2.trans hoi.symm)];simpa using hpk⟩⟩
   ·rw[m1,m2];exact .inr ⟨d,e,he,rfl,rfl,hsd⟩
  |false=>
   simp only[yaa];rcases mv 6 o.Pickup o.Patron rfl with ⟨d,m1,m2,⟨hm2,hf⟩,hH,hI⟩|⟨d,e,he,m1,m2,hsd⟩
   ·rw[m1,m2];simp only[yah,yaj,yab,yaa,f8m hm2.short.holds,d31 hm2.short.holds hm2.sorted];have ck:=b7u (l:=d.Holds) (id:=v) (item:=x.ID) (state:=2) (u:=0);generalize hcq:a2v d.Holds v x.ID 2 0=q at ck;obtain ⟨l,e⟩:=q;by_cases he:e=0
    ·subst he;exact .inl ⟨i7 d l,rfl,rfl,⟨b0c hm2 (ck rfl),hf.trans (a7q (ck rfl))⟩,hI,v,p1,.inr ⟨2,0,by rw[←hH];exact hcq,fun h=>absurd h (by decide)⟩⟩
    ·have he2:(e==0)=false:=by simpa using he
     simp only[a2w d l e he,he2,yan,yab];exact .inr ⟨_,e,he,rfl,rfl,hm2.short⟩
   ·have he2:(e==0)=false:=by simpa using he
    rw[m1,m2];simp only[he2,yaa,yan,yab];exact .inr ⟨d,e,he,rfl,rfl,hsd⟩
theorem c0e {c:Circ} (h:MidP c) {i:Nat} {x:Item} (hx:c.Items[i]?=some x):c2l (qcg (i:Int) ⟨c,0⟩) (qg3 c x.ID) (fun d=>MidP d∧Frame c d):=(a9w h hx).mono (fun _ h=>h.1)
end
section
theorem a3i {c:Circ} {i:Nat} {x:Item} (hx:c.Items[i]?=some x) (m:Move) (u:Custody):(u0 c i x m u).Items[i]?=some (y3 u x):=by
 show (c.Items.set i (y3 u x))[i]?=_
 rw[ybv (zL hx)]
theorem y7 {c:Circ} (h:MidP c) (item:Int):(a5e (fun x=>x.ID==item) c.Items = -1∧qt c item=some (-1)∧c.Items.find? (fun x=>x.ID==item)=none)∨
 ∃(i:Nat) (x:Item),a5e (fun x=>x.ID==item) c.Items=(i:Int)∧qt c item=some (i:Int)∧c.Items[i]?=some x∧x.ID=item∧c.Items.find? (fun x=>x.ID==item)=some x:=by
 rcases j6 (fun x:Item=>x.ID==item) c.Items with ⟨h1,h2⟩|⟨i,x,h1,h2,h3,h4⟩
 ·exact .inl ⟨h1,by rw[b5z h.short.items,h1],h2⟩
 ·exact .inr ⟨i,x,h1,by rw[b5z h.short.items,h1],h2,by simpa using h3,h4⟩
theorem c2a {c:Circ} (h:MidP c) {item branch:Int}:a80 (qct c item branch) (qf8 c item branch):=by
 unfold qct qf8;simp -zeta only[qae,a0u h.short];rcases y7 h item with ⟨h1,h2,-⟩|⟨i,x,h1,h2,hx,hid,-⟩
 ·rw[h1,h2];exact p9
 ·subst hid;have d0:decide ((0:Int)≤(i:Int))=true:=by rw[yad];omega
  rw[h1,h2];simp only[a09,d0,yab,yaa];rcases a1w h hx 1 branch 0 with ⟨u,ha,m1,m2,hm2⟩|⟨e,he,m1,m2⟩
  ·rw[m1,m2];simp only[yah,yaj,yaa];rcases c0e hm2 (a3i hx _ u) with ⟨d,q1,q2,hd,_⟩|⟨d,e,he,q1,q2,hsd⟩
   ·rw[q1,show qg3 _ x.ID=_ from q2];exact ⟨d,0,rfl,rfl,hd.short⟩
   ·rw[q1,show qg3 _ x.ID=_ from q2];simp only[o5 d e he];exact p9
  ·have he2:(e==0)=false:=by simpa using he
   rw[m1,m2];simp only[a4u c _ e he,o5 c e he,he2,yan,yab];exact p9
theorem a9x {c:Circ} (h:MidP c) {item:Int} {b:Bool}:a80 (qef c item b) (qf9 c item b):=by
 unfold qef qf9;simp -zeta only[qae,a0u h.short];rcases y7 h item with ⟨h1,h2,-⟩|⟨i,x,h1,h2,hx,hid,-⟩
 ·rw[h1,h2];exact p9
 ·subst hid;rw[h1,h2];simp only[a09,yab,yaa,c9,hx,a3b hx];cases b with
  |true=>
   simp only[yab];rcases a1w h hx 8 x.Custody.Branch 0 with ⟨u,ha,m1,m2,hm2⟩|⟨e,he,m1,m2⟩
   ·rw[m1,m2];exact ⟨_,0,rfl,rfl,hm2.short⟩
   ·rw[m1,m2];simp only[o5 c e he];exact p9
  |false=>
   simp only[yaa];rcases a1w h hx 9 x.Branch 0 with ⟨u,ha,m1,m2,hm2⟩|⟨e,he,m1,m2⟩
   ·rw[m1,m2];simp only[yah,yaj,yaa];rcases c0e hm2 (a3i hx _ u) with ⟨d,q1,q2,hd,_⟩|⟨d,e,he,q1,q2,hsd⟩
    ·rw[q1,show qg3 _ x.ID=_ from q2];exact ⟨d,0,rfl,rfl,hd.short⟩
    ·rw[q1,show qg3 _ x.ID=_ from q2];simp only[o5 d e he];exact p9
   ·have he2:(e==0)=false:=by simpa using he
    rw[m1,m2];simp only[a4u c _ e he,o5 c e he,he2,yan,yab];exact p9
end
section
theorem e2b {c d:Circ} (h:Frame c d):d.Items.length=c.Items.length:=by
 have:=congrArg List.length h.ids;simpa using this
theorem a88 (c:Circ) (record e:Int) (n i k:Nat) (he:e≠0) :
 m9 a4r (k+1) (record,(n:Int),(i:Int),⟨c,e⟩,())=some (.inl (⟨c,e⟩,()))∨m9 a4r (k+1) (record,(n:Int),(i:Int),⟨c,e⟩,())=some (.inr (⟨c,e⟩,())):=by
 have h:(e==0)=false:=by simpa using he
 simp only[m9,a4r];cases decide ((i:Int)<(n:Int)) with
 |false=>exact .inl rfl
 |true=>
  simp only[yab,h,yan];refine .inr ?_
  first|rfl|trivial
def e9f (r:Int) (c d:Circ):Prop:=d.Items.map (fun x=>x.Record)=c.Items.map (fun x=>x.Record)∧∀(j:Nat) (y:Item),c.Items[j]?=some y→¬y.Record=r→d.Items[j]?=some y
theorem e9f.refl (r:Int) (c:Circ):e9f r c c:=⟨rfl,fun _ _ h _=>h⟩
theorem e9f.trans {r:Int} {a b c:Circ} (h:e9f r a b) (k:e9f r b c):e9f r a c:=⟨k.1.trans h.1,fun j y hy hr=>k.2 j y (h.2 j y hy hr) hr⟩
theorem f44 {c d:Circ} {i:Nat} {x:Item} {record w:Int} (hx:c.Items[i]?=some x) (hp:Put c d i x) (hq:((x.Record==record&&x.Custody.State==3)&&!(w==0))=true):e9f record c d:=by
 obtain ⟨⟨u,hI⟩,-⟩:=hp;simp only[yae,ya2]at hq;refine ⟨by rw[hI];exact a1s hx rfl,fun j y hy hr=>?_⟩;rw[hI,List.getElem?_set];split
 ·rename_i e;subst e;rw[hx]at hy;cases hy
  exact absurd hq.1.1 hr
 ·exact hy
theorem d76 {record:Int} {n:Nat} {v:Circ} (hn:n<1000000000):∀(k i:Nat) (c:Circ),i+k=n→MidP c→c.Items.length=n→
 (∃d,m9 a4r (k+2) (record,(n:Int),(i:Int),⟨c,0⟩,())=some (.inl (⟨d,0⟩,()))∧m9 a5l (k+2) (record,(i:Int),c,v,())=some (.inl (d,v,()))∧MidP d∧Frame c d∧e9f record c d)∨
 (∃d e,e≠0∧Short d∧(m9 a4r (k+2) (record,(n:Int),(i:Int),⟨c,0⟩,())=some (.inl (⟨d,e⟩,()))∨m9 a4r (k+2) (record,(n:Int),(i:Int),⟨c,0⟩,())=some (.inr (⟨d,e⟩,())))∧
  m9 a5l (k+2) (record,(i:Int),c,v,())=some (.inr (e,o7,()))):=by
 intro k
 induction k with
 |zero=>
  intro i c hi h hl;have:i=n:=by omega
  subst this;refine .inl ⟨c,?_,?_,h,Frame.refl c,e9f.refl _ c⟩
  ·simp only[m9,a4r,dge,yaa]
  ·simp only[m9,a5l,hl,dge,yaa]
 |succ k ih=>
  intro i c hi h hl;have hlt:i<n:=by omega
  have hx:c.Items[i]?=some (c.Items[i]'(by omega)):=yac (by omega);generalize c.Items[i]'(by omega)=x at hx;obtain ⟨w,p1,p2,g1,g2⟩:=a8p h hx;have hsu:=g9 (show i<9223372036854775807 by omega);have s1:a4r (record,(n:Int),(i:Int),⟨c,0⟩,())=(bif (x.Record==record&&x.Custody.State==3)&&!(w==0) then (match qcg (i:Int) ⟨c,0⟩ with|some (_,v6)=>some (.inl (record,(n:Int),((i+1:Nat):Int),v6,()))|none=>none) else some (.inl (record,(n:Int),((i+1:Nat):Int),⟨c,0⟩,()))):=by
   simp -zeta only[a4r,dlt hlt,yab,yah,yaj,yaa,c9,hx,p1,o9,hsu]
   try rfl
  have s2:a5l (record,(i:Int),c,v,())=(bif (x.Record==record&&x.Custody.State==3)&&!(w==0) then (match qg3 c x.ID with|some (r5,r6)=>(bif !(r6==0) then some (.inr (.inr (r6,o7,()))) else some (.inl (record,((i+1:Nat):Int),r5,v,())))|none=>none) else some (.inl (record,((i+1:Nat):Int),c,v,()))):=by
   simp -zeta only[a5l,hl,dlt hlt,yab,c9,hx,p2,z6,hsu];dsimp only;cases x.Record==record<;>cases x.Custody.State==3<;>cases w==0<;>rfl
  rw[m9,m9,s1,s2];cases hq:(x.Record==record&&x.Custody.State==3)&&!(w==0) with
  |false=>
   simp only[yaa];exact ih (i+1) c (by omega) h hl
  |true=>
   simp only[yab];rcases a9w h hx with ⟨d,q1,q2,⟨hd,hf⟩,hput⟩|⟨d,e,he,q1,q2,hsd⟩
   ·rw[q1,q2];simp only[yah,yaj,yaa];rcases ih (i+1) d (by omega) hd (by rw[e2b hf,hl]) with ⟨d2,a1,a2,a3,a4,a5⟩|⟨d2,e,he,hsd,a1,a2⟩
    ·exact .inl ⟨d2,a1,a2,a3,hf.trans a4,(f44 hx hput hq).trans a5⟩
    ·exact .inr ⟨d2,e,he,hsd,a1,a2⟩
   ·have he2:(e==0)=false:=by simpa using he
    rw[q1,q2];simp only[he2,yan,yab];exact .inr ⟨d,e,he,hsd,a88 d record e n (i+1) (k+1) he,rfl⟩
theorem b6g {c:Circ} (h:MidP c) (record:Int):c2l (qat record ⟨c,0⟩) (qg1 c record) (fun d=>MidP d∧Frame c d∧e9f record c d):=by
 have hi:=h.short.items;unfold qat qg1;rcases d76 (record:=record) (v:=o7) hi c.Items.length 0 c (by omega) h rfl with ⟨d,a1,a2,a3,a4⟩|⟨d,e,he,hsd,a1,a2⟩
 ·have w1:=n5 _ (by rw[m5];omega) a1;have w2:=n5 _ (by rw[m5];omega) a2;rw[show b9 a4r (record,(c.Items.length:Int),0,⟨c,0⟩,())=_ from w1,show b9 a5l (record,0,c,ZN,())=_ from w2];exact .inl ⟨d,rfl,rfl,a3,a4⟩
 ·have w2:=n5 _ (by rw[m5];omega) a2;rw[show b9 a5l (record,0,c,ZN,())=_ from w2];rcases a1 with a1|a1
  ·have w1:=n5 _ (by rw[m5];omega) a1;rw[show b9 a4r (record,(c.Items.length:Int),0,⟨c,0⟩,())=_ from w1];exact .inr ⟨d,e,he,rfl,rfl,hsd⟩
  ·have w1:=n5 _ (by rw[m5];omega) a1;rw[show b9 a4r (record,(c.Items.length:Int),0,⟨c,0⟩,())=_ from w1];exact .inr ⟨d,e,he,rfl,rfl,hsd⟩
theorem a32 (c:Circ) (record e:Int) (he:e≠0):qat record ⟨c,e⟩=some ((),⟨c,e⟩):=by
 unfold qat;rcases a88 c record e c.Items.length 0 0 he with a1|a1
 ·have w1:=n5 _ (by rw[m5];omega) a1;rw[show b9 a4r (record,(c.Items.length:Int),0,⟨c,e⟩,())=_ from w1]
 ·have w1:=n5 _ (by rw[m5];omega) a1;rw[show b9 a4r (record,(c.Items.length:Int),0,⟨c,e⟩,())=_ from w1]
end
section
theorem c8q {l:List Hold} (h:t7 l=0) {o:Hold} (ho:o∈l):rng 0 9 o.Rank=true∧o.ID≠0:=by
 have:=a1k h ho;unfold s9 at this;have:=a0f this (by decide);simp only[yai,yaf]at this;obtain ⟨⟨hx,h1⟩,h2⟩:=this;refine ⟨by rw[w8];omega,?_⟩;have:=hx.1.1.1.1.1.1.1.1.1.1;omega
theorem e58 {c:Circ} (hs:Short c) {p:Int} {x:Item}:∃r b,qgz c p x=some (r,b)∧(b=true→r∈c.Rules)∧(b=false→r.Rank=0):=by
 unfold qgz;rw[a3j hs.patrons];dsimp only;cases (a2d c.Patrons p).2 with
 |false=>exact ⟨_,false,rfl,fun h=>(by cases h),fun _=>rfl⟩
 |true=>
  simp only[yaj,yaa];unfold qhi;rw[e5a hs.rules];dsimp only;rcases c28 (l:=c.Rules) (p:=(a2d c.Patrons p).1.Kind) (it:=x.Kind) (br:=x.Branch) with h|⟨k,hk,hlt⟩
  ·rw[show decide (d9e c.Rules (a2d c.Patrons p).1.Kind x.Kind x.Branch<0)=true by rw[yad];exact h];exact ⟨_,false,rfl,fun h=>(by cases h),fun _=>rfl⟩
  ·rw[hk,show decide ((k:Int)<0)=false by rw[yaf];omega];simp only[yaa,c9,yac hlt];exact ⟨_,true,rfl,fun _=>ybs hlt,fun h=>(by cases h)⟩
def a8a (l:List Hold) (h:Hold):List Hold×Int:=
 bif (!(h.State==1)||!(h.Got==0))||!(h.Until==0) then ([],12) else bif !(t7 (l++[h])==0) then ([],t7 (l++[h])) else (l++[h],0)
theorem h6f {l:List Hold} {h:Hold} (hl:l.length<100000000):qe1 l h=some (a8a l h):=by
 have l1:decide (l.length+([h]:List Hold).length≤LIM)=true:=a1q (by simp;omega);unfold qe1 a8a;simp -zeta only[b7v (show l.length<1000000000 by omega),l1,yab,h61 (show (l++[h]).length<1000000000 by simp;omega),z6];dsimp only;cases ((!(h.State==1)||!(h.Got==0))||!(h.Until==0)) with
 |true=>rfl
 |false=>
  simp only[yaa];cases !(t7 (l++[h])==0)<;>rfl
theorem f9i {l:List Hold} {h:Hold} (hl:l.length<100000000):qgs l h=some (a8a l h):=by
 have hw:=s8 (step:=c58) (fun (i:Nat) (s:List Hold)=>s.length≤i) (fun i s=>(l,(i:Int),h,s,())) l
  (fun i x s=>.inl (s++[x])) (fun s=>(h,s,())) (by rw[m5];omega)
  (fun s _=>by simp only[c58,dge,yaa])
  (fun i x s hx hi=>by
   have hlt:=(zL hx)
   have l1:∀z:Hold,decide (s.length+([z]:List Hold).length≤LIM)=true:=fun z=>a1q (by simp;omega)
   refine ⟨?_,fun s' hs'=>?_⟩
   ·simp only[c58,dlt hlt,c9,hx,yab,l1,g9 (show i<9223372036854775807 by omega)]
   ·cases hs'
    simp;omega) [] (by simp)
 rw[z7]at hw;have key:∀(l o:List Hold),l.foldl (fun s x=>s++[x]) o=o++l:=by
  intro l
  induction l with
  |nil=>intro o;simp
  |cons x l ih=>intro o;rw[ya9,ih];simp
 rw[key,ya1]at hw;have l1:decide (l.length+([h]:List Hold).length≤LIM)=true:=a1q (by simp;omega);unfold qgs a8a;rw[show b9 c58 (l,0,h,([]:List Hold),())=_ from hw];simp -zeta only[l1,yab,h62 (show (l++[h]).length<1000000000 by simp;omega),z6];dsimp only;cases ((!(h.State==1)||!(h.Got==0))||!(h.Until==0)) with
 |true=>rfl
 |false=>
  simp only[yaa];cases !(t7 (l++[h])==0)<;>rfl
def b6s (c:Circ) (n:Int):Circ:=⟨c.Today,c.Items,c.Patrons,c.Loans,c.Holds,c.Charges,c.Rules,c.Cals,c.Moves,n,c.NextCharge,c.Local⟩
theorem h5k {c:Circ} (h:MidP c) (n:Int):MidP (b6s c n):=by
 obtain ⟨⟨a1,a2,a3,a4,a5,a6,a7,a8,a9,a10,a11,a12,a13⟩,h2,h3,h4,h5,h6,h7,h8,h9,h10,h11⟩:=h;exact ⟨⟨a1,a2,a3,a4,a5,a6,a7,a8,a9,a10,a11,a12,a13⟩,h2,h3,h4,h5,h6,h7,h8,h9,h10,h11⟩
theorem d6y {c:Circ} (h:MidP c) {l:List Hold} (hl:l.length<1000000) (he:t7 l=0) (hf:∀r,(l.filter (fun o=>o.Record==r)).length<20):MidP (i7 c l):=by
 obtain ⟨h1,h2,h3,h4,h5,h6,h7,h8,h9,h10,h11⟩:=h;exact ⟨a3f h1 (by omega),h2,hl,a0a he,fun o ho=>c8q he ho,hf,h7,h8,h9,h10,h11⟩
def c3o (record item:Int) (x:Item):Bool:=(x.Record==record&&!(x.Custody.State==12))&&(item==0||x.ID==item)
theorem h56 (x:Item) (o:Hold):qc5 x o=some (c3o o.Record o.Item x):=by
 have e1:qcz x o.Record=some (x.Record==o.Record&&!(x.Custody.State==12)):=by
  unfold qcz;simp -zeta only[o9]
  try rfl
 have e2:qch o x=some (x.Record==o.Record&&(o.Item==0||x.ID==o.Item)):=by
  unfold qch;simp -zeta only[o9,z6];rw[BEq.comm (a:=o.Record),BEq.comm (a:=o.Item) (b:=x.ID)]
 unfold qc5 c3o;simp -zeta only[e1,e2,o9];dsimp only;cases x.Record==o.Record<;>cases !(x.Custody.State==12)<;>rfl
theorem f9f {c:Circ} {record item:Int} (hl:c.Items.length<1000000000):qge c record item=some (match c.Items.find? (c3o record item) with|some x=>(x,true)|none=>(a4q,false)):=by
 unfold qge;have h:=u6 (step:=c52) (fun i=>(record,item,(i:Int),c,a4q,())) c.Items (c3o record item) (fun _ x=>(.inr (true,x,()):(Item×Unit)⊕(Bool×Item×Unit))) (.inl (a4q,())) hl
  (by simp only[c52,dge,yaa])
  (fun i x hx=>by
   have hi:=(zL hx)
   simp -zeta only[c52,dlt hi,c9,hx,yab,o9,z6,g9 (show i<9223372036854775807 by omega)];rfl)
 rw[a3v]at h;rw[show b9 c52 (record,item,0,c,(⟨0,0,0,0,0,[],⟨0,0,0,0⟩⟩:Item),())=_ from h];cases c.Items.find? (c3o record item)<;>rfl
def b7e (c:Circ) (record:Int) (n:Loan):Bool:=match c.Items.find? (fun x=>x.ID==n.Item) with|some x=>x.Record==record|none=>false
theorem e5m {c:Circ} {f:Int} {o:Hold} {l:List Loan} (hs:Short c) (hl:l.length<1000000000):b9 c9o (f,l,(l.length:Int),0,c,o,a4q,()) =
 some (match l.find? (b7e c o.Record) with|some _=>.inr (12,a4q,())|none=>.inl (f,c,a4q,())):=by
 have h:=u6 (step:=c9o) (fun i=>(f,l,(l.length:Int),(i:Int),c,o,a4q,())) l (b7e c o.Record) (fun _ _=>(.inr (12,a4q,()):(Int×Circ×Item×Unit)⊕(Int×Item×Unit))) (.inl (f,c,a4q,())) hl
  (by simp only[c9o,dge,yaa])
  (fun i n hn=>by
   have hi:=(zL hn)
   simp -zeta only[c9o,dlt hi,c9,hn,yab,d63 hs.items,g9 (show i<9223372036854775807 by omega)];dsimp only;unfold b7e;rcases j6 (fun x:Item=>x.ID==n.Item) c.Items with ⟨h1,h2⟩|⟨j,x,h1,h2,h3,h4⟩
   ·rw[h1,h2]
    try rfl
   ·have d0:decide ((0:Int)≤(j:Int))=true:=by rw[yad];omega
    rw[h1,h4];simp only[d0,yab,c9,h2];cases x.Record==o.Record<;>rfl)
 rw[a3v]at h;refine Eq.trans h ?_;cases l.find? (b7e c o.Record)<;>rfl
theorem b5r {c v:Circ} {p record item pickup:Int} {y:Item} {l:List Loan} (hs:Short c) (hl:l.length<1000000000) (hk:∀n∈l,(c.Items.find? (fun x=>x.ID==n.Item)).isSome=true):b9 a9o (p,record,item,pickup,l,0,c,v,y,()) =
 some (match l.find? (b7e c record) with|some _=>.inr (0,12,o7,())|none=>.inl (p,record,item,pickup,c,v,y,())):=by
 have h:=u6 (step:=a9o) (fun i=>(p,record,item,pickup,l,(i:Int),c,v,y,())) l (b7e c record) (fun _ _=>(.inr (0,12,o7,()):(Int×Int×Int×Int×Circ×Circ×Item×Unit)⊕(Int×Int×Circ×Unit))) (.inl (p,record,item,pickup,c,v,y,())) hl
  (by simp only[a9o,dge,yaa])
  (fun i n hn=>by
   have hi:=(zL hn)
   have hsome:=hk n (yag hn);simp -zeta only[a9o,dlt hi,c9,hn,yab,b5z hs.items,g9 (show i<9223372036854775807 by omega)];unfold b7e;rcases j6 (fun x:Item=>x.ID==n.Item) c.Items with ⟨h1,h2⟩|⟨j,x,h1,h2,h3,h4⟩
   ·rw[h2]at hsome;cases hsome
   ·rw[h1,h4];simp only[c9,h2];cases x.Record==record<;>rfl)
 rw[a3v]at h;refine Eq.trans h ?_;cases l.find? (b7e c record)<;>rfl
theorem d5z {c:Circ} (m:MidP c) (h:FitP c) (hh:c.Holds.length<100000) (hf:∀r,(c.Holds.filter (fun o=>o.Record==r)).length<19) {vid record item pickup:Int}:a6g (qdy c vid record item pickup) (qg8 c vid record item pickup):=by
 have hs:=m.short;have hn:=m.holdsN;unfold qdy qg8 qu;have hI:=e4z (p:=fun (g:Unit×Hold×Unit) x0=>qc5 x0 g.2.1) (g:=((),((⟨c.NextHold,vid,record,item,pickup,c.Today,1,0,0,0,0⟩:Hold),()))) (c3o record item) hs.items (fun x _=>h56 x _);simp -zeta only[b9d hs.patrons,a3j hs.patrons,f9f hs.items,hI,z6,qae];cases hp:a2d c.Patrons vid with
 |mk p ok=>
  cases ok with
  |false=>exact o4
  |true=>
   have hpi:=(c1b hp).2;subst hpi;dsimp only;rcases j6 (c3o record item) c.Items with ⟨h1,h2⟩|⟨i,x,h1,hx,h3,h4⟩
   ·rw[h1,h2];exact o4
   ·rw[h1,h4];simp only[yaj,yaa,a09,Bool.or_self];cases hq:(decide (pickup<1)||decide (4<pickup)) with
    |true=>exact o4
    |false=>
     simp only[yaa,e43 hs h.charges,e46 hs h.charges,hp,g7q hs.loans,e5e hs.loans];cases decide (0<((a38 p c.Today (a8z p.ID c.Charges) (b7d p.ID c.Today c.Loans)).length:Int)) with
     |true=>exact o4
     |false=>
      simp only[yaa];have hll:(c.Loans.filter (fun x=>x.Patron==p.ID)).length<1000000000:=by have:=yax (fun x:Loan=>x.Patron==p.ID) c.Loans;have:=hs.loans;omega
      have r1:=e5m (c:=c) (f:=(i:Int)) (o:=(⟨c.NextHold,p.ID,record,item,pickup,c.Today,1,0,0,0,0⟩:Hold)) hs hll;have r2:=b5r (c:=c) (v:=o7) (p:=p.ID) (record:=record) (item:=item) (pickup:=pickup) (y:=x) hs hll (fun n hn=>by
       obtain ⟨x,p,hx,-⟩:=a43 h (yaz.1 hn).1;rw[hx];rfl)
      rw[show b9 c9o ((i:Int),c.Loans.filter (fun x=>x.Patron==p.ID),((c.Loans.filter (fun x=>x.Patron==p.ID)).length:Int),0,c,(⟨c.NextHold,p.ID,record,item,pickup,c.Today,1,0,0,0,0⟩:Hold),(⟨0,0,0,0,0,[],⟨0,0,0,0⟩⟩:Item),())=_ from r1];rw[show b9 a9o (p.ID,record,item,pickup,c.Loans.filter (fun x=>x.Patron==p.ID),0,c,ZN,x,())=_ from r2];cases (c.Loans.filter (fun x=>x.Patron==p.ID)).find? (b7e c record) with
      |some _=>exact o4
      |none=>
       simp only;cases decide (99999<c.NextHold) with
       |true=>exact o4
       |false=>
        obtain ⟨r,b,hr,-,hr0⟩:=e58 (p:=p.ID) (x:=x) hs;simp only[yaa,c9,hx,yah,yaj,b09 hs,hr];have core:a6g (match qe1 c.Holds (⟨c.NextHold,p.ID,record,item,pickup,c.Today,1,0,0,0,r.Rank⟩:Hold) with
         |some (r11,r12)=>(match qcb r11 r12 ⟨c,0⟩ with
          |some (_,v)=>(match qat record (⟨⟨v.c.Today,v.c.Items,v.c.Patrons,v.c.Loans,v.c.Holds,v.c.Charges,v.c.Rules,v.c.Cals,v.c.Moves,wr .i64 (v.c.NextHold+1),v.c.NextCharge,v.c.Local⟩,v.err⟩:Circ_desk) with
           |some (_,v15)=>(match qbf c.NextHold v15 with|some ((r17,r18,r19),v20)=>some (r17,r18,r19)|none=>none)
           |none=>none)
          |none=>none)
         |none=>none)
         (match qgs c.Holds (⟨c.NextHold,p.ID,record,item,pickup,c.Today,1,0,0,0,r.Rank⟩:Hold) with
         |some (r24,r25)=>(bif !(r25==0) then some (o7,0,r25) else match qg1 {c with Holds:=r24,NextHold:=wr .i64 (c.NextHold+1)} record with
          |some (r27,r28)=>(bif !(r28==0) then some (o7,0,r28) else some (r27,c.NextHold,0))
          |none=>none)
         |none=>none):=by
         rw[h6f (by omega),f9i (by omega)];have hpl:(a8a c.Holds (⟨c.NextHold,p.ID,record,item,pickup,c.Today,1,0,0,0,r.Rank⟩:Hold)).2=0→MidP (i7 c (a8a c.Holds (⟨c.NextHold,p.ID,record,item,pickup,c.Today,1,0,0,0,r.Rank⟩:Hold)).1):=by
          unfold a8a;simp only[yah,yaj,Bool.or_self,yaa];by_cases he:t7 (c.Holds++[(⟨c.NextHold,p.ID,record,item,pickup,c.Today,1,0,0,0,r.Rank⟩:Hold)])=0
          ·intro _;simp only[he,yah,yaj,yaa];refine d6y m (by simp;omega) he (fun k=>?_);rw[yb7,yaU];have:=hf k;have:=yax (fun o:Hold=>o.Record==k) [(⟨c.NextHold,p.ID,record,item,pickup,c.Today,1,0,0,0,r.Rank⟩:Hold)];simp only[List.length_singleton]at this;omega
          ·have he2:(t7 (c.Holds++[(⟨c.NextHold,p.ID,record,item,pickup,c.Today,1,0,0,0,r.Rank⟩:Hold)])==0)=false:=by simpa using he
           simp only[he2,yan,yab];intro hc;exact absurd hc he
         generalize a8a c.Holds (⟨c.NextHold,p.ID,record,item,pickup,c.Today,1,0,0,0,r.Rank⟩:Hold)=q at hpl;obtain ⟨l,e⟩:=q;simp only at hpl ⊢;by_cases he:e=0
         ·subst he;have m2:=h5k (hpl rfl) (wr .i64 (c.NextHold+1));simp only[a67,yah,yaj,yaa];rcases b6g m2 record with ⟨d,a1,a2,a3,-⟩|⟨d,e,he,a1,a2,hsd⟩
          ·dsimp only[b6s,i7]at a1 a2 ⊢;rw[a1,a2];exact ⟨d,c.NextHold,0,rfl,rfl,a3.short⟩
          ·have he2:(e==0)=false:=by simpa using he
           dsimp only[b6s,i7]at a1 a2 ⊢;rw[a1,a2];simp only[a5v d _ e he,he2,yan,yab];exact o4
         ·have he2:(e==0)=false:=by simpa using he
          simp only[a2w c l e he,a32 _ _ _ he,a5v _ _ e he,he2,yan,yab];exact o4
        cases b with
        |true=>exact core
        |false=>
         have:=hr0 rfl;rw[this]at core;rw[this];exact core
end
section
theorem a7c {l:List Hold}:(∀i x,l[i]?=some x→u7 l i (fun y=>decide (x.ID≤y.ID))=false)↔l.Pairwise (fun a b=>a.ID<b.ID):=by
 constructor
 ·intro h;rw[ybf];intro i j hi hj hij;exact a2k (key:=fun y:Hold=>y.ID) h j i l[i] l[j] hij (yac hi) (yac hj)
 ·intro h i x hx;cases i with
  |zero=>rfl
  |succ j=>
   unfold u7;simp only;have hi:=(yaM.1 hx)
   have hj:j<l.length:=by have:=hi.1;omega
   rw[yac hj];have:=(ybf.1 h) j (j+1) hj hi.1 (by omega);rw[hi.2]at this;simp only[yaf];omega
theorem b74 {c:Circ} (h:MidP c) (p:Hold→Bool):MidP (i7 c (c.Holds.filter p)):=by
 obtain ⟨h1,h2,h3,h4,h5,h6,h7,h8,h9,h10,h11⟩:=h;have hl:=yax p c.Holds;refine ⟨a3f h1 (by omega),h2,by show (c.Holds.filter p).length<_;omega,a7c.2 ((a7c.1 h4).filter p),fun o ho=>h5 o (yaz.1 ho).1,fun r=>?_,h7,h8,h9,h10,h11⟩;show ((c.Holds.filter p).filter _).length<20
 rw[ybL];have e:c.Holds.filter (fun a=>a.Record==r&&p a)=(c.Holds.filter (fun o=>o.Record==r)).filter p:=by
  rw[ybL];apply ybW;intro o _;exact Bool.and_comm _ _
 have h6r:=h6 r;rw[e];have:=yax p (c.Holds.filter (fun o=>o.Record==r));omega
theorem a9c {l:List Hold} (hsort:∀i x,l[i]?=some x→u7 l i (fun y=>decide (x.ID≤y.ID))=false) {o:Hold} (ho:o∈l):a1v l o.ID=(l.filter (fun x=>!(x.ID==o.ID)),o,0):=by
 have:=a5w hsort ho;unfold b2m at this;unfold a1v;cases hq:l.find? (fun h=>h.ID==o.ID) with
 |none=>rw[hq]at this;cases this
 |some x=>rw[hq]at this;cases this;rfl
theorem e2a {c d:Circ} (h:Frame c d) {i:Nat} {x:Item} (hx:c.Items[i]?=some x):∃y,d.Items[i]?=some y∧y.ID=x.ID∧y.Custody.Branch=x.Custody.Branch:=by
 have h1:(c.Items.map (fun x=>x.ID))[i]?=some x.ID:=by rw[yaJ,hx];rfl
 have h2:(c.Items.map (fun x=>x.Custody.Branch))[i]?=some x.Custody.Branch:=by rw[yaJ,hx];rfl
 rw[←h.ids,yaJ]at h1;rw[←h.br,yaJ]at h2;cases hy:d.Items[i]? with
 |none=>rw[hy]at h1;cases h1
 |some y=>rw[hy]at h1 h2;exact ⟨y,rfl,by simpa using h1,by simpa using h2⟩
def h8a (c d:Circ) (o:Hold):Prop:=∃b,b=i7 c (c.Holds.filter (fun x=>!(x.ID==o.ID)))∧Frame b d
def a54 (c:Circ):Prop:=∀o∈c.Holds,o.State=3→∃(i:Nat) (x:Item),c.Items[i]?=some x∧x.ID=o.Got∧x.Custody.Branch=o.Pickup
theorem b54 {c d:Circ} (h:a54 c) (hf:Frame c d) (hH:∀o∈d.Holds,o.State=3→o∈c.Holds∨∃(i:Nat) (x:Item),c.Items[i]?=some x∧x.ID=o.Got∧x.Custody.Branch=o.Pickup):a54 d:=by
 intro o ho hs;have:∃(i:Nat) (x:Item),c.Items[i]?=some x∧x.ID=o.Got∧x.Custody.Branch=o.Pickup:=by
  rcases hH o ho hs with h1|h1
  ·exact h o h1 hs
  ·exact h1
 obtain ⟨i,x,hx,h1,h2⟩:=this;obtain ⟨y,hy,h3,h4⟩:=e2a hf hx;exact ⟨i,y,hy,h3.trans h1,h4.trans h2⟩
theorem d9q {l m:List Hold} {v item st u:Int} (h:a2v l v item st u=(m,0)):∀o∈m,o∈l∨∃x∈l,x.ID=v∧o=c1c x item st u:=by
 unfold a2v at h;rcases j6 (fun x:Hold=>x.ID==v) l with ⟨h1,h2⟩|⟨i,x,h1,h2,h3,h4⟩
 ·rw[h2]at h;cases h
 ·rw[h4]at h;simp only at h;cases hq:(!(rng 1 9999 item)||!(okS st u)) with
  |true=>rw[hq]at h;cases h
  |false=>
   rw[hq]at h;simp only[yaa]at h;cases hq2:(!(x.State==1)&&((!(x.State==2)||!(x.Got==item))||!(st==3))) with
   |true=>rw[hq2]at h;cases h
   |false=>
    rw[hq2]at h;simp only[yaa]at h;cases hq3:l.any (fun o=>o.Got==item&&!(o.ID==v)) with
    |true=>rw[hq3]at h;cases h
    |false=>
     rw[hq3]at h;simp only[yaa,h1,yay,yaO,and_true]at h;subst h;intro o ho;rcases ybJ ho with ho|ho
     ·exact .inl ho
     ·exact .inr ⟨x,yag h2,by simpa using h3,ho⟩
theorem e5w {c d:Circ} {i:Nat} {x:Item} (hx:c.Items[i]?=some x) (hf:Frame c d) (hp:Put c d i x) (h:a54 c):a54 d:=by
 obtain ⟨-,v,-,hp⟩:=hp;refine b54 h hf (fun o ho hs=>?_);rcases hp with ⟨-,hp⟩|⟨st,u,hp,hk⟩
 ·rw[hp]at ho;exact .inl ho
 ·rcases d9q hp o ho with h1|⟨y,hy,hv,rfl⟩
  ·exact .inl h1
  ·exact .inr ⟨i,x,hx,rfl,(hk hs y hy hv).symm⟩
theorem b1t {c:Circ} (h:a54 c) (p:Hold→Bool):a54 (i7 c (c.Holds.filter p)):=fun o ho hs=>h o (yaz.1 ho).1 hs
theorem d1p {c:Circ} (h:MidP c) {o:Hold} (ho:o∈c.Holds) (hr:o.State=3→∃(i:Nat) (x:Item),c.Items[i]?=some x∧x.ID=o.Got∧x.Custody.Branch=o.Pickup) :
 c2l (qc6 o ⟨c,0⟩) (qgo c o.ID) (fun d=>MidP d∧h8a c d o∧(a54 c→a54 d)):=by
 have hn:=h.holdsN;have dd:=a7r (c:=c) (id:=o.ID) (by omega) h.sorted;have rc:=c54 (l:=c.Holds) (id:=o.ID) (by omega);rw[a9c h.sorted ho]at dd rc;simp only[yah,yab]at dd;unfold qc6 qgo;rw[rc];dsimp only;simp only[yah,yaj,yaa];rw[show {c with Holds:=c.Holds.filter (fun x=>!(x.ID==o.ID))}=i7 c (c.Holds.filter (fun x=>!(x.ID==o.ID))) from rfl];have mb:=b74 h (fun x=>!(x.ID==o.ID));by_cases hst:o.State=3
 ·have hst2:(o.State==3)=true:=by simpa using hst
  obtain ⟨i,x,hx,hid,hbr⟩:=hr hst;have hf:a5e (fun y=>y.ID==o.Got) c.Items=(i:Int):=by
   have:=a6t h hx;rw[b5z h.short.items,hid]at this;simpa using this
  simp only[hst2,yaj,yaa,a0u h.short,hf,a09,yah,a3b hx];rw[←hid,←hbr];rcases a1w h hx 2 x.Custody.Branch 0 with ⟨u,ha,m1,m2,hm2⟩|⟨e,he,m1,m2⟩
  ·rcases a1w mb hx 2 x.Custody.Branch 0 with ⟨u2,ha2,-,q2,hq2⟩|⟨e,he,q1,q2⟩
   ·have eu:u2=u:=by
     have:=ha2.symm.trans (show p8 x.Custody ⟨(i7 c (c.Holds.filter fun x=>!(x.ID==o.ID))).Today,x.ID,2,x.Custody.Branch,0⟩=_ from ha);cases this;rfl
    subst eu;rw[m1,show qgn _ x.ID 2 x.Custody.Branch 0=_ from q2];have dd2:=a7r (c:=u0 c i x ⟨c.Today,x.ID,2,x.Custody.Branch,0⟩ u2) (id:=o.ID) (by show c.Holds.length<_;omega) h.sorted;rw[show a1v (u0 c i x ⟨c.Today,x.ID,2,x.Custody.Branch,0⟩ u2).Holds o.ID=_ from a9c h.sorted ho]at dd2;simp only[yah,yab]at dd2;dsimp only;simp only[dd2,yah,yaj,yaa];rw[show i7 (u0 c i x ⟨c.Today,x.ID,2,x.Custody.Branch,0⟩ u2) (c.Holds.filter (fun x=>!(x.ID==o.ID)))=u0 (i7 c (c.Holds.filter (fun x=>!(x.ID==o.ID)))) i x ⟨(i7 c (c.Holds.filter (fun x=>!(x.ID==o.ID)))).Today,x.ID,2,x.Custody.Branch,0⟩ u2 from rfl];rcases a9w hq2 (a3i (c:=i7 c (c.Holds.filter fun x=>!(x.ID==o.ID))) hx ⟨(i7 c (c.Holds.filter fun x=>!(x.ID==o.ID))).Today,x.ID,2,x.Custody.Branch,0⟩ u2) with ⟨d,a1,a2,⟨hd,hfr⟩,hput⟩|⟨d,e,he,a1,a2,hsd⟩
    ·rw[a1,show qg3 _ x.ID=_ from a2];have hfm:=a9i (c:=i7 c (c.Holds.filter fun x=>!(x.ID==o.ID))) hx ⟨(i7 c (c.Holds.filter fun x=>!(x.ID==o.ID))).Today,x.ID,2,x.Custody.Branch,0⟩ (a9b ha2 rfl);exact .inl ⟨d,rfl,rfl,hd,⟨_,rfl,hfm.trans hfr⟩,fun hr=>e5w (a3i (c:=i7 c (c.Holds.filter fun x=>!(x.ID==o.ID))) hx ⟨(i7 c (c.Holds.filter fun x=>!(x.ID==o.ID))).Today,x.ID,2,x.Custody.Branch,0⟩ u2) hfr hput (b54 (b1t hr _) hfm (fun o ho _=>.inl ho))⟩
    ·rw[a1,show qg3 _ x.ID=_ from a2];exact .inr ⟨d,e,he,rfl,rfl,hsd⟩
   ·exfalso;have dm1:=a4d (kind:=2) (branch:=x.Custody.Branch) (who:=0) h.short (by have:=h.moves;omega) hx;have dm2:=a4d (c:=i7 c (c.Holds.filter fun x=>!(x.ID==o.ID))) (kind:=2) (branch:=x.Custody.Branch) (who:=0) mb.short (by have:=h.moves;show c.Moves.length<_;omega) hx;rw[m1]at dm1;rw[q1]at dm2;cases hE:a6u c (p8 x.Custody ⟨c.Today,x.ID,2,x.Custody.Branch,0⟩).2==0 with
    |true=>
     rw[show a6u (i7 c (c.Holds.filter fun x=>!(x.ID==o.ID))) (p8 x.Custody ⟨(i7 c (c.Holds.filter fun x=>!(x.ID==o.ID))).Today,x.ID,2,x.Custody.Branch,0⟩).2=a6u c (p8 x.Custody ⟨c.Today,x.ID,2,x.Custody.Branch,0⟩).2 from rfl,hE]at dm2;simp only[yab,yal,yaO,Circ_desk.mk.injEq]at dm2;exact he dm2.2.2
    |false=>
     rw[hE]at dm1;simp only[yaa,yal,yaO,Circ_desk.mk.injEq]at dm1;have:(a6u c (p8 x.Custody ⟨c.Today,x.ID,2,x.Custody.Branch,0⟩).2==0)=true:=by rw[←dm1.2.2];rfl
     rw[hE]at this;cases this
  ·have he2:(e==0)=false:=by simpa using he
   have rm2:=c57 (c:=i7 c (c.Holds.filter fun x=>!(x.ID==o.ID))) (kind:=2) (branch:=x.Custody.Branch) (who:=0) mb.short (by have:=h.moves;show c.Moves.length<_;omega) (a6t mb hx) hx rfl;have rm1:=c57 (kind:=2) (branch:=x.Custody.Branch) (who:=0) h.short (by have:=h.moves;omega) (a6t h hx) hx rfl;rw[m2]at rm1;have e2:qgn (i7 c (c.Holds.filter fun x=>!(x.ID==o.ID))) x.ID 2 x.Custody.Branch 0=some (o7,e):=by
    rw[rm2];cases hE:a6u c (p8 x.Custody ⟨c.Today,x.ID,2,x.Custody.Branch,0⟩).2==0 with
    |true=>
     rw[hE]at rm1;simp only[yab,yal,yaO]at rm1;exact absurd rm1.2 he
    |false=>
     rw[hE]at rm1;simp only[yaa,yal,yaO]at rm1;rw[show a6u (i7 c (c.Holds.filter fun x=>!(x.ID==o.ID))) (p8 x.Custody ⟨(i7 c (c.Holds.filter fun x=>!(x.ID==o.ID))).Today,x.ID,2,x.Custody.Branch,0⟩).2=a6u c (p8 x.Custody ⟨c.Today,x.ID,2,x.Custody.Branch,0⟩).2 from rfl,hE];simp only[yaa];rw[←rm1.2]
   rw[m1,show qgn _ x.ID 2 x.Custody.Branch 0=_ from e2];simp only[a4v _ _ _ he,a4u _ _ _ he,he2,yan,yab];exact .inr ⟨c,e,he,rfl,rfl,h.short⟩
 ·have hst2:(o.State==3)=false:=by simpa using hst
  simp only[hst2,yan,yab,dd];exact .inl ⟨_,rfl,rfl,mb,⟨_,rfl,Frame.refl _⟩,fun hr=>b1t hr _⟩
theorem b78 {c:Circ} (h:FitP c) {o:Hold} (ho:o∈c.Holds) (hst:o.State=3):∃(i:Nat) (x:Item),c.Items[i]?=some x∧x.ID=o.Got∧x.Custody.Branch=o.Pickup:=by
 have hg:=h.holdG o ho;unfold a2z at hg;have h1:(o.State==1)=false:=by rw[hst];rfl
 have h3:(o.State==3)=true:=by rw[hst];rfl
 rw[h1,h3]at hg;simp only[yae,ybc]at hg;rcases j6 (fun x:Item=>x.ID==o.Got) c.Items with ⟨q1,q2⟩|⟨i,x,q1,q2,q3,q4⟩
 ·rw[q2]at hg;cases hg.2
 ·rw[q4]at hg;simp only[yaT,yae,yao,yai,yau,ya2]at hg;exact ⟨i,x,q2,by simpa using q3,hg.2.1.2.1.2⟩
theorem c3e {c:Circ} (m:MidP c) (h:FitP c) {id:Int}:a80 (qfm c id) (qgg c id):=by
 have hn:=m.holdsN;unfold qfm qgg;simp only[b5k m.short.holds,qae];cases hq:c.Holds.find? (fun o=>o.ID==id) with
 |none=>
  have e1:b2m c.Holds id=(a85,false):=by unfold b2m;rw[hq]
  have e2:qgo c id=some (o7,9):=by
   unfold qgo;rw[c54 (by omega)];unfold a1v;rw[hq]
   try rfl
  rw[e1,e2];exact p9
 |some o=>
  have ho:=yaG hq;have hid:o.ID=id:=by have:=ya4 hq;simpa using this
  have e1:b2m c.Holds id=(o,true):=by unfold b2m;rw[hq]
  rw[e1];simp only[yaj,yaa];subst hid;rcases d1p m ho (b78 h ho) with ⟨d,a1,a2,a3,-⟩|⟨d,e,he,a1,a2,hsd⟩
  ·rw[a1,a2];exact ⟨d,0,rfl,rfl,a3.short⟩
  ·rw[a1,a2];simp only[o5 d e he];exact p9
end
section
def c2t (l:List Charge) (c:Charge):List Charge×Int:=bif !(s7 (l++[c])==0) then ([],s7 (l++[c])) else (l++[c],0)
theorem h6d {l:List Charge} {c:Charge} (hl:l.length<1000000):qdk l c=some (c2t l c):=by
 have l1:decide (l.length+([c]:List Charge).length≤LIM)=true:=a1q (by simp;omega);have l0:decide (l.length≤LIM)=true:=by rw[yad];unfold LIM;omega
 unfold qdk c2t;simp only[l0,l1,yab,f8s (show (l++[c]).length<1000000000 by simp;omega)];cases !(s7 (l++[c])==0)<;>rfl
theorem d5v {X:Type}:∀(l o:List X),l.foldl (fun s x=>s++[x]) o=o++l:=by
 intro l
 induction l with
 |nil=>intro o;simp
 |cons x l ih=>intro o;rw[ya9,ih];simp
theorem h60 {l:List Charge} {c:Charge} (hl:l.length<1000000):qhr l c=some (c2t l c):=by
 have hw:=s8 (step:=c6h) (fun (i:Nat) (s:List Charge)=>s.length≤i) (fun i s=>(l,(i:Int),c,s,())) l
  (fun i x s=>.inl (s++[x])) (fun s=>(c,s,())) (by rw[m5];omega)
  (fun s _=>by simp only[c6h,dge,yaa])
  (fun i x s hx hi=>by
   have hlt:=(zL hx)
   have l1:∀z:Charge,decide (s.length+([z]:List Charge).length≤LIM)=true:=fun z=>a1q (by simp;omega)
   refine ⟨?_,fun s' hs'=>?_⟩
   ·simp only[c6h,dlt hlt,c9,hx,yab,l1,g9 (show i<9223372036854775807 by omega)]
   ·cases hs'
    simp;omega) [] (by simp)
 rw[z7,d5v,ya1]at hw;have l1:decide (l.length+([c]:List Charge).length≤LIM)=true:=a1q (by simp;omega);unfold qhr c2t;rw[show b9 c6h (l,0,c,([]:List Charge),())=_ from hw];simp only[l1,yab,f8k (show (l++[c]).length<1000000000 by simp;omega)];cases !(s7 (l++[c])==0)<;>rfl
def a5p (c:Circ) (l:List Charge) (n:Int):Circ:=⟨c.Today,c.Items,c.Patrons,c.Loans,c.Holds,l,c.Rules,c.Cals,c.Moves,c.NextHold,n,c.Local⟩
theorem c3n {c:Circ} (h:MidP c) {l:List Charge} (hl:l.length<1000000) (n:Int):MidP (a5p c l n):=by
 obtain ⟨⟨a1,a2,a3,a4,a5,a6,a7,a8,a9,a10,a11,a12,a13⟩,h2,h3,h4,h5,h6,h7,h8,h9,h10,h11⟩:=h;exact ⟨⟨a1,a2,a3,a4,by show l.length<_;omega,a6,a7,a8,a9,a10,a11,a12,a13⟩,h2,h3,h4,h5,h6,h7,h8,h9,h10,hl⟩
theorem e9y {l:List Charge} {x:Charge} (h:(c2t l x).2=0):(c2t l x).1=l++[x]∧s7 (l++[x])=0:=by
 unfold c2t at h ⊢;by_cases he:s7 (l++[x])=0
 ·simp only[he,yah,yaj,yaa,and_self]
 ·have he2:(s7 (l++[x])==0)=false:=by simpa using he
  rw[he2]at h;exact absurd h he
theorem b0v {c:Circ} (h:MidP c) (vid item kind amount:Int):c2l (qep vid item kind amount ⟨c,0⟩) (qf6 c vid item kind amount)
 (fun d=>d=a5p c (c.Charges++[⟨c.NextCharge,vid,item,c.Today,kind,amount,0⟩]) (wr .i64 (c.NextCharge+1))∧s7 (c.Charges++[⟨c.NextCharge,vid,item,c.Today,kind,amount,0⟩])=0∧c.NextCharge≤99999):=by
 unfold qep qf6;simp only[yah,yaj,yaa,h6d h.chN,h60 h.chN];cases hq:decide (99999<c.NextCharge) with
 |true=>exact .inr ⟨c,13,by decide,rfl,rfl,h.short⟩
 |false=>
  have hq:¬99999<c.NextCharge:=by simpa using hq
  simp only[yaa];have ho:=e9y (l:=c.Charges) (x:=⟨c.NextCharge,vid,item,c.Today,kind,amount,0⟩);generalize c2t c.Charges ⟨c.NextCharge,vid,item,c.Today,kind,amount,0⟩=q at ho ⊢;obtain ⟨l,e⟩:=q;by_cases he:e=0
  ·subst he;have:=ho rfl;exact .inl ⟨a5p c l (wr .i64 (c.NextCharge+1)),rfl,rfl,by rw[←this.1],this.2,by omega⟩
  ·have he2:(e==0)=false:=by simpa using he
   simp only[he2,yan,yab];exact .inr ⟨c,e,he,by simp only[qp,yah,yab],rfl,h.short⟩
theorem b3z (c:Circ) (vid item kind amount e0:Int) (h0:e0≠0):qep vid item kind amount ⟨c,e0⟩=some ((),⟨c,e0⟩):=by
 have h:(e0==0)=false:=by simpa using h0
 unfold qep;simp only[h,yan,yab]
theorem a9d {l:List Charge} (h:s7 l=0):l.length<1000000:=by have:=(a6m h).1;omega
theorem c7w {c:Circ} (h:MidP c) {item:Int}:a80 (qfp c item) (qgq c item):=by
 unfold qfp qgq;simp -zeta only[qae,a0u h.short];rcases y7 h item with ⟨h1,h2,-⟩|⟨i,x,h1,h2,hx,hid,-⟩
 ·rw[h1,h2];simp only[a4i,yab,a66 c _ _ 9 (by decide),o5 c 9 (by decide)];exact p9
 ·subst hid;rw[h1,h2];simp only[a09,yaa,a3b hx,c9,hx];rcases a1w h hx 11 x.Custody.Branch 0 with ⟨u,ha,m1,m2,hm2⟩|⟨e,he,m1,m2⟩
  ·rw[m1,m2];exact ⟨_,0,rfl,rfl,hm2.short⟩
  ·rw[m1,m2];simp only[o5 c e he];exact p9
def b13 (l:List Hold) (item:Int):List Hold×Int:=
 match l.find? (fun h=>h.Got==item) with
 |none=>([],9)
 |some x=>bif item==0 then ([],9) else (l.set (a5e (fun h=>h.Got==item) l).toNat (c1c x 0 1 0),0)
theorem h58 {l:List Hold} {item:Int} (hl:l.length<1000000000):qce l item=some (b13 l item):=by
 unfold qce b13;rw[b49 (p:=fun (g:Unit×Int×Unit) x0=>qei x0 g.2.1) (g:=((),(item,()))) (fun x=>x.Got==item) hl (fun x _=>rfl)];rcases j6 (fun x:Hold=>x.Got==item) l with ⟨h1,h2⟩|⟨i,x,h1,h2,h3,h4⟩
 ·rw[h1,h2];rfl
 ·rw[h1,h4];simp only[a09,yaa,yay,c9,h2,f83 hl h2];cases item==0<;>rfl
theorem f9k {l:List Hold} {item:Int} (hl:l.length<1000000000) (hsort:∀i x,l[i]?=some x→u7 l i (fun y=>decide (x.ID≤y.ID))=false):qhc l item=some (b13 l item):=by
 unfold qhc b13;have h:=u6 (step:=c6c) (fun i=>(l,item,(i:Int),())) l (fun x=>!(item==0)&&x.Got==item) (fun i x=>(.inr (l.set i (c1c x 0 1 0),0,()):Unit⊕(List Hold×Int×Unit))) (.inl ()) hl
  (by simp only[c6c,dge,yaa])
  (fun i x hx=>by
   have hi:=(zL hx)
   have hw:=e5b (l:=l) (y:=c1c x 0 1 0) hl;rw[a8n hsort hx (y:=c1c x 0 1 0) rfl]at hw;simp -zeta only[c6c,dlt hi,c9,hx,yab,o9,g9 (show i<9223372036854775807 by omega)];rw[show qha l (⟨x.ID,x.Patron,x.Record,x.Item,x.Pickup,x.Placed,1,0,0,x.Asleep,x.Rank⟩:Hold)=_ from hw])
 rw[show b9 c6c (l,item,0,())=_ from h];have key:∀(p:Hold→Bool) (m:List Hold) (k:Nat),a4f p (fun i x=>(.inr (l.set i (c1c x 0 1 0),0,()):Unit⊕(List Hold×Int×Unit))) (.inl ()) k m =
  (match m.find? p with|some x=>.inr (l.set (k+(a5e p m).toNat) (c1c x 0 1 0),0,())|none=>.inl ()):=by
  intro p m
  induction m with
  |nil=>intro k;rfl
  |cons x m ih=>
   intro k;simp only[a4f,yb8];cases hp:p x with
   |true=>
    have:a5e p (x::m)=0:=by unfold a5e;simp[ybr,hp]
    simp[this]
   |false=>
    simp only[yaa,ih];rcases j6 p m with ⟨a1,a2⟩|⟨i,y,a1,a2,a3,a4⟩
    ·rw[a2]
    ·have e2:a5e p (x::m)=((i+1:Nat):Int):=by
      unfold a5e at a1 ⊢;simp only[ybr,hp];cases hf:m.findIdx? p with
      |none=>rw[hf]at a1;simp at a1<;>omega
      |some j=>rw[hf]at a1;simp at a1 ⊢;omega
     rw[a4,a1,e2];simp only[yay];rw[show k+1+i=k+(i+1) by omega]
 rw[key];cases h0:item==0 with
 |true=>
  have e:(fun x:Hold=>!true&&x.Got==item)=fun _=>false:=by funext x;rfl
  rw[e];have:l.find? (fun _:Hold=>false)=none:=by rw[ybj];simp
  rw[this];cases l.find? (fun h=>h.Got==item)<;>rfl
 |false=>
  have e:(fun x:Hold=>!false&&x.Got==item)=fun x=>x.Got==item:=by funext x;rfl
  rw[e,yaF];cases l.find? (fun h=>h.Got==item)<;>rfl
theorem c3w {l:List Hold} {item:Int} (h:(b13 l item).2=0):(b13 l item).1.map a1j=l.map a1j:=by
 unfold b13 at h ⊢;rcases j6 (fun x:Hold=>x.Got==item) l with ⟨h1,h2⟩|⟨i,x,h1,h2,h3,h4⟩
 ·rw[h2]at h;cases h
 ·rw[h4]at h ⊢;simp only at h ⊢;cases hq:item==0 with
  |true=>rw[hq]at h;cases h
  |false=>
   simp only[yaa,h1,yay];exact a1s h2 rfl
theorem b64 (c:Circ) (l:List Hold) (e e0:Int) (h0:e0≠0):qcb l e ⟨c,e0⟩=some ((),⟨i7 c c.Holds,e0⟩):=by
 have h:(e0==0)=false:=by simpa using h0
 unfold qcb qp;simp only[h,yaa];cases !(e==0)<;>simp only[yab,yaa,h]<;>rfl
theorem d6n {c:Circ} (h:MidP c) {item:Int}:a80 (qfs c item) (qg5 c item):=by
 unfold qfs qg5;simp -zeta only[qae,a0u h.short,z6];rcases y7 h item with ⟨h1,h2,-⟩|⟨i,x,h1,h2,hx,hid,-⟩
 ·rw[h1,h2];exact p9
 ·subst hid;rw[h1,h2];simp -zeta only[a09,yaa,a3b hx,c9,hx];dsimp only;cases (x.Custody.State==4||x.Custody.State==9) with
  |true=>
   simp only[yab];rcases a1w h hx 12 x.Custody.Branch 0 with ⟨u,ha,m1,m2,hm2⟩|⟨e,he,m1,m2⟩
   ·rw[m1,m2];simp only[yah,yaj,yaa];cases x.Price==0 with
    |true=>exact ⟨_,0,rfl,rfl,hm2.short⟩
    |false=>
     simp only[yan,yab,yaa];rcases b0v hm2 x.Custody.Who x.ID 2 x.Price with ⟨d,q1,q2,hd,hd2,-⟩|⟨d,e,he,q1,q2,hsd⟩
     ·rw[q1,q2];exact ⟨d,0,rfl,rfl,by rw[hd];exact (c3n hm2 (a9d hd2) _).short⟩
     ·rw[q1,q2];simp only[o5 d e he];exact p9
   ·have he2:(e==0)=false:=by simpa using he
    rw[m1,m2];simp only[b3z _ _ _ _ _ _ he,o5 c e he,he2,yan,yab];cases !(x.Price==0)<;>exact p9
  |false=>
   simp only[yaa,a87 h.short.holds,h58 h.short.holds];rcases a1w h hx 13 x.Custody.Branch 0 with ⟨u,ha,m1,m2,hm2⟩|⟨e,he,m1,m2⟩
   ·rw[m1,m2];simp only[yah,yaj,yaa,b0k hm2.short.holds];rw[show p7 (u0 c i x ⟨c.Today,x.ID,13,x.Custody.Branch,0⟩ u) x.ID=p7 c x.ID from rfl];have hk:=c3w (l:=c.Holds) (item:=x.ID);have rd:=f9k (item:=x.ID) hm2.short.holds hm2.sorted;generalize hc2:u0 c i x ⟨c.Today,x.ID,13,x.Custody.Branch,0⟩ u=c2 at hm2 rd ⊢;have hH:c2.Holds=c.Holds:=by rw[←hc2];rfl
    rw[hH]at rd;simp only[hH,rd];cases (p7 c x.ID).2 with
    |false=>exact ⟨c2,0,rfl,rfl,hm2.short⟩
    |true=>
     simp only[yab,yaj,yaa];generalize b13 c.Holds x.ID=q at hk ⊢;obtain ⟨l,e⟩:=q;by_cases he:e=0
     ·subst he;have hm3:=b0c hm2 (l:=l) (by rw[hH];exact hk rfl);simp only[a67,yah,yaj,yaa];rcases b6g hm3 x.Record with ⟨d,a1,a2,a3,-⟩|⟨d,e,he,a1,a2,hsd⟩
      ·dsimp only[i7]at a1 a2 ⊢;rw[a1,a2];exact ⟨d,0,rfl,rfl,a3.short⟩
      ·dsimp only[i7]at a1 a2 ⊢;rw[a1,a2];simp only[o5 d e he];exact p9
     ·have he2:(e==0)=false:=by simpa using he
      simp only[a2w c2 l e he,a32 _ _ _ he,o5 _ e he,he2,yan,yab];exact p9
   ·have he2:(e==0)=false:=by simpa using he
    rw[m1,m2];simp only[o5 c e he,he2,yan,yab];cases (p7 c x.ID).2 with
    |true=>
     simp only[yab];generalize b13 c.Holds x.ID=q;obtain ⟨l,e2⟩:=q;simp only[b64 _ _ _ _ he,a32 _ _ _ he,o5 _ e he];exact p9
    |false=>exact p9
end
section
def a5q (l:List Loan) (item:Int):List Loan×Loan×Int:=
 match l.find? (fun n=>n.Item==item) with
 |some n=>(l.take (a5e (fun n=>n.Item==item) l).toNat++l.drop ((a5e (fun n=>n.Item==item) l).toNat+1),n,0)
 |none=>([],a86,9)
theorem f86 {l:List Loan} {item:Int} (hl:l.length<100000000):qdx l item=some (a5q l item):=by
 have hl2:l.length<1000000000:=by omega
 unfold qdx a5q qaa;dsimp only;rw[a4z hl2];rcases j6 (fun x:Loan=>x.Item==item) l with ⟨h1,h2⟩|⟨i,x,h1,h2,h3,h4⟩
 ·rw[h2];rfl
 ·have hlt:=(zL h2)
  have hc:qdn l=some l:=by unfold qdn;rw[a4s hl2];rfl
  have hd:qd7 l (i:Int) ((i+1:Nat):Int)=some (l.take i++l.drop (i+1)):=by
   show a7p l (i:Int) ((i+1:Nat):Int)=_
   unfold a7p;have d1:decide ((0:Int)≤(i:Int))=true:=by rw[yad];omega
   have d2:decide ((i:Int)≤((i+1:Nat):Int))=true:=by rw[yad];omega
   have d3:decide (((i+1:Nat):Int)≤(l.length:Int))=true:=by rw[yad];omega
   have d4:decide (l.length≤1073741824)=true:=by rw[yad];omega
   simp only[d1,d2,d3,d4,ybO,yab,yay]
  rw[h4,h1];unfold qff;simp only[a09,yaa,hc,g9 (show i<9223372036854775807 by omega),hd,yay]
theorem d32 {l:List Loan} {item:Int} (hl:l.length<100000000):qhe l item=some (a5q l item):=by
 have hl2:l.length<1000000000:=by omega
 unfold qhe a5q;rw[c5x hl2];rcases j6 (fun x:Loan=>x.Item==item) l with ⟨h1,h2⟩|⟨i,x,h1,h2,h3,h4⟩
 ·rw[h1,h2];rfl
 ·have hlt:=(zL h2)
  have d1:decide ((0:Int)≤(i:Int))=true:=by rw[yad];omega
  have d2:decide ((i:Int)≤(l.length:Int))=true:=by rw[yad];omega
  have d3:decide (((i+1:Nat):Int)≤(l.length:Int))=true:=by rw[yad];omega
  have d4:decide ((0:Int)≤((i+1:Nat):Int))=true:=by rw[yad];omega
  have d5:decide ((0:Int)≤0)=true:=rfl;have d6:decide ((l.length:Int)≤(l.length:Int))=true:=by simp
  have t0:((l.take i).drop (0:Int).toNat)=l.take i:=by simp
  have t1:(l.take (l.length:Int).toNat)=l:=by simp
  have l1:decide (([]:List Loan).length+(l.take i).length≤LIM)=true:=a1q (by rw[yaS];simp;omega);have l2:decide (([]++l.take i).length+(l.drop (i+1)).length≤LIM)=true:=a1q (by rw[ya1,yaS,ya8];omega);rw[h1,h4];simp only[a09,yaa,d1,d2,d3,d4,d5,d6,ybO,yab,g9 (show i<9223372036854775807 by omega),yay,t0,t1,l1,l2,c9,h2,ya1,List.take_length];have l3:decide ((l.take i).length+(l.drop (i+1)).length≤LIM)=true:=a1q (by rw[yaS,ya8];omega);rw[l3]
  try rfl
theorem d01 {l:List Loan} {item:Int} (hl:l.length<1000000000):(a5q l item).1.length<1000000000:=by
 unfold a5q;cases l.find? (fun n=>n.Item==item) with
 |none=>simp
 |some n=>
  simp only[yaU,yaS,ya8];omega
theorem b4f {c:Circ} (h:MidP c) {l:List Loan} (hl:l.length<1000000000):MidP (i4 c l):=by
 obtain ⟨⟨a1,a2,a3,a4,a5,a6,a7,a8,a9,a10,a11,a12,a13⟩,h2,h3,h4,h5,h6,h7,h8,h9,h10,h11⟩:=h;exact ⟨⟨a1,a2,hl,a4,a5,a6,a7,a8,a9,a10,a11,a12,a13⟩,h2,h3,h4,h5,h6,h7,h8,h9,h10,h11⟩
def b63 (y:Item) (record:Int):Bool:=y.Record==record&&!(y.Custody.State==12)
theorem f82 (y:Item) (record:Int):qcz y record=some (b63 y record):=by
 unfold qcz b63;simp -zeta only[o9]
 try rfl
def b8s (c:Circ) (x:Item):Bool:=c.Items.any (fun y=>!(y.ID==x.ID)&&b63 y x.Record)
def c5s (c:Circ) (x:Item) (o:Hold):Bool:=o.Item==x.ID||(b63 x x.Record&&!(b8s c x)&&o.Record==x.Record)
theorem h5t {c:Circ} {x:Item} (hs:Short c):qah c x=some (c.Holds.any (c5s c x)):=by
 unfold qah;rw[g70 (p:=fun (g:Unit×Item×Unit) x0=>qdc x0 g.2.1) (g:=((),(x,()))) (fun y=>!(y.ID==x.ID)&&b63 y x.Record) hs.items (fun y _=>by
  unfold qdc;simp -zeta only[f82,o9];rfl)]
 simp -zeta only[f82,o9];dsimp only;rw[c9a (p:=fun (g:Unit×Item×Bool×Unit) x0=>qcr x0 g.2.1 g.2.2.1) (g:=((),(x,(b63 x x.Record&&!(c.Items.any (fun y=>!(y.ID==x.ID)&&b63 y x.Record))),()))) (c5s c x) hs.holds (fun o _=>by
  unfold qcr c5s b8s;simp -zeta only[z6,o9];rfl)]
theorem e17 {X:Type} (q:X→Bool):∀(l:List X) (b:Bool),l.foldl (fun s x=>s||q x) b=(b||l.any q):=by
 intro l
 induction l with
 |nil=>intro b;simp
 |cons x l ih=>intro b;rw[ya9,ih,List.any_cons,ybC]
theorem b9g {c v:Circ} (h:MidP c) {i:Nat} {x:Item} (hx:c.Items[i]?=some x):b9 b5o (x.ID,(i:Int),false,0,c,v,x,())=some (x.ID,b8s c x,c,v,x,()):=by
 have hs:=h.short.items;have hw:=a7e (step:=b5o) (fun (k:Nat) (s:Bool)=>(x.ID,(i:Int),s,(k:Int),c,v,x,())) c.Items (fun y s=>s||(!(y.ID==x.ID)&&b63 y x.Record)) (fun s=>(x.ID,s,c,v,x,())) hs
  (fun s=>by simp only[b5o,dge,yaa])
  (fun k y s hy=>by
   have hlt:=(zL hy)
   have e:((k:Int)==(i:Int))=(y.ID==x.ID):=by
    rw[ybo];simp only[ya2];constructor
    ·intro hk;have:k=i:=by omega
     subst this;rw[hx]at hy;cases hy;rfl
    ·intro hk;rw[h.ids k y i x hy hx hk]
   simp -zeta only[b5o,dlt hlt,c9,hy,yab,z6,o9,e,g9 (show k<9223372036854775807 by omega)];dsimp only;unfold b63;cases s<;>cases y.ID==x.ID<;>cases y.Record==x.Record<;>rfl) false
 rw[e17,ybc]at hw;exact hw
theorem b5n {c v:Circ} {x:Item} {b:Bool} (hl:c.Holds.length<1000000000):b9 b5m (x.ID,b,0,c,v,x,()) =
 some (match c.Holds.find? (fun o=>o.Item==x.ID||(o.Record==x.Record&&!b&&!(x.Custody.State==12))) with|some _=>.inr (10,o7,())|none=>.inl (x.ID,c,v,x,())):=by
 have hw:=u6 (step:=b5m) (fun k=>(x.ID,b,(k:Int),c,v,x,())) c.Holds (fun o=>o.Item==x.ID||(o.Record==x.Record&&!b&&!(x.Custody.State==12))) (fun _ _=>(.inr (10,o7,()):(Int×Circ×Circ×Item×Unit)⊕(Int×Circ×Unit))) (.inl (x.ID,c,v,x,())) hl
  (by simp only[b5m,dge,yaa])
  (fun k o ho=>by
   have hlt:=(zL ho)
   simp -zeta only[b5m,dlt hlt,c9,ho,yab,z6,o9,g9 (show k<9223372036854775807 by omega)];dsimp only;cases o.Item==x.ID<;>cases o.Record==x.Record<;>cases b<;>cases x.Custody.State==12<;>rfl)
 rw[a3v]at hw;refine Eq.trans hw ?_;cases c.Holds.find? (fun o=>o.Item==x.ID||(o.Record==x.Record&&!b&&!(x.Custody.State==12)))<;>rfl
theorem d5t {l:List Loan} {item:Int}:(a0g l item).2=((a5q l item).2.2==0):=by
 unfold a0g a5q;cases l.find? (fun n=>n.Item==item)<;>rfl
theorem b7q {c:Circ} (h:MidP c) (hln:c.Loans.length<100000000) {item:Int} (hk:∀n∈c.Loans,(c.Items.find? (fun x=>x.ID==n.Item)).isSome=true):a80 (qfi c item) (qf4 c item):=by
 unfold qfi qf4;simp -zeta only[qae,a0u h.short,c5y h.short.loans,f86 hln];rcases y7 h item with ⟨h1,h2,h3⟩|⟨i,x,h1,h2,hx,hid,-⟩
 ·have hf:(a0g c.Loans item).2=false:=by
   unfold a0g;cases hq:c.Loans.find? (fun n=>n.Item==item) with
   |none=>rfl
   |some n=>
    have a:=hk n (yaG hq);have b:n.Item=item:=by have:=ya4 hq;simpa using this
    rw[b,h3]at a;cases a
  have d0:decide ((0:Int)≤-1)=false:=rfl;rw[h1,h2];simp only[d0,yaa,a4i,yab,hf,a66 c _ _ 9 (by decide),o5 c 9 (by decide)];exact p9
 ·subst hid;have d0:decide ((0:Int)≤(i:Int))=true:=by rw[yad];omega
  rw[h1,h2];simp only[d0,yab,a09,yaa,c9,hx,h5t h.short];rw[show b9 b5o (x.ID,(i:Int),false,0,c,ZN,x,())=_ from b9g h hx];simp only;rw[b5n h.short.holds];have e:(fun o:Hold=>o.Item==x.ID||(o.Record==x.Record&&!(b8s c x)&&!(x.Custody.State==12)))=c5s c x:=by
   funext o;unfold c5s b63;simp only[yah,yaT];cases o.Item==x.ID<;>cases o.Record==x.Record<;>cases b8s c x<;>cases x.Custody.State==12<;>rfl
  rw[e];have ea:c.Holds.any (c5s c x)=(c.Holds.find? (c5s c x)).isSome:=by rw[ybo,List.find?_isSome,yb3]
  rw[ea];cases c.Holds.find? (c5s c x) with
  |some o=>
   simp only[Option.isSome_some,yab,qp,yah,a66 c _ _ 10 (by decide)];cases (a0g c.Loans x.ID).2 with
   |false=>
    simp only[yaa,o5 c 10 (by decide)];exact p9
   |true=>
    generalize a5q c.Loans x.ID=q;obtain ⟨l,n,e⟩:=q;simp only[yab,a58 c l e 10 (by decide),o5 _ 10 (by decide)];exact p9
  |none=>
   simp only[ybT,yaa,a3b hx];rcases a1w h hx 15 x.Custody.Branch 0 with ⟨u,ha,m1,m2,hm2⟩|⟨e,he,m1,m2⟩
   ·rw[m1,m2];simp only[yah,yaj,yaa];rw[show (u0 c i x ⟨c.Today,x.ID,15,x.Custody.Branch,0⟩ u).Loans=c.Loans from rfl];rw[d32 hln,d5t];have bl:=d01 (item:=x.ID) h.short.loans;generalize hc2:u0 c i x ⟨c.Today,x.ID,15,x.Custody.Branch,0⟩ u=c2 at hm2 ⊢;have hL:c2.Loans=c.Loans:=by rw[←hc2];rfl
    rw[←hL]at bl ⊢;generalize a5q c2.Loans x.ID=q at bl ⊢;obtain ⟨l,n,e⟩:=q;by_cases he:e=0
    ·subst he;exact ⟨i4 c2 l,0,rfl,rfl,(b4f hm2 bl).short⟩
    ·have he2:(e==0)=false:=by simpa using he
     simp only[he2,yaa];exact ⟨c2,0,rfl,rfl,hm2.short⟩
   ·have he2:(e==0)=false:=by simpa using he
    rw[m1,m2];simp only[he2,yan,yab];cases (a0g c.Loans x.ID).2 with
    |false=>
     simp only[yaa,o5 c e he];exact p9
    |true=>
     generalize a5q c.Loans x.ID=q;obtain ⟨l,n,e2⟩:=q;simp only[yab,a58 c l e2 e he,o5 _ e he];exact p9
theorem d58 {c:Circ} (h:MidP c) {item partner:Int}:a80 (qft c item partner) (qg6 c item partner):=by
 unfold qft qg6;simp -zeta only[qae,a0u h.short,o9];rcases y7 h item with ⟨h1,h2,h3⟩|⟨i,x,h1,h2,hx,hid,-⟩
 ·rw[h1,h2];exact p9
 ·subst hid;obtain ⟨v,p1,p2,-,-⟩:=a8p h hx;rw[h1,h2];simp -zeta only[a09,yaa,c9,hx,p1,p2,o9];dsimp only;cases (x.Custody.State==3&&!(v==0)) with
  |true=>
   simp only[yab,qp,yah,c03 c _ _ _ _ 16 (by decide),o5 c 16 (by decide)];exact p9
  |false=>
   simp only[yaa];rcases a1w h hx 10 x.Custody.Branch partner with ⟨u,ha,m1,m2,hm2⟩|⟨e,he,m1,m2⟩
   ·rw[m1,m2];exact ⟨_,0,rfl,rfl,hm2.short⟩
   ·rw[m1,m2];simp only[o5 c e he];exact p9
end
section
def c2n (p:Int→Bool) (f:Int):Nat→Int
 |0=>0
 |k+1=>c2n p f k+(bif p (f+k) then 1 else 0)
theorem c7x {p:Int→Bool} {f:Int}:∀k:Nat,0≤c2n p f k∧c2n p f k≤k:=by
 intro k
 induction k with
 |zero=>exact ⟨by simp[c2n],by simp[c2n]⟩
 |succ k ih=>
  simp only[c2n];cases p (f+k)<;>simp only[yab,yaa]<;>omega
theorem b3l {p:Int→Bool} {f:Int} {k:Nat}:c2n p f (k+1)=c2n p f k+(bif p (f+k) then 1 else 0):=rfl
theorem d93 {p:Int→Bool}:∀(k:Nat) (f:Int),c2n p f (k+1)=(bif p f then 1 else 0)+c2n p (f+1) k:=by
 intro k
 induction k with
 |zero=>intro f;simp[c2n]
 |succ k ih=>
  intro f;rw[b3l,ih f,b3l];rw[show f+((k+1:Nat):Int)=f+1+(k:Int) by omega];omega
theorem g73 {c:Calendar} (hc:CalOk c) {t:Int}:∀(k:Nat) (d n:Int),0≤d→d+k=(if 109572<t then 109572 else t)+1→0≤n→n+k<1000000000→m9 b9m (k+1) (t,n,d,c,())=some (n+c2n (a7j c) d k,()):=by
 intro k
 induction k with
 |zero=>
  intro d n h0 h1 h2 h3;have:decide (d≤(if 109572<t then 109572 else t))=false:=by rw[yaf];omega
  simp only[m9,b9m,this,yaa,c2n,Int.add_zero]
 |succ k ih=>
  intro d n h0 h1 h2 h3;have hd:decide (d≤(if 109572<t then 109572 else t))=true:=by rw[yad];omega
  have hb:d<200000:=by split at h1<;>omega
  rw[m9];simp only[b9m,hd,yab,b5u hc];rw[d93,a0w (n:=d+1) (by omega) (by omega),a0w (n:=n+1) (by omega) (by omega)];cases a7j c d with
  |true=>
   simp only[yab];rw[ih (d+1) (n+1) (by omega) (by omega) (by omega) (by omega)];rw[Int.add_assoc]
  |false=>
   simp only[yaa];rw[ih (d+1) n (by omega) (by omega) (by omega) (by omega),Int.zero_add]
theorem h6x {c:Calendar} (hc:CalOk c) (f t:Int):qgy c f t=some (c2n (a7j c) (if f<0 then 0 else f) ((if 109572<t then 109572 else t)+1-(if f<0 then 0 else f)).toNat):=by
 unfold qgy;generalize hF:(if f<0 then 0 else f)=F;have hF0:0≤F:=by rw[←hF];split<;>omega
 have hT:(if 109572<t then 109572 else t)≤109572:=by split<;>omega
 by_cases hk:F≤(if 109572<t then 109572 else t)+1
 ·have:=g73 hc (t:=t) ((if 109572<t then 109572 else t)+1-F).toNat F 0 hF0 (by omega) (by omega) (by omega);rw[n5 _ (by rw[m5];omega) this,Int.zero_add]
 ·have h0:((if 109572<t then 109572 else t)+1-F).toNat=0:=by omega
  have hd:decide (F≤(if 109572<t then 109572 else t))=false:=by rw[yaf];omega
  have:m9 b9m 1 (t,0,F,c,())=some (0,()):=by simp only[m9,b9m,hd,yaa]
  rw[n5 _ (by rw[m5];omega) this,h0]
  try rfl
def upS (d w:Int):Int:=if d<w then 0 else (d-w) / 7+1
theorem b9z {d:Int} (h:rng 0 109572 d=true):qdb d=some (d.tmod 7):=by
 have e:qfo d=some (rng 0 109572 d):=by
  unfold qfo;simp -zeta only[o9]
  try rfl
 unfold qdb;rw[e,h]
 try rfl
theorem e86 {d w:Int} (h0 : -1≤d) (h1:d≤109572) (h2:0≤w) (h3:w<7):qet d w=some (upS d w):=by
 unfold qet upS;rw[b9z rfl];have e0:(0:Int).tmod 7=0:=rfl;simp only[e0];rw[a0w (n:=w-0) (by omega) (by omega),a0w (n:=w-0+7) (by omega) (by omega)];have e1:(w-0+7).tmod 7=w:=by rw[Int.tmod_eq_emod_of_nonneg (by omega)];omega
 rw[e1];by_cases hd:d<w
 ·simp only[hd,decide_true,yab,ybB]
 ·simp only[hd,decide_false,yaa,ya5];rw[a0w (n:=d-w) (by omega) (by omega),Int.tdiv_eq_ediv_of_nonneg (by omega),a0w (n:=(d-w) / 7) (by omega) (by omega),a0w (by omega) (by omega)]
theorem f5h {d w:Int} (h0:0≤d) (h2:0≤w) (h3:w<7):upS d w=upS (d-1) w+(if d % 7=w then 1 else 0):=by
 unfold upS;split<;>split<;>split<;>omega
theorem a8u {d w:Int} (h0 : -1≤d) (h1:d≤109572) (h2:0≤w) (h3:w<7):0≤upS d w∧upS d w≤20000:=by
 unfold upS;split<;>omega
def wk (c:Calendar):V7 Bool:=⟨a0r c.Week 0,a0r c.Week 1,a0r c.Week 2,a0r c.Week 3,a0r c.Week 4,a0r c.Week 5,a0r c.Week 6⟩
def y9 (c:Calendar) (f t:Int) (w:Nat):Int:=bif a0r c.Week w then upS t w-upS (f-1) w else 0
theorem e9z {b:Bool} {n a:Int} (hn : -1000000≤n) (hn2:n≤1000000) (ha : -100000≤a) (ha2:a≤100000) {α:Type} (k:Int→α):(bif b then k (wr .i64 (n+wr .i64 a)) else k n)=k (n+(bif b then a else 0)):=by
 cases b with
 |true=>simp only[yab];rw[a0w (n:=a) (by omega) (by omega),a0w (by omega) (by omega)]
 |false=>simp only[yaa,Int.add_zero]
theorem y0 {c:Calendar} {f t:Int} {w:Nat} (hf:0≤f) (hf2:f≤109573) (ht : -1≤t) (ht2:t≤109572) (hw:w<7) : -20000≤y9 c f t w∧y9 c f t w≤20000:=by
 unfold y9;have a:=a8u ht ht2 (show 0≤(w:Int) by omega) (by omega);have b:=a8u (d:=f-1) (by omega) (by omega) (show 0≤(w:Int) by omega) (by omega);cases a0r c.Week w<;>simp only[yab,yaa]<;>omega
theorem c3p {c:Calendar} {f t:Int} (hf:0≤f) (hf2:f≤109573) (ht : -1≤t) (ht2:t≤109572):b9 b5e (f,t,0,wk c,0,c,wk c,()) =
 some (f,t,y9 c f t 0+y9 c f t 1+y9 c f t 2+y9 c f t 3+y9 c f t 4+y9 c f t 5+y9 c f t 6,c,wk c,()):=by
 have st:∀(w:Nat) (n:Int),w<7→-200000≤n→n≤200000→b5e (f,t,n,wk c,(w:Int),c,wk c,())=some (.inl (f,t,n+y9 c f t w,wk c,((w+1:Nat):Int),c,wk c,())):=by
  intro w n hw h1 h2;have u1:=e86 ht ht2 (show 0≤(w:Int) by omega) (by omega);have u2:=e86 (d:=f-1) (by omega) (by omega) (show 0≤(w:Int) by omega) (by omega);have b1:=a8u ht ht2 (show 0≤(w:Int) by omega) (by omega);have b2:=a8u (d:=f-1) (by omega) (by omega) (show 0≤(w:Int) by omega) (by omega);have hd:decide ((w:Int)<7)=true:=by rw[yad];omega
  have hw1:wr .i64 (f-1)=f-1:=a0w (by omega) (by omega);have hw2:=g9 (show w<9223372036854775807 by omega);unfold y9;simp -zeta only[b5e,hd,yab,u1,hw1,u2,hw2];dsimp only;have ap:=fun b=>e9z (b:=b) (n:=n) (a:=upS t w-upS (f-1) w) (by omega) (by omega) (by omega) (by omega) (fun n7=>(some (.inl (f,t,n7,wk c,((w+1:Nat):Int),c,wk c,())):Option ((Int×Int×Int×(V7 Bool)×Int×Calendar×(V7 Bool)×Unit)⊕((Int×Int×Int×Calendar×(V7 Bool)×Unit)))))
  have hcs:w=0∨w=1∨w=2∨w=3∨w=4∨w=5∨w=6:=by omega
  rcases hcs with h|h|h|h|h|h|h<;>subst h<;>exact ap _
 have p0:=y0 (c:=c) hf hf2 ht ht2 (show 0<7 by omega);have p1:=y0 (c:=c) hf hf2 ht ht2 (show 1<7 by omega);have p2:=y0 (c:=c) hf hf2 ht ht2 (show 2<7 by omega);have p3:=y0 (c:=c) hf hf2 ht ht2 (show 3<7 by omega);have p4:=y0 (c:=c) hf hf2 ht ht2 (show 4<7 by omega);have p5:=y0 (c:=c) hf hf2 ht ht2 (show 5<7 by omega);have p6:=y0 (c:=c) hf hf2 ht ht2 (show 6<7 by omega);refine n5 8 (by rw[m5];omega) ?_;have s0:=st 0 0 (by omega) (by omega) (by omega);have s1:=st 1 (0+y9 c f t 0) (by omega) (by omega) (by omega);have s2:=st 2 (0+y9 c f t 0+y9 c f t 1) (by omega) (by omega) (by omega);have s3:=st 3 (0+y9 c f t 0+y9 c f t 1+y9 c f t 2) (by omega) (by omega) (by omega);have s4:=st 4 (0+y9 c f t 0+y9 c f t 1+y9 c f t 2+y9 c f t 3) (by omega) (by omega) (by omega);have s5:=st 5 (0+y9 c f t 0+y9 c f t 1+y9 c f t 2+y9 c f t 3+y9 c f t 4) (by omega) (by omega) (by omega);have s6:=st 6 (0+y9 c f t 0+y9 c f t 1+y9 c f t 2+y9 c f t 3+y9 c f t 4+y9 c f t 5) (by omega) (by omega) (by omega);rw[m9,show b5e (f,t,0,wk c,0,c,wk c,())=_ from s0];simp only;rw[m9,s1];simp only;rw[m9,s2];simp only;rw[m9,s3];simp only;rw[m9,s4];simp only;rw[m9,s5];simp only;rw[m9,s6];simp only;rw[m9];rw[Int.zero_add]
 try rfl
def b0p (c:Calendar) (f t:Int) (x:Int):Bool:=decide (f≤x)&&decide (x≤t)&&a0r c.Week (x.tmod 7).toNat
theorem h9a (c:Calendar) {α:Type} (k:Bool→α) (d:α) {r:Int} (h0:0≤r) (h1:r<7):(bif r==0 then k (wk c).x0 else bif r==1 then k (wk c).x1 else bif r==2 then k (wk c).x2 else bif r==3 then k (wk c).x3 else bif r==4 then k (wk c).x4 else bif r==5 then k (wk c).x5 else bif r==6 then k (wk c).x6 else d)=k (a0r c.Week r.toNat):=by
 have hcs:r=0∨r=1∨r=2∨r=3∨r=4∨r=5∨r=6:=by omega
 rcases hcs with h|h|h|h|h|h|h<;>subst h<;>rfl
theorem c0u {c:Calendar} {f t n:Int} {l:List Int} (hl:l.length<1000000000) (hf:0≤f) (ht:t≤109572) (hn : -1000000≤n) (hn2:n≤1000000) :
 b9 b08 (f,t,n,l,(l.length:Int),0,wk c,())=some (n-(l.filter (b0p c f t)).length,()):=by
 have h:=s8 (step:=b08) (fun (i:Nat) (s:Int)=>-1000000-(i:Int)≤s∧s≤1000000) (fun i s=>(f,t,s,l,(l.length:Int),(i:Int),wk c,())) l
  (fun i x s=>.inl (bif b0p c f t x then s-1 else s)) (fun s=>(s,())) (by rw[m5];omega)
  (fun s _=>by simp only[b08,dge,yaa])
  (fun i x s hx hi=>by
   have hlt:=(zL hx)
   obtain ⟨b1,b2⟩:=hi;have hw:wr .i64 (s-1)=s-1:=a0w (by omega) (by omega);refine ⟨?_,fun s' hs'=>?_⟩
   ·simp -zeta only[b08,dlt hlt,c9,hx,yab,o9,g9 (show i<9223372036854775807 by omega),hw];unfold b0p;cases hq:(decide (f≤x)&&decide (x≤t)) with
    |false=>rfl
    |true=>
     simp only[yae,yad]at hq;have hr:rng 0 109572 x=true:=by rw[w8];omega
     have hm:=h1e (d:=x) (by omega);dsimp only;rw[b9z hr];simp only[yab,yaT];rw[h9a c (fun v17=>(bif v17 then some (.inl (f,t,s-1,l,(l.length:Int),((i+1:Nat):Int),wk c,())) else some (.inl (f,t,s,l,(l.length:Int),((i+1:Nat):Int),wk c,())):Option ((Int×Int×Int×(List Int)×Int×Int×(V7 Bool)×Unit)⊕((Int×Unit))))) none hm.1 hm.2];cases a0r c.Week (x.tmod 7).toNat<;>rfl
   ·cases hs'
    cases b0p c f t x<;>simp only[yab,yaa]<;>omega) n (by omega)
 rw[z7]at h;have key:∀(m:List Int) (s:Int),m.foldl (fun s x=>bif b0p c f t x then s-1 else s) s=s-(m.filter (b0p c f t)).length:=by
  intro m
  induction m with
  |nil=>intro s;simp
  |cons x m ih=>
   intro s;rw[ya9,ih,ybb];cases b0p c f t x with
   |true=>simp only[yab,ybB,yaK];omega
   |false=>simp
 rw[key]at h;exact h
theorem c8d (p r:Int→Bool):∀(l:List Int),(∀x∈l,¬(p x=true∧r x=true))→(l.filter (fun x=>p x||r x)).length=(l.filter p).length+(l.filter r).length:=by
 intro l
 induction l with
 |nil=>intro _;rfl
 |cons x l ih=>
  intro h;have hx:=h x (yaA ..);have:=ih (fun y hy=>h y (yaC _ hy));simp only[ybb];cases hp:p x<;>cases hr:r x<;>simp_all<;>omega
theorem e1u {d:Int} {q:Int→Bool}:∀{l:List Int},(∀(j i:Nat) (x y:Int),i<j→l[i]?=some x→l[j]?=some y→x<y)→(l.filter (fun x=>x==d&&q x)).length=if (l.any (fun x=>x==d)&&q d)=true then 1 else 0:=by
 intro l
 induction l with
 |nil=>intro _;rfl
 |cons x l ih=>
  intro h;have h2:∀(j i:Nat) (x y:Int),i<j→l[i]?=some x→l[j]?=some y→x<y:=fun j i a b hij ha hb=>h (j+1) (i+1) a b (by omega) (by simpa using ha) (by simpa using hb)
  have ih:=ih h2;rw[ybb,List.any_cons];by_cases e:x=d
  ·subst e;have hn:l.any (fun y=>y==x)=false:=by
    rw[ybY];intro y hy he;obtain ⟨j,hj⟩:=yav hy;have:=h (j+1) 0 x y (by omega) (by simp) (by simpa using hj);have:y=x:=by simpa using he
    omega
   rw[hn]at ih;simp only[yah,yaT,Bool.true_or,ybt]at ih ⊢;cases q x with
   |true=>simp only[ybB,yaK];rw[ih];rfl
   |false=>simp only[yaB,ya5];exact ih
  ·have e2:(x==d)=false:=by simpa using e
   simp only[e2,ybt,ybc,yaB,ya5];exact ih
theorem f5e (c:Calendar) (f d:Int) (h0:0≤d):y9 c f d 0+y9 c f d 1+y9 c f d 2+y9 c f d 3+y9 c f d 4+y9 c f d 5+y9 c f d 6 =
 (y9 c f (d-1) 0+y9 c f (d-1) 1+y9 c f (d-1) 2+y9 c f (d-1) 3+y9 c f (d-1) 4+y9 c f (d-1) 5+y9 c f (d-1) 6)+(bif a0r c.Week (d.tmod 7).toNat then 1 else 0):=by
 have st:∀w:Nat,w<7→y9 c f d w=y9 c f (d-1) w+(bif a0r c.Week w then (if d % 7=w then 1 else 0) else 0):=by
  intro w hw;unfold y9;have:=f5h (d:=d) (w:=w) h0 (by omega) (by omega);cases a0r c.Week w<;>simp only[yab,yaa]<;>omega
 rw[st 0 (by omega),st 1 (by omega),st 2 (by omega),st 3 (by omega),st 4 (by omega),st 5 (by omega),st 6 (by omega)];have e:(d.tmod 7).toNat=(d % 7).toNat:=by rw[Int.tmod_eq_emod_of_nonneg h0]
 rw[e];have hcs:d % 7=0∨d % 7=1∨d % 7=2∨d % 7=3∨d % 7=4∨d % 7=5∨d % 7=6:=by omega
 have z:∀b:Bool,(bif b then (0:Int) else 0)=0:=by intro b;cases b<;>rfl
 rcases hcs with h|h|h|h|h|h|h<;>rw[h]<;>simp[z]<;>omega
theorem e1t {c:Calendar} (hc:CalOk c) {f:Int} (hf:0≤f):∀k:Nat,f+k≤109573→
 y9 c f (f+k-1) 0+y9 c f (f+k-1) 1+y9 c f (f+k-1) 2+y9 c f (f+k-1) 3+y9 c f (f+k-1) 4+y9 c f (f+k-1) 5+y9 c f (f+k-1) 6-(c.Closed.filter (b0p c f (f+k-1))).length=c2n (a7j c) f k:=by
 intro k
 induction k with
 |zero=>
  intro _;have z:∀w:Nat,y9 c f (f+((0:Nat):Int)-1) w=0:=by
   intro w;unfold y9;rw[show f+((0:Nat):Int)-1=f-1 by omega];cases a0r c.Week w<;>simp
  have e:c.Closed.filter (b0p c f (f+((0:Nat):Int)-1))=[]:=by
   rw[List.filter_eq_nil_iff];intro x _;unfold b0p;simp only[yae,yad];omega
  rw[z,z,z,z,z,z,z,e]
  try rfl
 |succ k ih=>
  intro hk;have ih:=ih (by omega);rw[b3l,←ih];have ed:f+((k+1:Nat):Int)-1=f+(k:Int):=by omega
  rw[ed];rw[f5e c f (f+k) (by omega)];have e1:(c.Closed.filter (b0p c f (f+k))).length=(c.Closed.filter (b0p c f (f+k-1))).length+(c.Closed.filter (fun x=>x==f+k&&a0r c.Week (x.tmod 7).toNat)).length:=by
   rw[←c8d]
   ·congr 1;apply ybW;intro x _;unfold b0p;by_cases h1:f≤x
    ·by_cases h2:x=f+k
     ·subst h2;have a:decide (f≤f+(k:Int))=true:=by rw[yad];omega
      have b:decide (f+(k:Int)≤f+(k:Int))=true:=by rw[yad];omega
      simp only[a,b,yah,yaT];cases decide (f+(k:Int)≤f+(k:Int)-1)<;>simp
     ·have a:(x==f+(k:Int))=false:=by simpa using h2
      have b:decide (x≤f+(k:Int))=decide (x≤f+(k:Int)-1):=by rw[decide_eq_decide];omega
      rw[a,b];simp
    ·have a:decide (f≤x)=false:=by rw[yaf];exact h1
     have b:(x==f+(k:Int))=false:=by
      have:¬x=f+(k:Int):=by omega
      simpa using this
     rw[a,b]
     try rfl
   ·intro x _;unfold b0p;simp only[yae,yad,ya2];omega
  rw[e1,e1u (b36 hc.inc)];have hr:rng 0 109572 (f+(k:Int))=true:=by rw[w8];omega
  unfold a7j;rw[hr];cases c.Closed.any (fun x=>x==f+(k:Int))<;>cases a0r c.Week ((f+(k:Int)).tmod 7).toNat<;>simp<;>omega
theorem h5s {c:Calendar} (hc:CalOk c) (f t:Int):qag c f t=some (c2n (a7j c) (if f<0 then 0 else f) ((if 109572<t then 109572 else t)+1-(if f<0 then 0 else f)).toNat):=by
 unfold qag;generalize hF:(if f<0 then 0 else f)=F;generalize hT:(if 109572<t then 109572 else t)=T;have hF0:0≤F:=by rw[←hF];split<;>omega
 have hT0:T≤109572:=by rw[←hT];split<;>omega
 by_cases hk:T<F
 ·have h0:(T+1-F).toNat=0:=by omega
  simp only[hk,decide_true,yab,h0,c2n]
 ·simp only[hk,decide_false,yaa,f8o];rw[show b9 b5e (F,T,0,(⟨a0r c.Week 0,a0r c.Week 1,a0r c.Week 2,a0r c.Week 3,a0r c.Week 4,a0r c.Week 5,a0r c.Week 6⟩:V7 Bool),0,c,(⟨a0r c.Week 0,a0r c.Week 1,a0r c.Week 2,a0r c.Week 3,a0r c.Week 4,a0r c.Week 5,a0r c.Week 6⟩:V7 Bool),())=_ from c3p (c:=c) hF0 (by omega) (by omega) hT0];simp only;have p0:=y0 (c:=c) (f:=F) (t:=T) hF0 (by omega) (by omega) hT0 (show 0<7 by omega);have p1:=y0 (c:=c) (f:=F) (t:=T) hF0 (by omega) (by omega) hT0 (show 1<7 by omega);have p2:=y0 (c:=c) (f:=F) (t:=T) hF0 (by omega) (by omega) hT0 (show 2<7 by omega);have p3:=y0 (c:=c) (f:=F) (t:=T) hF0 (by omega) (by omega) hT0 (show 3<7 by omega);have p4:=y0 (c:=c) (f:=F) (t:=T) hF0 (by omega) (by omega) hT0 (show 4<7 by omega);have p5:=y0 (c:=c) (f:=F) (t:=T) hF0 (by omega) (by omega) hT0 (show 5<7 by omega);have p6:=y0 (c:=c) (f:=F) (t:=T) hF0 (by omega) (by omega) hT0 (show 6<7 by omega);rw[c0u hc.len hF0 hT0 (by omega) (by omega)];simp only;have:=e1t hc hF0 (T+1-F).toNat (by omega);rw[show F+((T+1-F).toNat:Int)-1=T by omega]at this;rw[this]
end
section
theorem g6b {c:Calendar} (hc:CalOk c) {r:Rule} (hr:a5y r=true) (due back:Int):∃v,qfr r c due back=some v∧qhg r c due back=some v∧0≤v:=by
 have ec:∀n:Int,qek n=some (rng 0 109572 n):=fun n=>by
  unfold qek;simp -zeta only[o9]
  try rfl
 unfold qfr qhg;simp -zeta only[h65 hc.len,e5r hc.len,h5s hc,h6x hc,ec,e47,z6];dsimp only;cases (!(a0j c==0)||!(rng 0 109572 due))||!(rng 0 109572 back) with
 |true=>exact ⟨0,rfl,rfl,by omega⟩
 |false=>
  simp only[yaa];have hb:=c7x (p:=a7j c) (f:=if wr .i64 (due+1)<0 then 0 else wr .i64 (due+1)) ((if 109572<back then 109572 else back)+1-(if wr .i64 (due+1)<0 then 0 else wr .i64 (due+1))).toNat;have hk:((if 109572<back then 109572 else back)+1-(if wr .i64 (due+1)<0 then 0 else wr .i64 (due+1))).toNat≤109573:=by
   have h1:(if 109572<back then 109572 else back)≤109572:=by split<;>omega
   have h2:0≤(if wr .i64 (due+1)<0 then 0 else wr .i64 (due+1)):=by split<;>omega
   omega
  generalize c2n (a7j c) _ _=n at hb ⊢;generalize ((if 109572<back then 109572 else back)+1-(if wr .i64 (due+1)<0 then 0 else wr .i64 (due+1))).toNat=k at hb hk;cases decide (n≤r.Grace) with
  |true=>exact ⟨0,rfl,rfl,by omega⟩
  |false=>
   simp only[yaa];refine ⟨_,rfl,rfl,?_⟩;unfold a5y at hr;simp only[yae,w8]at hr;obtain ⟨⟨⟨⟨⟨_,⟨hf,_⟩,hm⟩,_⟩,_⟩,_⟩,_⟩:=hr;have hp:0≤n*r.Fine:=Int.mul_nonneg hb.1 hf.1;have hq:n*r.Fine≤109573*1000:=Int.mul_le_mul (by omega) hf.2 hf.1 (by omega);rw[a0w (by omega) (by omega)];split<;>omega
def b57 (p item kind:Int) (x:Charge):Bool:=(x.Patron==p&&x.Item==item)&&(kind==0||x.Kind==kind)
theorem f8x {l:List Charge} {p item kind:Int} (hl:l.length<1000000000):∃v,qby l p item kind=some (l.filter (fun x=>!(b57 p item kind x)),v):=by
 have hq:∀x:Charge,qc9 x p item kind=some (b57 p item kind x):=fun x=>by
  unfold qc9 b57;simp -zeta only[o9,z6]
  try rfl
 have h:=s8 (step:=b84 (fun (g:Unit×Int×Int×Int×Unit) x0=>qc9 x0 g.2.1 g.2.2.1 g.2.2.2.1)) (fun (i:Nat) (s:Int×Int×List Charge)=>s.2.2.length≤i)
  (fun i s=>(((),(p,item,kind,())),s.1,s.2.1,l,(l.length:Int),(i:Int),s.2.2,())) l
  (fun i x s=>.inl (bif b57 p item kind x then (wr .i64 (s.1+x.Paid),wr .i64 (s.2.1+1),s.2.2) else (s.1,s.2.1,s.2.2++[x]))) (fun s=>(s.1,s.2.1,s.2.2,())) (by rw[m5];omega)
  (fun s _=>by simp only[b84,dge,yaa])
  (fun i x s hx hi=>by
   have hlt:=(zL hx)
   have l1:∀z:Charge,decide (s.2.2.length+([z]:List Charge).length≤LIM)=true:=fun z=>a1q (by simp;omega)
   refine ⟨?_,fun s' hs'=>?_⟩
   ·simp only[b84,dlt hlt,c9,hx,yab,hq,l1,g9 (show i<9223372036854775807 by omega)];cases b57 p item kind x<;>rfl
   ·cases hs'
    cases b57 p item kind x<;>simp<;>omega) (0,0,[]) (by simp)
 rw[z7]at h;have key:∀(m:List Charge) (s:Int×Int×List Charge),∃a b,m.foldl (fun s x=>bif b57 p item kind x then (wr .i64 (s.1+x.Paid),wr .i64 (s.2.1+1),s.2.2) else (s.1,s.2.1,s.2.2++[x])) s=(a,b,s.2.2++m.filter (fun x=>!(b57 p item kind x))):=by
  intro m
  induction m with
  |nil=>intro s;exact ⟨s.1,s.2.1,by simp⟩
  |cons x m ih=>
   intro s;rw[ya9,ybb];cases b57 p item kind x with
   |true=>
    obtain ⟨a,b,e⟩:=ih (wr .i64 (s.1+x.Paid),wr .i64 (s.2.1+1),s.2.2);exact ⟨a,b,by simp only[yab];rw[e];simp⟩
   |false=>
    obtain ⟨a,b,e⟩:=ih (s.1,s.2.1,s.2.2++[x]);exact ⟨a,b,by simp only[yaa];rw[e];simp⟩
 obtain ⟨a,b,e⟩:=key l (0,0,[]);rw[e]at h;refine ⟨a,?_⟩;unfold qby qav;rw[show b9 (b84 (fun (g:Unit×Int×Int×Int×Unit) x0=>qc9 x0 g.2.1 g.2.2.1 g.2.2.2.1)) (((),(p,item,kind,())),0,0,l,(l.length:Int),0,([]:List Charge),())=_ from h]
 try rfl
theorem f9h {l:List Charge} {p item kind:Int} (hl:l.length<1000000):∃v,qgj l p item kind=some (l.filter (fun x=>!(b57 p item kind x)),v):=by
 have h:=s8 (step:=c55) (fun (i:Nat) (s:Int×List Charge)=>s.2.length≤i)
  (fun i s=>(l,p,item,kind,s.1,(i:Int),s.2,())) l
  (fun i x s=>.inl (bif b57 p item kind x then (wr .i64 (s.1+x.Paid),s.2) else (s.1,s.2++[x]))) (fun s=>(s.1,s.2,())) (by rw[m5];omega)
  (fun s _=>by simp only[c55,dge,yaa])
  (fun i x s hx hi=>by
   have hlt:=(zL hx)
   have l1:∀z:Charge,decide (s.2.length+([z]:List Charge).length≤LIM)=true:=fun z=>a1q (by simp;omega)
   refine ⟨?_,fun s' hs'=>?_⟩
   ·simp -zeta only[c55,dlt hlt,c9,hx,yab,o9,z6,l1,g9 (show i<9223372036854775807 by omega)];dsimp only;unfold b57;cases ((x.Patron==p&&x.Item==item)&&(kind==0||x.Kind==kind))<;>rfl
   ·cases hs'
    cases b57 p item kind x<;>simp<;>omega) (0,[]) (by simp)
 rw[z7]at h;have key:∀(m:List Charge) (s:Int×List Charge),∃a,m.foldl (fun s x=>bif b57 p item kind x then (wr .i64 (s.1+x.Paid),s.2) else (s.1,s.2++[x])) s=(a,s.2++m.filter (fun x=>!(b57 p item kind x))):=by
  intro m
  induction m with
  |nil=>intro s;exact ⟨s.1,by simp⟩
  |cons x m ih=>
   intro s;rw[ya9,ybb];cases b57 p item kind x with
   |true=>
    obtain ⟨a,e⟩:=ih (wr .i64 (s.1+x.Paid),s.2);exact ⟨a,by simp only[yab];rw[e];simp⟩
   |false=>
    obtain ⟨a,e⟩:=ih (s.1,s.2++[x]);exact ⟨a,by simp only[yaa];rw[e];simp⟩
 obtain ⟨a,e⟩:=key l (0,[]);rw[e]at h;refine ⟨a,?_⟩;unfold qgj;rw[show b9 c55 (l,p,item,kind,0,0,([]:List Charge),())=_ from h]
 try rfl
theorem d1f {c:Circ} (h:Short c) {l:List Charge} (hl:l.length<1000000000) (n:Int):Short (a5p c l n):=by
 obtain ⟨a1,a2,a3,a4,a5,a6,a7,a8,a9,a10,a11,a12,a13⟩:=h;exact ⟨a1,a2,a3,a4,hl,a6,a7,a8,a9,a10,a11,a12,a13⟩
def a92 (c:Circ) (i:Nat) (x:Item) (branch:Int) (u:Custody) (l:List Loan):Circ:=i4 (u0 c i x ⟨c.Today,x.ID,4,branch,0⟩ u) l
theorem c67 {c:Circ} (h:MidP c) (hln:c.Loans.length<100000000) {i:Nat} {x:Item} (hx:c.Items[i]?=some x) {n:Loan} (hn:c.Loans.find? (fun n=>n.Item==x.ID)=some n) {branch:Int} (hb:rng 1 4 branch=true) :
 c2l (qfe (i:Int) branch ⟨c,0⟩) (qf2 c x.ID branch) (fun d=>MidP d∧∃u ch nc,p8 x.Custody ⟨c.Today,x.ID,4,branch,0⟩=(u,0)∧d=a5p (a92 c i x branch u (a5q c.Loans x.ID).1) ch nc):=by
 unfold qfe qf2;simp only[c9,hx];rcases a1w h hx 4 branch 0 with ⟨u,ha,m1,m2,hm2⟩|⟨e,he,m1,m2⟩
 ·rw[m1,m2];have hat:=a6t hm2 (a3i hx ⟨c.Today,x.ID,4,branch,0⟩ u);have hx2:=a3i hx ⟨c.Today,x.ID,4,branch,0⟩ u;have hbk:a5q c.Loans x.ID=((a5q c.Loans x.ID).1,n,0):=by unfold a5q;rw[hn]
  have bl:=d01 (item:=x.ID) h.short.loans;have hL:(u0 c i x ⟨c.Today,x.ID,4,branch,0⟩ u).Loans=c.Loans:=rfl;simp only[yah,yaj,yaa,hL,f86 hln,d32 hln];rw[hbk];simp only[yah,yaj,yaa,a91];have hm3:=b4f hm2 bl;show c2l _ _ (fun d=>MidP d∧∃u ch nc,p8 x.Custody ⟨c.Today,x.ID,4,branch,0⟩=(u,0)∧d=a5p (a92 c i x branch u (a5q c.Loans x.ID).1) ch nc)
  generalize hl:(a5q c.Loans x.ID).1=l at hm3 bl;have hat3:qt (i4 (u0 c i x ⟨c.Today,x.ID,4,branch,0⟩ u) l) x.ID=some (i:Int):=a6t (x:=y3 u x) hm3 hx2;have hc3:a92 c i x branch u l=i4 (u0 c i x ⟨c.Today,x.ID,4,branch,0⟩ u) l:=rfl;rw[show (⟨(u0 c i x ⟨c.Today,x.ID,4,branch,0⟩ u).Today,(u0 c i x ⟨c.Today,x.ID,4,branch,0⟩ u).Items,(u0 c i x ⟨c.Today,x.ID,4,branch,0⟩ u).Patrons,l,(u0 c i x ⟨c.Today,x.ID,4,branch,0⟩ u).Holds,(u0 c i x ⟨c.Today,x.ID,4,branch,0⟩ u).Charges,(u0 c i x ⟨c.Today,x.ID,4,branch,0⟩ u).Rules,(u0 c i x ⟨c.Today,x.ID,4,branch,0⟩ u).Cals,(u0 c i x ⟨c.Today,x.ID,4,branch,0⟩ u).Moves,(u0 c i x ⟨c.Today,x.ID,4,branch,0⟩ u).NextHold,(u0 c i x ⟨c.Today,x.ID,4,branch,0⟩ u).NextCharge,(u0 c i x ⟨c.Today,x.ID,4,branch,0⟩ u).Local⟩:Circ)=i4 (u0 c i x ⟨c.Today,x.ID,4,branch,0⟩ u) l from rfl];rw[hat3];simp only[c9,hx2];have hru:qgz (i4 (u0 c i x ⟨c.Today,x.ID,4,branch,0⟩ u) l) n.Patron (y3 u x)=qgz (i4 (u0 c i x ⟨c.Today,x.ID,4,branch,0⟩ u) l) n.Patron x:=rfl;rw[hru,b09 hm3.short];obtain ⟨r,b,hr,hrm⟩:=b1d (c:=i4 (u0 c i x ⟨c.Today,x.ID,4,branch,0⟩ u) l) (p:=n.Patron) (x:=x) hm3.short;have hT:(u0 c i x ⟨c.Today,x.ID,4,branch,0⟩ u).Today=(i4 (u0 c i x ⟨c.Today,x.ID,4,branch,0⟩ u) l).Today:=rfl;rw[hr,hT];rw[←hc3]at hm3 hrm ⊢;have fin:∀d:Circ,MidP d→(∃ch nc,d=a5p (a92 c i x branch u l) ch nc)→c2l (match qby d.Charges n.Patron x.ID 2 with
   |some (r19,r20)=>some ((),(⟨⟨d.Today,d.Items,d.Patrons,d.Loans,d.Holds,r19,d.Rules,d.Cals,d.Moves,d.NextHold,d.NextCharge,d.Local⟩,0⟩:Circ_desk))
   |none=>none) (match qgj d.Charges n.Patron x.ID 2 with
   |some (r21,r22)=>some ({d with Charges:=r21},0)
   |none=>none) (fun d=>MidP d∧∃u ch nc,p8 x.Custody ⟨c.Today,x.ID,4,branch,0⟩=(u,0)∧d=a5p (a92 c i x branch u l) ch nc):=by
   intro d hd hw;obtain ⟨v1,f1⟩:=f8x (p:=n.Patron) (item:=x.ID) (kind:=2) hd.short.charges;obtain ⟨v2,f2⟩:=f9h (p:=n.Patron) (item:=x.ID) (kind:=2) hd.chN;have hfl:=yax (fun y=>!(b57 n.Patron x.ID 2 y)) d.Charges;have:=hd.chN;rw[f1,f2];obtain ⟨ch,nc,rfl⟩:=hw;exact .inl ⟨_,rfl,rfl,c3n hd (by omega) nc,u,_,nc,ha,rfl⟩
  have f0:=fin (a92 c i x branch u l) hm3 ⟨(a92 c i x branch u l).Charges,(a92 c i x branch u l).NextCharge,rfl⟩;cases b with
  |false=>exact f0
  |true=>
   obtain ⟨v,lv1,lv2,lv0⟩:=g6b (hm3.cal branch) (hm3.rules r (hrm rfl)) n.Due (a92 c i x branch u l).Today;simp only[yab,b9e hb,b9n hb,lv1,lv2];by_cases hv:v=0
   ·subst hv;exact f0
   ·have hv2:(v==0)=false:=by simpa using hv
    have hv3:decide (0<v)=true:=by rw[yad];omega
    simp only[hv2,hv3,yan,yab];rcases b0v hm3 n.Patron x.ID 1 v with ⟨d,q1,q2,hd,hd2,-⟩|⟨d,e,he,q1,q2,hsd⟩
    ·rw[q1,q2];have hmd:MidP d:=by rw[hd];exact c3n hm3 (a9d hd2) _
     exact fin d hmd ⟨_,_,hd⟩
    ·obtain ⟨v1,f1⟩:=f8x (p:=n.Patron) (item:=x.ID) (kind:=2) hsd.charges;have hfl:=yax (fun y=>!(b57 n.Patron x.ID 2 y)) d.Charges;have:=hsd.charges;have he2:(e==0)=false:=by simpa using he
     rw[q1,q2];simp only[he2,yan,yab,f1];exact .inr ⟨a5p d (d.Charges.filter (fun y=>!(b57 n.Patron x.ID 2 y))) d.NextCharge,e,he,rfl,rfl,d1f hsd (by omega) _⟩
 ·have he2:(e==0)=false:=by simpa using he
  rw[m1,m2];simp only[he2,yan,yab];exact .inr ⟨c,e,he,rfl,rfl,h.short⟩
end
section
def c0m (i item:Int) (d:Circ_desk):Option (Circ×Int×Int):=
 match qap d.c item with
 |some (o,ok)=>
  match (bif ok&&o.State==2 then qdp i o d else qcg i d) with
  |some (_,v)=>(match qap v.c item with
   |some (r,_)=>(match qbf r.ID v with
    |some ((a,b,e),_)=>some (a,b,e)
    |none=>none)
   |none=>none)
  |none=>none
 |none=>none
def e5y (item e:Int) (c:Circ):Option (Circ×Int×Int):=
 bif !(e==0) then some (o7,0,e)
 else match qaw c item with
  |some (o,ok)=>(match (bif ok then qgm c item o else qg3 c item) with
   |some (d,f)=>(bif !(f==0) then some (o7,0,f) else match qaw d item with
    |some (r,_)=>some (d,r.ID,0)
    |none=>none)
   |none=>none)
  |none=>none
def d8h (i item:Int) (a:Option (Unit×Circ_desk)):Option (Circ×Int×Int):=match a with|some (_,v)=>c0m i item v|none=>none
def d4s (item:Int) (a:Option (Circ×Int)):Option (Circ×Int×Int):=match a with|some (c,e)=>e5y item e c|none=>none
theorem b3k {c:Circ} (hs:Short c) (i item e:Int) (he:e≠0):c0m i item ⟨c,e⟩=some (o7,0,e):=by
 unfold c0m;simp only[a87 hs.holds,b66 c i e _ he,a4u c i e he];cases ((p7 c item).2&&(p7 c item).1.State==2)<;>
  simp only[yab,yaa,a87 hs.holds,a5v c _ e he]
theorem a0i (u:Custody):a2i u=(u.State==4||u.State==9||u.State==10):=by
 unfold a2i;cases u.State==4<;>cases u.State==9<;>rfl
theorem h6k {c:Circ} (hs:Short c) {i:Nat} {x:Item} (hf:a5e (fun y=>y.ID==x.ID) c.Items=(i:Int)) (hx:c.Items[i]?=some x) (branch:Int) :
 qel c x.ID branch=(bif a2i x.Custody then d8h i x.ID (qfe i branch ⟨c,0⟩) else bif x.Custody.State==8 then d8h i x.ID (qan i 4 branch 0 ⟨c,0⟩)
  else bif x.Custody.State==11 then d8h i x.ID (qan i 14 branch 0 ⟨c,0⟩) else bif x.Custody.State==6 then d8h i x.ID (qan i 7 branch 0 ⟨c,0⟩) else c0m i x.ID ⟨c,12⟩):=by
 have leaf:∀v23:Circ_desk,(match qap v23.c x.ID with
  |some (r25,r26)=>
   let k41:Bool→Option (Circ×Int×Int):=fun v27=>
    let k:Circ_desk→Option (Circ×Int×Int):=fun v32=>
     match qap v32.c x.ID with
     |some (r34,r35)=>(match qbf r34.ID v32 with
      |some ((r37,r38,r39),v40)=>some (r37,r38,r39)
      |none=>none)
     |none=>none
    bif v27 then (match qdp (i:Int) r25 v23 with|some (_,v29)=>k v29|none=>none)
    else (match qcg (i:Int) v23 with|some (_,v31)=>k v31|none=>none)
   bif r26 then k41 (r25.State==2) else k41 false
  |none=>none)=c0m i x.ID v23:=by
  intro v;unfold c0m;cases qap v.c x.ID with
  |none=>rfl
  |some q=>
   obtain ⟨o,ok⟩:=q;dsimp only;cases ok with
   |false=>rfl
   |true=>cases o.State==2<;>rfl
 have leaf2:∀a:Option (Unit×Circ_desk),d8h i x.ID a=d8h i x.ID a:=fun _=>rfl
 unfold qel;simp -zeta only[qae,a0u hs,hf,a09,yaa,c9,hx];rw[a0i];have tb:∀(a:Option (Unit×Circ_desk)) (K:Circ_desk→Option (Circ×Int×Int)),(∀v,K v=c0m i x.ID v)→(match a with|some (_,v)=>K v|none=>none)=d8h i x.ID a:=by
  intro a K hK;unfold d8h;cases a with
  |none=>rfl
  |some p=>exact hK _
 cases x.Custody.State==4 with
 |true=>exact tb _ _ leaf
 |false=>
  cases x.Custody.State==9 with
  |true=>exact tb _ _ leaf
  |false=>
   cases x.Custody.State==10 with
   |true=>exact tb _ _ leaf
   |false=>
    cases x.Custody.State==8 with
    |true=>exact tb _ _ leaf
    |false=>
     cases x.Custody.State==11 with
     |true=>exact tb _ _ leaf
     |false=>
      cases x.Custody.State==6 with
      |true=>exact tb _ _ leaf
      |false=>exact leaf _
theorem f9d {c:Circ} (hs:Short c) {i:Nat} {x:Item} (hf:qt c x.ID=some (i:Int)) (hx:c.Items[i]?=some x) (branch:Int) :
 qg9 c x.ID branch=(bif a2i x.Custody then (bif decide (branch<1)||decide (4<branch) then some (o7,0,1) else d4s x.ID (qf2 c x.ID branch)) else bif x.Custody.State==8 then d4s x.ID (qgn c x.ID 4 branch 0)
  else bif x.Custody.State==11 then d4s x.ID (qgn c x.ID 14 branch 0) else bif x.Custody.State==6 then d4s x.ID (qgn c x.ID 7 branch 0) else e5y x.ID 12 c):=by
 have leaf:∀(e21:Int) (c22:Circ),(bif !(e21==0) then (some (o7,0,e21):Option (Circ×Int×Int))
  else match qaw c22 x.ID with
   |some (r24,r25)=>
    let k37:Int→Circ→Option (Circ×Int×Int):=fun e32 c33=>
     bif !(e32==0) then some (o7,0,e32)
     else match qaw c33 x.ID with
      |some (r35,r36)=>some (c33,r35.ID,0)
      |none=>none
    bif r25 then (match qgm c22 x.ID r24 with|some (r27,r28)=>k37 r28 r27|none=>none)
    else (match qg3 c22 x.ID with|some (r30,r31)=>k37 r31 r30|none=>none)
   |none=>none)=e5y x.ID e21 c22:=by
  intro e d;unfold e5y;cases !(e==0) with
  |true=>rfl
  |false=>
   simp only[yaa];cases qaw d x.ID with
   |none=>rfl
   |some q=>
    obtain ⟨o,ok⟩:=q;cases ok<;>rfl
 have tb:∀(a:Option (Circ×Int)) (K:Int→Circ→Option (Circ×Int×Int)),(∀e v,K e v=e5y x.ID e v)→(match a with|some (v,e)=>K e v|none=>none)=d4s x.ID a:=by
  intro a K hK;unfold d4s;cases a with
  |none=>rfl
  |some p=>exact hK _ _
 unfold qg9;simp -zeta only[hf,a09,yaa,c9,hx,e45];cases a2i x.Custody with
 |true=>
  cases decide (branch<1) with
  |true=>rfl
  |false=>
   cases decide (4<branch) with
   |true=>rfl
   |false=>exact tb _ _ leaf
 |false=>
  cases x.Custody.State==8 with
  |true=>exact tb _ _ leaf
  |false=>
   cases x.Custody.State==11 with
   |true=>exact tb _ _ leaf
   |false=>
    cases x.Custody.State==6 with
    |true=>exact tb _ _ leaf
    |false=>exact leaf 12 c
theorem d9f {i:Nat} {item:Int} {a:Option (Unit×Circ_desk)} {b:Option (Circ×Int)} {Q:Circ→Prop} (hs:c2l a b Q)
 (hQ:∀d,Q d→MidP d∧∃y,d.Items[i]?=some y∧y.ID=item∧((p7 d item).2=true→(p7 d item).1.State=2)):a6g (d8h i item a) (d4s item b):=by
 rcases hs with ⟨d,rfl,rfl,hq⟩|⟨d,e,he,rfl,rfl,hsd⟩
 ·obtain ⟨hd,y,hy,rfl,hC⟩:=hQ d hq;unfold d8h d4s c0m e5y;simp only[yah,yaj,yaa,a87 hd.short.holds,b0k hd.short.holds];have fin:∀(a:Option (Unit×Circ_desk)) (b:Option (Circ×Int)),c2l a b (fun d=>MidP d∧Frame d d)→True:=fun _ _ _=>trivial
  cases hok:(p7 d y.ID).2 with
  |true=>
   have h2:((p7 d y.ID).1.State==2)=true:=by simpa using hC hok
   simp only[h2,ybO,yab];rcases e5x hd hy (p7 d y.ID).1 with ⟨d2,a1,a2,hd2,-⟩|⟨d2,e,he,a1,a2,hsd⟩
   ·rw[a1,a2];simp only[a87 hd2.short.holds,b0k hd2.short.holds,yah,yaj,yaa,c8h];exact ⟨_,_,_,rfl,rfl,hd2.short⟩
   ·have he2:(e==0)=false:=by simpa using he
    rw[a1,a2];simp only[a87 hsd.holds,a5v d2 _ e he,he2,yan,yab];exact o4
  |false=>
   simp only[ybt,yaa];rcases c0e hd hy with ⟨d2,a1,a2,hd2,-⟩|⟨d2,e,he,a1,a2,hsd⟩
   ·rw[a1,a2];simp only[a87 hd2.short.holds,b0k hd2.short.holds,yah,yaj,yaa,c8h];exact ⟨_,_,_,rfl,rfl,hd2.short⟩
   ·have he2:(e==0)=false:=by simpa using he
    rw[a1,a2];simp only[a87 hsd.holds,a5v d2 _ e he,he2,yan,yab];exact o4
 ·have he2:(e==0)=false:=by simpa using he
  unfold d8h d4s;simp only[b3k hsd _ _ e he];unfold e5y;simp only[he2,yan,yab];exact o4
theorem d4p {u:Custody} {day item kind branch who:Int} (h:(decide (branch<1)||decide (4<branch))=true):p8 u ⟨day,item,kind,branch,who⟩=(⟨0,0,0,0⟩,1):=by
 have hw:a9n ⟨day,item,kind,branch,who⟩=false:=by
  unfold a9n;simp only[ybi,yad]at h;rcases h with h|h
  ·have:decide (1≤branch)=false:=by rw[yaf];omega
   simp[this]
  ·have:decide (branch≤4)=false:=by rw[yaf];omega
   simp[this]
 unfold p8;rw[hw];simp
theorem d5a {c:Circ} (h:FitP c) {x:Item} (hx:x∈c.Items) (hs:¬x.Custody.State=5) {o:Hold} (ho:o∈c.Holds) (hg:o.Got=x.ID):o.State=2∧x.Custody.State=6:=by
 have hsh:=a1k h.holds ho;have hid:=e2p h hx;have h1:¬o.State=1:=by
  intro e;unfold s9 at hsh;have h2:=a0f hsh (by decide);rw[h2]at hsh;simp only[yaa]at hsh;have h3:=a0f hsh (by decide);rw[h3]at hsh;simp only[yaa]at hsh;have h4:=a0f hsh (by decide);simp only[yai]at h4;have e1:(o.State==1)=true:=by simpa using e
  have e2:decide (0<o.Got)=true:=by rw[yad,hg];omega
  rw[e1,e2]at h4;exact absurd h4.1 (by decide)
 have hG:=h.holdG o ho;unfold a2z at hG;have hfind:c.Items.find? (fun y=>y.ID==o.Got)=some x:=by
  rw[hg];exact a2j (key:=fun y:Item=>y.ID) (a2f h.items) hx
 rw[hfind]at hG;have e1:(o.State==1)=false:=by simpa using h1
 rw[e1]at hG;simp only[yae,ybc,yao,ybk,yai,yau,ya2,yaV,ne_eq]at hG;obtain ⟨_,⟨_,q3⟩,q2⟩:=hG;rcases b79 hsh with e|e|e
 ·exact absurd e h1
 ·refine ⟨e,?_⟩;rcases q2 with q2|q2
  ·exact absurd e q2
  ·exact q2.1.1
 ·rcases q3 with q3|q3
  ·exact absurd e q3
  ·exact absurd q3.1.1 hs
theorem a5s {c:Circ} {item:Int} (h:(p7 c item).2=true):(p7 c item).1∈c.Holds∧(p7 c item).1.Got=item:=by
 unfold p7 at h ⊢;cases hq:c.Holds.find? (fun h=>h.Got==item) with
 |none=>rw[hq]at h;cases h
 |some o=>exact ⟨yaG hq,by have:=ya4 hq;simpa using this⟩
theorem c0i {c d:Circ} {item:Int} (h:d.Holds=c.Holds):p7 d item=p7 c item:=by unfold p7;rw[h]
theorem d4q {c:Circ} (m:MidP c) (h:FitP c) (hln:c.Loans.length<100000000) {item branch:Int}:a6g (qel c item branch) (qg9 c item branch):=by
 rcases y7 m item with ⟨h1,h2,-⟩|⟨i,x,h1,h2,hx,hid,-⟩
 ·unfold qel qg9;simp -zeta only[qae,a0u m.short];rw[h1,h2];exact o4
 ·subst hid;rw[h6k m.short h1 hx,f9d m.short h2 hx];have hmem:=yag hx;have hC:∀d:Circ,d.Holds=c.Holds→¬x.Custody.State=5→((p7 d x.ID).2=true→(p7 d x.ID).1.State=2):=by
   intro d hd h5 hk;rw[c0i hd]at hk ⊢;have:=a5s hk;exact (d5a h hmem h5 this.1 this.2).1
  have mv:∀kind:Int,¬x.Custody.State=5→a6g (d8h i x.ID (qan i kind branch 0 ⟨c,0⟩)) (d4s x.ID (qgn c x.ID kind branch 0)):=by
   intro kind h5;refine d9f (Q:=fun d=>∃u,d=u0 c i x ⟨c.Today,x.ID,kind,branch,0⟩ u∧MidP d) ?_ ?_
   ·rcases a1w m hx kind branch 0 with ⟨u,ha,m1,m2,hm2⟩|⟨e,he,m1,m2⟩
    ·exact .inl ⟨_,m1,m2,u,rfl,hm2⟩
    ·exact .inr ⟨c,e,he,m1,m2,m.short⟩
   ·rintro d ⟨u,rfl,hd⟩;exact ⟨hd,y3 u x,a3i hx _ u,rfl,hC _ rfl h5⟩
  cases hp:a2i x.Custody with
  |true=>
   simp only[yab];have h5:¬x.Custody.State=5:=by
    intro e;rw[a0i,e]at hp;cases hp
   have hl:=h.itemG x hmem;rw[hp]at hl;unfold a0g at hl;cases hb:(decide (branch<1)||decide (4<branch)) with
   |true=>
    simp only[yab];have dm:=a4d (kind:=4) (branch:=branch) (who:=0) m.short (by have:=m.moves;omega) hx;rw[d4p hb]at dm;have e1:qfe (i:Int) branch ⟨c,0⟩=some ((),⟨c,1⟩):=by
     unfold qfe;simp only[c9,hx];rw[dm]
     try rfl
    rw[e1];show a6g (c0m i x.ID ⟨c,1⟩) _
    rw[b3k m.short _ _ 1 (by decide)];exact o4
   |false=>
    simp only[yaa];have hbr:rng 1 4 branch=true:=by
     rw[w8];simp only[yai,yaf]at hb;omega
    cases hn:c.Loans.find? (fun n=>n.Item==x.ID) with
    |none=>rw[hn]at hl;cases hl
    |some n=>
     refine d9f (c67 m hln hx hn hbr) ?_;rintro d ⟨hd,u,ch,nc,-,rfl⟩;exact ⟨hd,y3 u x,a3i hx ⟨c.Today,x.ID,4,branch,0⟩ u,rfl,hC _ rfl h5⟩
  |false=>
   simp only[yaa];cases h8:x.Custody.State==8 with
   |true=>exact mv 4 (by have:x.Custody.State=8:=(by simpa using h8);omega)
   |false=>
    simp only[yaa];cases h11:x.Custody.State==11 with
    |true=>exact mv 14 (by have:x.Custody.State=11:=(by simpa using h11);omega)
    |false=>
     simp only[yaa];cases h6:x.Custody.State==6 with
     |true=>exact mv 7 (by have:x.Custody.State=6:=(by simpa using h6);omega)
     |false=>
      simp only[yaa];rw[b3k m.short _ _ 12 (by decide)];exact o4
end
section
theorem g69 {c:Circ} (h:MidP c) (r:Int):(c.Holds.filter (z8 r c.Today)).length<20:=by
 have e:c.Holds.filter (z8 r c.Today)=(c.Holds.filter (fun o=>o.Record==r)).filter (z8 r c.Today):=by
  rw[ybL];apply ybW;intro o _;unfold z8;cases o.Record==r<;>simp
 rw[e];have:=yax (z8 r c.Today) (c.Holds.filter (fun o=>o.Record==r));have:=h.few r;omega
theorem f4m {c:Circ} (h:MidP c) (x:Item) (branch:Int):qbj c.Holds x branch c.Today c.Local=some (b45 branch c.Local x (w7 (c.Holds.filter (z8 x.Record c.Today))) 0):=
 e4v h.holdsN (g69 h x.Record) (fun o ho=>(h.rank o ho).1)
end
section
def a8f {σ τ β:Type} (φ:σ→τ):Option (σ⊕β)→Option (τ⊕β)
 |some (.inl s)=>some (.inl (φ s))
 |some (.inr b)=>some (.inr b)
 |none=>none
theorem a7d {σ τ β:Type} (φ:σ→τ) (b:Bool) (x y:Option (σ⊕β)):a8f φ (bif b then x else y)=bif b then a8f φ x else a8f φ y:=by cases b<;>rfl
theorem b6l {σ τ β:Type} (φ:σ→τ) (s:σ):a8f (β:=β) φ (some (.inl s))=some (.inl (φ s)):=rfl
theorem b6m {σ τ β:Type} (φ:σ→τ) (b:β):a8f φ (some (.inr b))=some (.inr b):=rfl
theorem b1x {σ τ β:Type} (φ:σ→τ):a8f (β:=β) φ none=none:=rfl
theorem e2q {σ τ β:Type} {f:σ→Option (σ⊕β)} {g:τ→Option (τ⊕β)} (φ:σ→τ) (h:∀s,g (φ s)=a8f φ (f s)):∀(k:Nat) (s:σ),m9 g k (φ s)=m9 f k s:=by
 intro k
 induction k with
 |zero=>intro s;rfl
 |succ k ih=>
  intro s;rw[m9,m9,h];cases hf:f s with
  |none=>rfl
  |some q=>
   cases q with
   |inl s'=>exact ih s'
   |inr b=>rfl
theorem b90 {σ τ β:Type} {f:σ→Option (σ⊕β)} {g:τ→Option (τ⊕β)} (φ:σ→τ) (h:∀s,g (φ s)=a8f φ (f s)) (s:σ):b9 g (φ s)=b9 f s:=e2q φ h _ s
theorem d33 (l:List Charge) (p amount:Int):qhq l p amount=qbk l p amount:=by
 have h:=b90 (f:=e5d) (g:=b1q) (fun s=>(s.2.1,s.2.2.1,s.1,(s.1.length:Int),s.2.2.2.1,s.2.2.2.2.1,())) (by
  rintro ⟨l,p,a,i,o,u⟩;simp only[e5d,b1q,a7d];cases m6 l i with
  |none=>cases decide (i<(l.length:Int))<;>rfl
  |some x=>simp only[a7d,b6l,b6m,b1x]) (l,p,amount,0,[],())
 unfold qhq qbk;rw[show b9 b1q (p,amount,l,(l.length:Int),0,([]:List Charge),())=_ from h]
 try rfl
theorem d3z (l:List Hold) (day:Int):qga l day=qbm l day:=by
 have h:=b90 (f:=e49) (g:=b0l) (fun s=>(s.2.1,s.1,(s.1.length:Int),s.2.2.1,s.2.2.2.1,())) (by
  rintro ⟨l,d,i,o,u⟩;simp only[e49,b0l,a7d];cases m6 l i with
  |none=>cases decide (i<(l.length:Int))<;>rfl
  |some x=>simp only[a7d,b6l,b6m,b1x]) (l,day,0,[],())
 unfold qga qbm;rw[show b9 b0l (day,l,(l.length:Int),0,([]:List Int),())=_ from h]
 try rfl
theorem f4s (p:Int):∀(l:List Charge) (r:Int),(b8t p l r).1.length≤l.length:=by
 intro l
 induction l with
 |nil=>intro r;exact yaH _
 |cons x l ih=>
  intro r;unfold b8t;have h1:=ih r;have h2:=ih (r-(if x.Amount-x.Paid<r then x.Amount-x.Paid else r));cases x.Patron==p with
  |true=>
   simp only[yab];cases decide (x.Paid+(if x.Amount-x.Paid<r then x.Amount-x.Paid else r)<x.Amount) with
   |true=>simp only[yab,yaK];omega
   |false=>simp only[yaa,yaK];omega
  |false=>simp only[yaa,yaK];omega
theorem e4l {c:Circ} (hs:Short c) (h:FitP c) {p amount:Int}:a6g (qfu c p amount) (qhm c p amount):=by
 unfold qfu qhm;rw[b9d hs.patrons,a3j hs.patrons,d33];have hc:=a6m h.charges;rw[f8t (by have:=hc.1;omega) hc.2];dsimp only;cases (a2d c.Patrons p).2 with
 |false=>exact o4
 |true=>
  simp only[yaj,yaa];cases (decide (amount<1)||decide (100000000<amount)) with
  |true=>exact o4
  |false=>
   simp only[yaa,yah,yaj];have:=f4s p c.Charges amount;exact ⟨_,_,_,rfl,rfl,d1f hs (l:=(b8t p c.Charges amount).1) (by have:=hs.charges;omega) c.NextCharge⟩
end
section
theorem h3s (d:Array Int) (hs:∀i j,i≤j→j<d.size→d[i]!≤d[j]!):∀m,m≤d.size→(Go.Lib.compactUpTo d m).Pairwise (fun a b=>a<b)∧(∀x,x∈Go.Lib.compactUpTo d m↔∃j,j<m∧d[j]! = x):=by
 intro m
 induction m with
 |zero=>intro _;simp[Go.Lib.compactUpTo]
 |succ m ih=>
  intro hm;obtain ⟨h1,h2⟩:=ih (by omega);have e:Go.Lib.compactUpTo d (m+1)=Go.Lib.compactUpTo d m++(if Go.Lib.keeps d m=true then [d[m]!] else []):=by
   unfold Go.Lib.compactUpTo;rw[List.range_succ,yb7,List.map_append];congr 1;simp only[ybb,List.filter_nil];split<;>rfl
  rw[e];by_cases hk:Go.Lib.keeps d m=true
  ·rw[yaQ hk];have hk2:m=0∨¬d[m]! = d[m-1]!:=by
    unfold Go.Lib.keeps at hk;exact yaR hk
   have hlt:∀x∈Go.Lib.compactUpTo d m,x<d[m]!:=by
    intro x hx;obtain ⟨j,hj,rfl⟩:=(h2 x).1 hx;have a:=hs j (m-1) (by omega) (by omega);have b:=hs (m-1) m (by omega) (by omega);rcases hk2 with h|h
    ·omega
    ·omega
   constructor
   ·rw[List.pairwise_append];refine ⟨h1,by simp,fun a ha b hb=>?_⟩;have:b=d[m]!:=by simpa using hb
    rw[this];exact hlt a ha
   ·intro x;rw[yas,h2];constructor
    ·rintro (⟨j,hj,e⟩|hx)
     ·exact ⟨j,by omega,e⟩
     ·have:x=d[m]!:=by simpa using hx
      exact ⟨m,by omega,this.symm⟩
    ·rintro ⟨j,hj,e⟩;by_cases hjm:j=m
     ·right;rw[←e,hjm];simp
     ·left;exact ⟨j,by omega,e⟩
  ·rw[yat hk,List.append_nil];have hk2:¬m=0∧d[m]! = d[m-1]!:=by
    unfold Go.Lib.keeps at hk;have:=fun h=>hk (decide_eq_true h)
    constructor
    ·intro h;exact this (.inl h)
    ·by_cases q:d[m]! = d[m-1]!
     ·exact q
     ·exact absurd (.inr q) this
   refine ⟨h1,fun x=>?_⟩;rw[h2];constructor
   ·rintro ⟨j,hj,e⟩;exact ⟨j,by omega,e⟩
   ·rintro ⟨j,hj,e⟩;by_cases hjm:j=m
    ·exact ⟨m-1,by omega,by rw[←e,hjm,hk2.2]⟩
    ·exact ⟨j,by omega,e⟩
theorem f1p (l:List Int):(Go.Lib.compact (l.mergeSort fun x y=>decide (x≤y))).Pairwise (fun a b=>a<b)∧∀x,x∈Go.Lib.compact (l.mergeSort fun x y=>decide (x≤y))↔x∈l:=by
 have hp:=List.pairwise_mergeSort (le:=fun x y:Int=>decide (x≤y)) (fun a b c h1 h2=>by simp only[yad]at *;omega) (fun a b=>by simp only[ybi,yad];omega) l;have hm:∀x,x∈(l.mergeSort fun x y=>decide (x≤y))↔x∈l:=fun x=>List.mem_mergeSort
 generalize (l.mergeSort fun x y=>decide (x≤y))=s at hp hm;have hget:∀i (h:i<s.length),s.toArray[i]! = s[i]:=fun i h=>by simp[h]
 obtain ⟨h1,h2⟩:=h3s s.toArray (fun i j hij hj=>by
  have hj2:j<s.length:=by simpa using hj
  rw[hget i (by omega),hget j hj2];by_cases e:i=j
  ·subst e;exact yb1 _
  ·have:=(ybf.1 hp) i j (by omega) hj2 (by omega);simpa using this) s.length (by simp)
 refine ⟨h1,fun x=>?_⟩;unfold Go.Lib.compact;rw[h2,←hm];constructor
 ·rintro ⟨j,hj,rfl⟩;rw[hget j hj];exact ybs hj
 ·intro hx;obtain ⟨j,hj,e⟩:=List.getElem_of_mem hx;exact ⟨j,hj,by rw[hget j hj,e]⟩
def e10 (day:Int) (o:Hold):Bool:=o.State==3&&decide (o.Until<day)
theorem c34 {X Y:Type} (q:X→Bool) (f:X→Y):∀(l:List X) (s:List Y),l.foldl (fun s x=>bif q x then s++[f x] else s) s=s++(l.filter q).map f:=by
 intro l
 induction l with
 |nil=>intro s;simp
 |cons x l ih=>
  intro s;rw[ya9,ih,ybb];cases q x<;>simp
theorem f8u {l:List Hold} {day:Int} (hl:l.length<1000000000):qbm l day=some ((l.filter (e10 day)).map (fun o=>o.ID)):=by
 have h:=s8 (step:=b0l) (fun (i:Nat) (s:List Int)=>s.length≤i) (fun i s=>(day,l,(l.length:Int),(i:Int),s,())) l
  (fun i x s=>.inl (bif e10 day x then s++[x.ID] else s)) (fun s=>(s,())) (by rw[m5];omega)
  (fun s _=>by simp only[b0l,dge,yaa])
  (fun i x s hx hi=>by
   have hlt:=(zL hx)
   have l1:∀z:Int,decide (s.length+([z]:List Int).length≤LIM)=true:=fun z=>a1q (by simp;omega)
   refine ⟨?_,fun s' hs'=>?_⟩
   ·simp -zeta only[b0l,dlt hlt,c9,hx,yab,o9,l1,g9 (show i<9223372036854775807 by omega)];unfold e10;cases (x.State==3&&decide (x.Until<day))<;>rfl
   ·cases hs'
    cases e10 day x<;>simp<;>omega) [] (by simp)
 rw[z7,c34,ya1]at h;unfold qbm;rw[show b9 b0l (day,l,(l.length:Int),0,([]:List Int),())=_ from h]
theorem f8v {c:Circ} (hs:Short c):qbn c=some (Go.Lib.compact (((c.Items.filter (fun x=>x.Custody.State==3)).map (fun x=>x.Record)).mergeSort fun x y=>decide (x≤y))):=by
 have hl:=hs.items;have h:=s8 (step:=b9b) (fun (i:Nat) (s:List Int)=>s.length≤i) (fun i s=>(c.Items,(c.Items.length:Int),(i:Int),s,())) c.Items
  (fun i x s=>.inl (bif x.Custody.State==3 then s++[x.Record] else s)) (fun s=>(s,())) (by rw[m5];omega)
  (fun s _=>by simp only[b9b,dge,yaa])
  (fun i x s hx hi=>by
   have hlt:=(zL hx)
   have l1:∀z:Int,decide (s.length+([z]:List Int).length≤LIM)=true:=fun z=>a1q (by simp;omega)
   refine ⟨?_,fun s' hs'=>?_⟩
   ·simp only[b9b,dlt hlt,c9,hx,yab,l1,g9 (show i<9223372036854775807 by omega)];cases x.Custody.State==3<;>rfl
   ·cases hs'
    cases x.Custody.State==3<;>simp<;>omega) [] (by simp)
 rw[z7,c34 (fun x:Item=>x.Custody.State==3),ya1]at h;have hf:=yax (fun x:Item=>x.Custody.State==3) c.Items;have l1:decide (((c.Items.filter (fun x=>x.Custody.State==3)).map (fun x=>x.Record)).length≤LIM)=true:=by rw[yad,ybe];unfold LIM;omega
 have l2:decide ((((c.Items.filter (fun x=>x.Custody.State==3)).map (fun x=>x.Record)).mergeSort fun x y=>decide (x≤y)).length≤LIM)=true:=by rw[yad,List.length_mergeSort,ybe];unfold LIM;omega
 unfold qbn;rw[show b9 b9b (c.Items,(c.Items.length:Int),0,([]:List Int),())=_ from h];simp only[qc3,qdl,l1,l2,yab]
theorem c01 {c:Circ} {id e:Int} (hs:Short c) (he:e≠0):qbs id ⟨c,e⟩=some (a5e (fun x=>x.ID==id) c.Items,⟨c,e⟩):=by
 have he2:(e==0)=false:=by simpa using he
 unfold qbs;simp only[d63 hs.items];cases decide (a5e (fun x:Item=>x.ID==id) c.Items<0) with
 |true=>simp only[yab,qp,he2,yaa]
 |false=>rfl
theorem c00 {c:Circ} (hs:Short c) (o:Hold) {e:Int} (he:e≠0):qc6 o ⟨c,e⟩=some ((),⟨c,e⟩):=by
 have he2:(e==0)=false:=by simpa using he
 unfold qc6;simp only[a4v c _ e he,c01 hs he,he2,yan,yab];cases !(o.State==3)<;>rfl
theorem c3t {ids:List Int} {n:Nat} {v:Circ} {c:Circ} {e:Int} (hn:ids.length=n) (hl:n<1000000000) (hs:Short c) (he:e≠0):∀k i:Nat,i+k=n→m9 a5k (k+1) (ids,(n:Int),(i:Int),v,⟨c,e⟩,())=some (v,⟨c,e⟩,()):=by
 intro k
 induction k with
 |zero=>
  intro i hi;have:i=n:=by omega
  subst this;simp only[m9,a5k,dge,yaa]
 |succ k ih=>
  intro i hi;have hlt:i<n:=by omega
  have hx:ids[i]?=some (ids[i]'(by omega)):=yac (by omega);have hst:a5k (ids,(n:Int),(i:Int),v,⟨c,e⟩,())=some (.inl (ids,(n:Int),((i+1:Nat):Int),v,⟨c,e⟩,())):=by
   simp only[a5k,dlt hlt,yab,c9,hx,b5k hs.holds,c00 hs _ he,g9 (show i<9223372036854775807 by omega)];cases (b2m c.Holds (ids[i]'(by omega))).2<;>rfl
  rw[m9,hst];exact ih (i+1) (by omega)
theorem f1u {ids:List Int} {n:Nat} {v:Circ} (hn:ids.length=n) (hl:n<1000000000) (hnd:ids.Nodup):∀(k i:Nat) (c:Circ),i+k=n→MidP c→a54 c→(∀id∈ids.drop i,∃o∈c.Holds,o.ID=id)→
 (∃d,m9 a5k (k+1) (ids,(n:Int),(i:Int),v,⟨c,0⟩,())=some (v,⟨d,0⟩,())∧m9 a5m (k+1) (ids,(i:Int),c,v,())=some (.inl (d,v,()))∧MidP d∧d.Items.map (fun x=>x.Record)=c.Items.map (fun x=>x.Record))∨
 (∃d e,e≠0∧Short d∧m9 a5k (k+1) (ids,(n:Int),(i:Int),v,⟨c,0⟩,())=some (v,⟨d,e⟩,())∧m9 a5m (k+1) (ids,(i:Int),c,v,())=some (.inr (e,o7,()))):=by
 intro k
 induction k with
 |zero=>
  intro i c hi h hr hh;have:i=n:=by omega
  subst this;refine .inl ⟨c,?_,?_,h,rfl⟩
  ·simp only[m9,a5k,dge,yaa]
  ·simp only[m9,a5m,hn,dge,yaa]
 |succ k ih=>
  intro i c hi h hr hh;have hlt:i<n:=by omega
  have hdrop:ids.drop i=ids[i]'(by omega)::ids.drop (i+1):=ya7 (by omega);have hx:ids[i]?=some (ids[i]'(by omega)):=yac (by omega);rw[hdrop]at hh;have hnd2:(ids.drop i).Nodup:=List.Nodup.sublist (List.drop_sublist i ids) hnd;rw[hdrop,List.nodup_cons]at hnd2;generalize ids[i]'(by omega)=x at hx hh hnd2 hdrop;obtain ⟨o,ho,hid⟩:=hh x (yaA ..);subst hid;have hg:=a5w h.sorted ho;have hsu:=g9 (show i<9223372036854775807 by omega);rcases d1p h ho (hr o ho) with ⟨d,a1,a2,hd,⟨b,rfl,hf⟩,hrd⟩|⟨d,e,he,a1,a2,hsd⟩
  ·have s1:a5k (ids,(n:Int),(i:Int),v,⟨c,0⟩,())=some (.inl (ids,(n:Int),((i+1:Nat):Int),v,⟨d,0⟩,())):=by
    simp only[a5k,dlt hlt,yab,c9,hx,b5k h.short.holds,hg,a1,hsu]
   have s2:a5m (ids,(i:Int),c,v,())=some (.inl (ids,((i+1:Nat):Int),d,v,())):=by
    simp only[a5m,hn,dlt hlt,yab,c9,hx,a2,yah,yaj,yaa,hsu]
   have hd2:∀id∈ids.drop (i+1),∃p∈d.Holds,p.ID=id:=by
    intro id hid;obtain ⟨p,hp,e⟩:=hh id (yaC _ hid);have hne:¬p.ID=o.ID:=by
     intro q;rw[e]at q;rw[q]at hid;exact hnd2.1 hid
    have hp2:p∈c.Holds.filter (fun x=>!(x.ID==o.ID)):=yaz.2 ⟨hp,by simpa using hne⟩;have hk:a1j p∈d.Holds.map a1j:=by rw[hf.holds];exact List.mem_map_of_mem hp2
    obtain ⟨p',hp',e'⟩:=yba.1 hk;unfold a1j at e';simp only[yaO]at e';exact ⟨p',hp',e'.1.trans e⟩
   rw[m9,m9,s1,s2];rcases ih (i+1) d (by omega) hd (hrd hr) hd2 with ⟨d2,b1,b2,b3,b4⟩|⟨d2,e,he,hsd,b1,b2⟩
   ·exact .inl ⟨d2,b1,b2,b3,b4.trans hf.recs⟩
   ·exact .inr ⟨d2,e,he,hsd,b1,b2⟩
  ·have he2:(e==0)=false:=by simpa using he
   have s1:a5k (ids,(n:Int),(i:Int),v,⟨c,0⟩,())=some (.inl (ids,(n:Int),((i+1:Nat):Int),v,⟨d,e⟩,())):=by
    simp only[a5k,dlt hlt,yab,c9,hx,b5k h.short.holds,hg,a1,hsu]
   have s2:a5m (ids,(i:Int),c,v,())=some (.inr (.inr (e,o7,()))):=by
    simp only[a5m,hn,dlt hlt,yab,c9,hx,a2,he2,yan,yaa]
    try rfl
   rw[m9,m9,s1,s2];exact .inr ⟨d,e,he,hsd,c3t hn hl hsd he k (i+1) (by omega),rfl⟩
def a6a (last:Int) (l:List Item) (r:Int):Int:=l.foldl (fun r x=>bif (x.Custody.State==3&&decide (last<x.Record))&&(r==0||decide (x.Record<r)) then x.Record else r) r
theorem a8q (last:Int):∀(l:List Item) (r:Int),(∀x∈l,1≤x.Record)→
 (a6a last l r=r∨∃x∈l,x.Custody.State=3∧last<x.Record∧a6a last l r=x.Record)∧(∀x∈l,x.Custody.State=3→last<x.Record→a6a last l r≠0∧a6a last l r≤x.Record)∧(r≠0→a6a last l r≠0∧a6a last l r≤r):=by
 intro l
 induction l with
 |nil=>intro r _;exact ⟨.inl rfl,by simp,fun h=>⟨h,yb1 _⟩⟩
 |cons y l ih=>
  intro r hr;have hy:=hr y (yaA ..);have ih:=fun r=>ih r (fun x hx=>hr x (yaC _ hx))
  have e:a6a last (y::l) r=a6a last l (bif (y.Custody.State==3&&decide (last<y.Record))&&(r==0||decide (y.Record<r)) then y.Record else r):=rfl;rw[e];cases hq:(y.Custody.State==3&&decide (last<y.Record))&&(r==0||decide (y.Record<r)) with
  |true=>
   simp only[yab];simp only[yae,ybi,ya2,yad]at hq;obtain ⟨h1,h2,h3⟩:=ih y.Record;have h3:=h3 (by omega);refine ⟨?_,?_,fun h=>⟨h3.1,by rcases hq.2 with q|q<;>omega⟩⟩
   ·rcases h1 with h1|⟨x,hx,a,b,c⟩
    ·exact .inr ⟨y,yaA ..,hq.1.1,hq.1.2,h1⟩
    ·exact .inr ⟨x,yaC _ hx,a,b,c⟩
   ·intro x hx a b;rcases yaN.1 hx with rfl|hx
    ·exact h3
    ·exact h2 x hx a b
  |false=>
   simp only[yaa];obtain ⟨h1,h2,h3⟩:=ih r;refine ⟨?_,?_,h3⟩
   ·rcases h1 with h1|⟨x,hx,a,b,c⟩
    ·exact .inl h1
    ·exact .inr ⟨x,yaC _ hx,a,b,c⟩
   ·intro x hx a b;rcases yaN.1 hx with rfl|hx
    ·have a2:(x.Custody.State==3)=true:=by simpa using a
     have b2:decide (last<x.Record)=true:=by simpa using b
     rw[a2,b2]at hq;simp only[ybO,yaT,yai,yaV,ne_eq,yaf]at hq;have h3:=h3 hq.1;exact ⟨h3.1,by omega⟩
    ·exact h2 x hx a b
theorem a5b {last:Int} {c v:Circ} (hl:c.Items.length<1000000000):b9 b5v (last,0,0,c,v,())=some (a6a last c.Items 0,c,v,()):=by
 have h:=a7e (step:=b5v) (fun i (s:Int)=>(last,s,(i:Int),c,v,())) c.Items (fun x r=>bif (x.Custody.State==3&&decide (last<x.Record))&&(r==0||decide (x.Record<r)) then x.Record else r) (fun s=>(s,c,v,())) hl
  (fun s=>by simp only[b5v,dge,yaa])
  (fun i x s hx=>by
   have hi:=(zL hx)
   simp only[b5v,dlt hi,yab,c9,hx,g9 (show i<9223372036854775807 by omega)];cases x.Custody.State==3<;>cases decide (last<x.Record)<;>cases s==0<;>cases decide (x.Record<s)<;>rfl) 0
 exact h
theorem d1i {all:List Int} {n:Nat} {v:Circ} {c:Circ} {e:Int} (hn:all.length=n) (hl:n<1000000000) (he:e≠0):∀k i:Nat,i+k=n→m9 a2r (k+1) (all,(n:Int),(i:Int),v,⟨c,e⟩,())=some (v,⟨c,e⟩,()):=by
 intro k
 induction k with
 |zero=>
  intro i hi;have:i=n:=by omega
  subst this;simp only[m9,a2r,dge,yaa]
 |succ k ih=>
  intro i hi;have hlt:i<n:=by omega
  have hx:all[i]?=some (all[i]'(by omega)):=yac (by omega);have hst:a2r (all,(n:Int),(i:Int),v,⟨c,e⟩,())=some (.inl (all,(n:Int),((i+1:Nat):Int),v,⟨c,e⟩,())):=by
   simp only[a2r,dlt hlt,yab,c9,hx,a32 c _ e he,g9 (show i<9223372036854775807 by omega)]
  rw[m9,hst];exact ih (i+1) (by omega)
theorem h8k {all:List Int} {n:Nat} {v w:Circ} (hn:all.length=n) (hl:n<1000000000):∀(k i:Nat) (last:Int) (c:Circ),i+k=n→MidP c→(∀x∈c.Items,1≤x.Record)→
 (∀r,last<r→(r∈all.drop i↔∃x∈c.Items,x.Custody.State=3∧x.Record=r))→(∀r∈all.drop i,last<r)→(all.drop i).Pairwise (fun a b=>a<b)→
 (∃d,m9 a2r (k+1) (all,(n:Int),(i:Int),v,⟨c,0⟩,())=some (v,⟨d,0⟩,())∧m9 a29 (k+1) (last,c,w,())=some (0,d,())∧MidP d)∨
 (∃d e,e≠0∧Short d∧m9 a2r (k+1) (all,(n:Int),(i:Int),v,⟨c,0⟩,())=some (v,⟨d,e⟩,())∧m9 a29 (k+1) (last,c,w,())=some (e,o7,())):=by
 intro k
 induction k with
 |zero=>
  intro i last c hi h hr hall hlast hp;have:i=n:=by omega
  subst this;have hnil:all.drop i=[]:=List.drop_eq_nil_of_le (by omega);obtain ⟨q1,q2,q3⟩:=a8q last c.Items 0 hr;have h0:a6a last c.Items 0=0:=by
   rcases q1 with q1|⟨x,hx,a,b,-⟩
   ·exact q1
   ·have:=(hall x.Record b).2 ⟨x,hx,a,rfl⟩;rw[hnil]at this;cases this
  refine .inl ⟨c,?_,?_,h⟩
  ·simp only[m9,a2r,dge,yaa]
  ·simp only[m9,a29,a5b h.short.items,h0,yah,yab]
 |succ k ih=>
  intro i last c hi h hr hall hlast hp;have hlt:i<n:=by omega
  have hdrop:all.drop i=all[i]'(by omega)::all.drop (i+1):=ya7 (by omega);have hx:all[i]?=some (all[i]'(by omega)):=yac (by omega);rw[hdrop]at hall hlast hp;generalize all[i]'(by omega)=r at hx hall hlast hp hdrop;rw[List.pairwise_cons]at hp;have hlr:=hlast r (yaA ..);obtain ⟨x0,hx0,s0,rfl⟩:=(hall r hlr).1 (yaA ..);obtain ⟨q1,q2,q3⟩:=a8q last c.Items 0 hr;have hnext:a6a last c.Items 0=x0.Record:=by
   have a:=q2 x0 hx0 s0 hlr;rcases q1 with q1|⟨y,hy,b1,b2,b3⟩
   ·exact absurd q1 a.1
   ·have:=(hall y.Record b2).2 ⟨y,hy,b1,rfl⟩;rcases yaN.1 this with e|e
    ·rw[b3,e]
    ·have:=hp.1 _ e;have:=a.2;omega
  have hpos:=hr x0 hx0;have hne:(x0.Record==0)=false:=by
   have:¬x0.Record=0:=by omega
   simpa using this
  have hsu:=g9 (show i<9223372036854775807 by omega);rcases b6g h x0.Record with ⟨d,a1,a2,hd,hf,hrest⟩|⟨d,e,he,a1,a2,hsd⟩
  ·have s1:a2r (all,(n:Int),(i:Int),v,⟨c,0⟩,())=some (.inl (all,(n:Int),((i+1:Nat):Int),v,⟨d,0⟩,())):=by
    simp only[a2r,dlt hlt,yab,c9,hx,a1,hsu]
   have s2:a29 (last,c,w,())=some (.inl (x0.Record,d,w,())):=by
    simp only[a29,a5b h.short.items,hnext,hne,yaa,a2,yah,yaj]
   rw[m9,m9,s1,s2];have back:∀(j:Nat) (y:Item),d.Items[j]?=some y→∃y',c.Items[j]?=some y'∧y'.Record=y.Record:=by
    intro j y hy;have h1:(d.Items.map (fun x=>x.Record))[j]?=some y.Record:=by rw[yaJ,hy];rfl
    rw[hrest.1,yaJ]at h1;cases hc:c.Items[j]? with
    |none=>rw[hc]at h1;cases h1
    |some y'=>rw[hc]at h1;exact ⟨y',rfl,by simpa using h1⟩
   have hr2:∀x∈d.Items,1≤x.Record:=by
    intro y hy;obtain ⟨j,hj⟩:=yav hy;obtain ⟨y',hy',e⟩:=back j y hj;rw[←e];exact hr y' (yag hy')
   have hall2:∀r,x0.Record<r→(r∈all.drop (i+1)↔∃x∈d.Items,x.Custody.State=3∧x.Record=r):=by
    intro r hlr2;constructor
    ·intro hm;obtain ⟨y,hy,b1,b2⟩:=(hall r (by omega)).1 (yaC _ hm);obtain ⟨j,hj⟩:=yav hy;exact ⟨y,yag (hrest.2 j y hj (by omega)),b1,b2⟩
    ·rintro ⟨y,hy,b1,b2⟩;obtain ⟨j,hj⟩:=yav hy;obtain ⟨y',hy',e⟩:=back j y hj;have h3:=hrest.2 j y' hy' (by omega);rw[hj]at h3;cases h3
     have:=(hall r (by omega)).2 ⟨y,yag hy',b1,b2⟩;rcases yaN.1 this with e2|e2
     ·omega
     ·exact e2
   rcases ih (i+1) x0.Record d (by omega) hd hr2 hall2 hp.1 hp.2 with ⟨d2,b1,b2,b3⟩|⟨d2,e,he,hsd,b1,b2⟩
   ·exact .inl ⟨d2,b1,b2,b3⟩
   ·exact .inr ⟨d2,e,he,hsd,b1,b2⟩
  ·have he2:(e==0)=false:=by simpa using he
   have s1:a2r (all,(n:Int),(i:Int),v,⟨c,0⟩,())=some (.inl (all,(n:Int),((i+1:Nat):Int),v,⟨d,e⟩,())):=by
    simp only[a2r,dlt hlt,yab,c9,hx,a1,hsu]
   have s2:a29 (last,c,w,())=some (.inr (e,o7,())):=by
    simp only[a29,a5b h.short.items,hnext,hne,yaa,a2,he2,yan,yab]
    try rfl
   rw[m9,m9,s1,s2];exact .inr ⟨d,e,he,hsd,d1i hn hl he k (i+1) (by omega),rfl⟩
def a1p (c:Circ) (n:Int):Circ:=⟨n,c.Items,c.Patrons,c.Loans,c.Holds,c.Charges,c.Rules,c.Cals,c.Moves,c.NextHold,c.NextCharge,c.Local⟩
theorem e85 {c:Circ} (h:MidP c) (n:Int):MidP (a1p c n):=by
 obtain ⟨⟨a1,a2,a3,a4,a5,a6,a7,a8,a9,a10,a11,a12,a13⟩,h2,h3,h4,h5,h6,h7,h8,h9,h10,h11⟩:=h;exact ⟨⟨a1,a2,a3,a4,a5,a6,a7,a8,a9,a10,a11,a12,a13⟩,h2,h3,h4,h5,h6,h7,h8,h9,h10,h11⟩
theorem c8w {c:Circ} (h:FitP c) {x:Item} (hx:x∈c.Items):1≤x.Record:=by
 have h:=h.items;unfold a04 at h;simp only[yae]at h;obtain ⟨i,hi⟩:=yav hx;have:=(a44.1 h.2.1) i x hi;rw[yaF]at this;simp only[yao,yai,yau]at this;have h2:=this.1;unfold y6 at h2;simp only[yae,w8]at h2;omega
theorem b56 (d:Circ):(Go.Lib.compact (((d.Items.filter (fun x=>x.Custody.State==3)).map (fun x=>x.Record)).mergeSort fun x y=>decide (x≤y))).length≤d.Items.length:=by
 have q1:∀(l:List Int) (k:Nat),(Go.Lib.compactUpTo l.toArray k).length≤k:=by
  intro l k;unfold Go.Lib.compactUpTo;rw[ybe];have:=yax (Go.Lib.keeps l.toArray) (List.range k);rw[List.length_range]at this;exact this
 have q2:=q1 (((d.Items.filter (fun x=>x.Custody.State==3)).map (fun x=>x.Record)).mergeSort fun x y=>decide (x≤y)) (((d.Items.filter (fun x=>x.Custody.State==3)).map (fun x=>x.Record)).mergeSort fun x y=>decide (x≤y)).length;unfold Go.Lib.compact;rw[List.length_mergeSort,ybe]at q2;have:=yax (fun x:Item=>x.Custody.State==3) d.Items;rw[List.length_mergeSort,ybe];omega
theorem e1x {c:Circ} (m:MidP c) (h:FitP c) (hh:c.Holds.length<100000) (hi:c.Items.length<100000) (hrec:∀x∈c.Items,1≤x.Record):a80 (qai c) (qhn c):=by
 unfold qai qhn;simp only[d3z,qae];cases decide (109572≤c.Today) with
 |true=>exact p9
 |false=>
  simp only[yaa,f8u m.short.holds];have m1:=e85 m (wr .i64 (c.Today+1));have r1:a54 (a1p c (wr .i64 (c.Today+1))):=fun o ho hs=>b78 h ho hs
  have hmem:∀id∈(c.Holds.filter (e10 (wr .i64 (c.Today+1)))).map (fun o=>o.ID),∃o∈(a1p c (wr .i64 (c.Today+1))).Holds,o.ID=id:=by
   intro id hid;obtain ⟨o,ho,e⟩:=yba.1 hid;exact ⟨o,(yaz.1 ho).1,e⟩
  have hnd:((c.Holds.filter (e10 (wr .i64 (c.Today+1)))).map (fun o=>o.ID)).Nodup:=by
   have h1:=(a7c.1 m.sorted).filter (e10 (wr .i64 (c.Today+1)));rw[List.nodup_iff_pairwise_ne,yby];exact h1.imp (fun h=>by omega)
  have hlen:((c.Holds.filter (e10 (wr .i64 (c.Today+1)))).map (fun o=>o.ID)).length<1000000:=by
   rw[ybe];have:=yax (e10 (wr .i64 (c.Today+1))) c.Holds;omega
  generalize (c.Holds.filter (e10 (wr .i64 (c.Today+1)))).map (fun o=>o.ID)=ids at hmem hnd hlen;rw[show {c with Today:=wr .i64 (c.Today+1)}=a1p c (wr .i64 (c.Today+1)) from rfl];have hrec1:∀r∈(a1p c (wr .i64 (c.Today+1))).Items.map (fun x=>x.Record),1≤r:=by
   intro r hr;obtain ⟨x,hx,rfl⟩:=yba.1 hr;exact hrec x hx
  have hil:(a1p c (wr .i64 (c.Today+1))).Items.length<100000:=hi;generalize a1p c (wr .i64 (c.Today+1))=c1 at m1 r1 hmem hrec1 hil;rcases f1u (v:=o7) (n:=ids.length) rfl (by omega) hnd ids.length 0 c1 (by omega) m1 r1 (by rw[ybw];exact hmem) with ⟨d,a1,a2,hd,hrd⟩|⟨d,e,he,hsd,a1,a2⟩
  ·have w1:=n5 _ (by rw[m5];omega) a1;have w2:=n5 _ (by rw[m5];omega) a2;rw[show b9 a5k (ids,(ids.length:Int),0,ZN,⟨c1,0⟩,())=_ from w1,
    show b9 a5m (ids,0,c1,ZN,())=_ from w2]
   simp only[f8v hd.short];have hcs:=f1p ((d.Items.filter (fun x=>x.Custody.State==3)).map (fun x=>x.Record));have hcl:=b56 d;have hdi:=hd.short.items;generalize Go.Lib.compact (((d.Items.filter (fun x=>x.Custody.State==3)).map (fun x=>x.Record)).mergeSort fun x y=>decide (x≤y))=all at hcs hcl;have hrd2:∀x∈d.Items,1≤x.Record:=fun x hx=>hrec1 _ (by rw[←hrd];exact List.mem_map_of_mem hx)
   have hall:∀r,r∈all↔∃x∈d.Items,x.Custody.State=3∧x.Record=r:=by
    intro r;rw[hcs.2,yba];constructor
    ·rintro ⟨x,hx,e⟩;have:=yaz.1 hx;exact ⟨x,this.1,by simpa using this.2,e⟩
    ·rintro ⟨x,hx,hs,e⟩;exact ⟨x,yaz.2 ⟨hx,by simpa using hs⟩,e⟩
   rcases h8k (v:=o7) (w:=o7) (n:=all.length) rfl (by omega) all.length 0 0 d (by omega) hd hrd2 (fun r _=>by rw[ybw];exact hall r) (fun r hr=>by
    rw[ybw]at hr;obtain ⟨x,hx,-,e⟩:=(hall r).1 hr;have:=hrd2 x hx;omega) (by rw[ybw];exact hcs.1) with ⟨d2,b1,b2,hd2⟩|⟨d2,e,he,hsd,b1,b2⟩
   ·have w1:=n5 _ (by rw[m5];omega) b1;have w2:=n5 _ (by rw[m5];omega) b2;rw[show b9 a2r (all,(all.length:Int),0,o7,⟨d,0⟩,())=_ from w1,show b9 a29 (0,d,o7,())=_ from w2];exact ⟨d2,0,rfl,rfl,hd2.short⟩
   ·have w1:=n5 _ (by rw[m5];omega) b1;have w2:=n5 _ (by rw[m5];omega) b2;rw[show b9 a2r (all,(all.length:Int),0,o7,⟨d,0⟩,())=_ from w1,show b9 a29 (0,d,o7,())=_ from w2];simp only[o5 d2 e he];exact p9
  ·have w1:=n5 _ (by rw[m5];omega) a1;have w2:=n5 _ (by rw[m5];omega) a2;rw[show b9 a5k (ids,(ids.length:Int),0,ZN,⟨c1,0⟩,())=_ from w1,
    show b9 a5m (ids,0,c1,ZN,())=_ from w2]
   simp only[f8v hsd];have hcl:=b56 d;have hdi:=hsd.items;generalize Go.Lib.compact (((d.Items.filter (fun x=>x.Custody.State==3)).map (fun x=>x.Record)).mergeSort fun x y=>decide (x≤y))=all at hcl;have w3:=n5 _ (by rw[m5];omega) (d1i (all:=all) (v:=o7) (c:=d) rfl (by omega) he all.length 0 (by omega));rw[show b9 a2r (all,(all.length:Int),0,o7,⟨d,e⟩,())=_ from w3];simp only[o5 d e he];exact p9
end
section
theorem b1u (m:Move) (item:Int):∀(l:List Move) (i:Nat) (c:Custody),
 a0h i (l++[m]) item c=(match a0h i l item c with
  |.inl c'=>bif m.Item==item then (bif (p8 c' m).2==0 then .inl (p8 c' m).1 else .inr (((i+l.length:Nat):Int),(p8 c' m).2)) else .inl c'
  |.inr p=>.inr p):=by
 intro l
 induction l with
 |nil=>
  intro i c;simp only[ya1,a0h,ybQ,ybl]
 |cons x l ih=>
  intro i c;simp only[yb2,a0h];rw[ih,ih];have e:i+1+l.length=i+(x::l).length:=by simp;omega
  rw[e];cases x.Item==item with
  |false=>rfl
  |true=>
   simp only[yab];cases (p8 c x).2==0<;>rfl
theorem c6q {branch:Int} {l:List Move} {m:Move} {item:Int} (h:(m.Item==item)=false) (hr:(a0s branch l item).2.2=0):a0s branch (l++[m]) item=a0s branch l item:=by
 unfold a0s at *;rw[b1u,h];cases decide (branch<1)||decide (4<branch) with
 |true=>rfl
 |false=>cases a0h 0 l item (b2e branch)<;>rfl
theorem c9x {branch:Int} {l:List Move} {m:Move} {item:Int} {u:Custody} (h:m.Item=item) (hr:(a0s branch l item).2.2=0) (ha:p8 (a0s branch l item).1 m=(u,0)):a0s branch (l++[m]) item=(u,-1,0):=by
 unfold a0s at *;rw[b1u,show (m.Item==item)=true by simpa using h];cases hb:(decide (branch<1)||decide (4<branch)) with
 |true=>rw[hb]at hr;cases hr
 |false=>
  rw[hb]at hr ha;simp only[yaa]at hr ha ⊢;cases hf:a0h 0 l item (b2e branch) with
  |inr p=>
   obtain ⟨i,e⟩:=p;rw[hf]at hr ha;simp only at hr ha;subst hr;exact absurd hf (by
    have key:∀(l:List Move) (i:Nat) (c:Custody) (j:Int),a0h i l item c≠.inr (j,0):=by
     intro l
     induction l with
     |nil=>intro i c j h;cases h
     |cons x l ih=>
      intro i c j h;unfold a0h at h;cases hx:x.Item==item with
      |false=>rw[hx]at h;exact ih _ _ _ h
      |true=>
       rw[hx]at h;simp only[yab]at h;cases hz:(p8 c x).2==0 with
       |true=>rw[hz]at h;exact ih _ _ _ h
       |false=>
        rw[hz]at h;simp only[yaa]at h;have h2:=Sum.inr.inj h;have h3:(p8 c x).2=0:=(Prod.mk.inj h2).2;rw[h3]at hz;cases hz
    exact key _ _ _ _)
  |inl c'=>
   rw[hf]at ha;simp only at ha ⊢;rw[ha]
   try rfl
def b9x (x:Item) (u:Custody) (z:Item):Item:=bif z.ID==x.ID then y3 u z else z
theorem d4c {l:List Item} {i:Nat} {x:Item} {u:Custody} (hi:∀(i:Nat) (x:Item) (j:Nat) (y:Item),l[i]?=some x→l[j]?=some y→x.ID=y.ID→i=j) (hx:l[i]?=some x):l.set i (y3 u x)=l.map (b9x x u):=by
 apply List.ext_getElem?;intro j;rw[yaJ];by_cases e:i=j
 ·subst e;rw[ybv (zL hx),hx];unfold b9x;simp
 ·rw[List.getElem?_set_ne e];cases hj:l[j]? with
  |none=>rfl
  |some y=>
   have:(y.ID==x.ID)=false:=by
    rw[yaV];intro q;exact e (hi i x j y hx hj q.symm)
   show some y=some (b9x x u y)
   unfold b9x;rw[this];rfl
theorem c2g (x:Item) (u:Custody) (z:Item):(b9x x u z).ID=z.ID:=by unfold b9x;cases z.ID==x.ID<;>rfl
theorem d75 (x:Item) (u:Custody) (z:Item):y6 (b9x x u z)=y6 z:=by unfold b9x;cases z.ID==x.ID<;>rfl
theorem c98 (x:Item) (u:Custody) (z:Item):(b9x x u z).Branch=z.Branch:=by unfold b9x;cases z.ID==x.ID<;>rfl
theorem c31 (x:Item) (u:Custody) (id:Int) (l:List Item):(l.map (b9x x u)).find? (fun z=>z.ID==id)=(l.find? (fun z=>z.ID==id)).map (b9x x u):=by
 rw[List.find?_map];congr 2;funext z;show ((b9x x u z).ID==id)=_
 rw[c2g]
theorem e4q {X Y:Type} (g:X→Y) (f:Y→Bool) (l:List X) (i:Nat):u7 (l.map g) i f=u7 l i (fun z=>f (g z)):=by
 unfold u7;cases i with
 |zero=>rfl
 |succ j=>
  simp only;rw[yaJ];cases l[j]?<;>rfl
theorem d54 {c:Circ} (h:a04 c=true) (hi:∀(i:Nat) (x:Item) (j:Nat) (y:Item),c.Items[i]?=some x→c.Items[j]?=some y→x.ID=y.ID→i=j) {i:Nat} {x:Item} (hx:c.Items[i]?=some x) {m:Move} {u:Custody}
 (hm:m.Item=x.ID) (ha:p8 x.Custody m=(u,0)) (hl:c.Moves.length<2000):a04 (u0 c i x m u)=true:=by
 have hall:=fun (y:Item) (hy:y∈c.Items)=>a5x h hy
 have hmem:=yag hx;unfold a04 at h ⊢;simp only[yae]at h ⊢;obtain ⟨h1,h2,h3,h4⟩:=h;have hit:(u0 c i x m u).Items=c.Items.map (b9x x u):=d4c hi hx;have hmv:(u0 c i x m u).Moves=c.Moves++[m]:=rfl;rw[hit,hmv];refine ⟨?_,?_,?_,?_⟩
 ·rw[ybe,yaU];simp only[yao,yai,yaf]at h1 ⊢;refine ⟨h1.1,?_⟩;simp;omega
 ·rw[a44]at h2 ⊢;intro k y hk;rw[yaJ]at hk;cases hz:c.Items[k]? with
  |none=>rw[hz]at hk;cases hk
  |some z=>
   rw[hz]at hk;cases hk
   have:=h2 k z hz;rw[d75,e4q,c2g];simp only[c2g];exact this
 ·unfold c1v at h3 ⊢;rw[hmv,hit,List.all_append];simp only[yae,yam]at h3 ⊢;refine ⟨fun w hw=>?_,fun w hw=>?_⟩
  ·rw[c31,Option.isSome_map];exact h3 w hw
  ·have:w=m:=by simpa using hw
   subst this;rw[c31,Option.isSome_map,hm,List.find?_isSome];exact ⟨x,hmem,by simp⟩
 ·rw[yam];intro y hy;obtain ⟨z,hz,rfl⟩:=yba.1 hy;have hr:=hall z hz;unfold a00 at hr ⊢;simp only[yao,yai,yau,ya2]at hr ⊢;obtain ⟨r1,r2⟩:=hr;have r2:=a1h.1 r2;rw[hmv,c98,c2g];cases hq:z.ID==x.ID with
  |true=>
   have hid:z.ID=x.ID:=by simpa using hq
   have hzx:z=x:=by
    obtain ⟨j,hj⟩:=List.mem_iff_getElem?.1 hz;have:=hi j z i x hj hx hid;subst this;rw[hx]at hj;cases hj;rfl
   subst hzx;have:=c9x (branch:=z.Branch) (l:=c.Moves) (item:=z.ID) hm r1 (by rw[r2];exact ha);rw[this];refine ⟨rfl,?_⟩;rw[a1h];unfold b9x;rw[hq];rfl
  |false=>
   have hmz:(m.Item==z.ID)=false:=by
    rw[hm,yaV];rw[yaV]at hq;exact fun e=>hq e.symm
   rw[c6q hmz r1];refine ⟨r1,?_⟩;rw[a1h,r2];unfold b9x;rw[hq];rfl
end
section
theorem h1c {X:Type} (key:X→Int) {l:List X}:(∀i x,l[i]?=some x→u7 l i (fun y=>decide (key x≤key y))=false)↔l.Pairwise (fun a b=>key a<key b):=by
 constructor
 ·intro h;rw[ybf];intro i j hi hj hij;exact a2k (key:=key) h j i l[i] l[j] hij (yac hi) (yac hj)
 ·intro h i x hx;cases i with
  |zero=>rfl
  |succ j=>
   unfold u7;simp only;have hi:=(yaM.1 hx)
   have hj:j<l.length:=by have:=hi.1;omega
   rw[yac hj];have:=(ybf.1 h) j (j+1) hj hi.1 (by omega);rw[hi.2]at this;simp only[yaf];omega
theorem h8m {X:Type} (key:X→Int) (sh:X→Int) {l:List X}:a0d (fun i x=>bif u7 l i (fun y=>decide (key x≤key y)) then 7 else sh x) 0 l=0↔(∀x∈l,sh x=0)∧l.Pairwise (fun a b=>key a<key b):=by
 rw[b72,←h1c key];constructor
 ·intro h;have h2:∀i x,l[i]?=some x→u7 l i (fun y=>decide (key x≤key y))=false:=fun i x hx=>by
   have:=h i x hx;rw[yaF]at this;exact a0f this (by decide)
  refine ⟨fun x hx=>?_,h2⟩;obtain ⟨i,hi⟩:=yav hx;have:=h i x hi;rw[yaF,h2 i x hi]at this;exact this
 ·rintro ⟨h1,h2⟩ i x hx;rw[yaF,h2 i x hx];exact h1 x (yag hx)
theorem c7r {n:Nat} {m:Int} {e:Int}:(bif decide (m<(n:Int)) then (13:Int) else e)=0↔(n:Int)≤m∧e=0:=by
 by_cases h:m<(n:Int)
 ·rw[decide_eq_true h];constructor
  ·intro h;cases h
  ·rintro ⟨h2,-⟩;omega
 ·rw[decide_eq_false h];exact ⟨fun e=>⟨by omega,e⟩,fun e=>e.2⟩
def b0h (x:Loan):Int:=bif decide (x.Item<1)||decide (9999<x.Item)||decide (x.Patron<1)||decide (9999<x.Patron)||decide (x.Out<0)||decide (109572<x.Out)||decide (x.Due<0)||decide (109572<x.Due)||decide (x.Due<x.Out)||decide (x.Renewals<0)||decide (10<x.Renewals) then 2 else 0
theorem a74 {l:List Loan}:o6 l=0↔(l.length:Int)≤64∧(∀x∈l,b0h x=0)∧l.Pairwise (fun a b=>a.Item<b.Item):=by
 unfold o6;rw[c7r];exact and_congr Iff.rfl (h8m (fun x:Loan=>x.Item) b0h)
theorem a90 {l:List Charge}:s7 l=0↔(l.length:Int)≤128∧(∀x∈l,a07 x=0)∧l.Pairwise (fun a b=>a.ID<b.ID):=by
 unfold s7;rw[c7r];exact and_congr Iff.rfl (h8m (fun x:Charge=>x.ID) a07)
theorem c8o (l:List Hold):a1a l=fun i x=>bif u7 l i (fun y=>decide (x.ID≤y.ID)) then 7 else s9 x:=by
 funext i x;rw[a4w]
theorem d4m {l:List Hold}:a3c l=true↔l.Pairwise (fun a b=>a0p b a=false):=by
 unfold a3c;rw[a44,ybf];constructor
 ·intro h i j hi hj hij;have:=h j l[j] (yac hj);rw[yaF,yam]at this;have h2:=this l[i] (by rw[List.mem_take_iff_getElem];exact ⟨i,by omega,rfl⟩);simpa using h2
 ·intro h i x hx;rw[yaF,yam];intro y hy;rw[List.mem_take_iff_getElem]at hy;obtain ⟨j,hj,rfl⟩:=hy;obtain ⟨hi,rfl⟩:=yaM.1 hx;have:=h j i (by omega) hi (by omega);simpa using this
theorem b0b {l:List Hold}:t7 l=0↔(l.length:Int)≤64∧((∀x∈l,s9 x=0)∧l.Pairwise (fun a b=>a.ID<b.ID))∧l.Pairwise (fun a b=>a0p b a=false):=by
 unfold t7;rw[c7r,←d4m,←h8m (fun x:Hold=>x.ID) s9,←c8o];refine and_congr Iff.rfl ?_;by_cases e:a0d (a1a l) 0 l=0
 ·rw[e];cases a3c l<;>simp
 ·have h2:(a0d (a1a l) 0 l==0)=false:=by simpa using e
  rw[h2];exact ⟨fun h=>absurd h e,fun h=>absurd h.1 e⟩
theorem a61 {b:Bool} {n m:Int} (hn:n≠0):(bif b then n else m)=0↔b=false∧m=0:=by
 cases b with
 |true=>exact ⟨fun h=>absurd h hn,fun h=>by cases h.1⟩
 |false=>exact ⟨fun h=>⟨rfl,h⟩,fun h=>h.2⟩
theorem g5n {p:Prop} [Decidable p] {n m:Int}:(decide p=!(n==m))↔(p↔¬n=m):=by
 by_cases h:p<;>by_cases k:n=m<;>simp[h,k]
theorem g5l {p:Prop} [Decidable p] {n m:Int}:(decide p=(n==m))↔(p↔n=m):=by
 by_cases h:p<;>by_cases k:n=m<;>simp[h,k]
theorem e8x {h:Hold}:s9 h=0↔((1≤h.ID∧h.ID≤99999)∧(1≤h.Patron∧h.Patron≤9999)∧(1≤h.Record∧h.Record≤9999)∧(h.Item=0∨(1≤h.Item∧h.Item≤9999))∧(1≤h.Pickup∧h.Pickup≤4)∧(0≤h.Placed∧h.Placed≤109572)∧
 (h.Got=0∨(1≤h.Got∧h.Got≤9999))∧(0≤h.Until∧h.Until≤109572)∧(0≤h.Asleep∧h.Asleep≤109572)∧(0≤h.Rank∧h.Rank≤9))∧(1≤h.State∧h.State≤3)∧(0<h.Got↔¬h.State=1)∧(0<h.Until↔h.State=3):=by
 unfold s9;rw[a61 (by decide),a61 (by decide),a61 (by decide)];simp only[yai,yaf,yau,w8,ybk,ya2,g5n,g5l,and_true];constructor
 ·rintro ⟨h1,h2,h3⟩;exact ⟨by omega,by omega,h3⟩
 ·rintro ⟨h1,h2,h3⟩;exact ⟨by omega,by omega,h3⟩
theorem a7x {h:Hold} (e:s9 h=0):(1≤h.ID∧h.ID≤99999)∧(1≤h.Record∧h.Record≤9999)∧(1≤h.Pickup∧h.Pickup≤4)∧(h.State=1∨h.State=2∨h.State=3)∧(h.State=1→h.Got=0)∧(h.State≠1→1≤h.Got)∧(1≤h.Patron∧h.Patron≤9999):=by
 rw[e8x]at e;obtain ⟨⟨a1,a2,a3,a4,a5,a6,a7,a8,a9,a10⟩,b,c,d⟩:=e;refine ⟨a1,a3,a5,by omega,fun q=>?_,fun q=>?_,a2⟩
 ·by_cases g:0<h.Got
  ·exact absurd q (c.1 g)
  ·omega
 ·exact c.2 q
end
section
def h79 (c:Custody) (m:Move):Custody:=
 bif a0b m.Kind==2 then ⟨a0b m.Kind,m.Branch,0,0⟩
 else bif a0b m.Kind==4||(a0b m.Kind==5||a0b m.Kind==8) then ⟨a0b m.Kind,c.Branch,m.Who,0⟩
 else bif a0b m.Kind==6 then ⟨a0b m.Kind,c.Branch,m.Who,m.Branch⟩
 else bif a0b m.Kind==9||a0b m.Kind==10 then ⟨a0b m.Kind,c.Branch,c.Who,0⟩
 else ⟨a0b m.Kind,c.Branch,0,0⟩
structure AppP (c:Custody) (m:Move) (u:Custody):Prop where
 res:u=h79 c m
 right:a9m c=true
 within:a9n m=true
 allow:a7g c.State m.Kind=true
 same:m.Kind=3→c.State=5→m.Who=c.Who
 fits:c16 c m=true
theorem c7o {c:Custody} {m:Move} {u:Custody} (h:p8 c m=(u,0)):AppP c m u:=by
 unfold p8 at h;cases e1:(!(a9m c)||!(a9n m)) with
 |true=>rw[e1]at h;cases h
 |false=>
  have e0:=e1;simp only[yai,yau]at e0;rw[e1]at h;simp only[yaa]at h;cases e2:!(a7g c.State m.Kind) with
  |true=>rw[e2]at h;cases h
  |false=>
   rw[e2]at h;simp only[yaa]at h;cases e3:(m.Kind==3&&c.State==5&&!(m.Who==c.Who)) with
   |true=>rw[e3]at h;cases h
   |false=>
    rw[e3]at h;simp only[yaa]at h;cases e4:!(c16 c m) with
    |true=>rw[e4]at h;cases h
    |false=>
     rw[e4]at h;simp only[yaa]at h;have hr:u=h79 c m:=by
      unfold h79;generalize a0b m.Kind=k at h ⊢;cases k2:k==2 with
      |true=>rw[k2]at h;cases h;rfl
      |false=>
       rw[k2]at h;simp only[yaa]at h ⊢;cases k4:k==4||(k==5||k==8) with
       |true=>rw[k4]at h;cases h;rfl
       |false=>
        rw[k4]at h;simp only[yaa]at h ⊢;cases k6:k==6 with
        |true=>rw[k6]at h;cases h;rfl
        |false=>
         rw[k6]at h;simp only[yaa]at h ⊢;cases k9:k==9||k==10 with
         |true=>rw[k9]at h;cases h;rfl
         |false=>rw[k9]at h;cases h;rfl
     refine ⟨hr,e0.1,e0.2,by simpa using e2,fun a b=>?_,by simpa using e4⟩;simp only[ybk,yaV,yau,ya2,ne_eq]at e3;rcases e3 with (q|q)|q
     ·exact absurd a q
     ·exact absurd b q
     ·exact q
theorem e92 {s k:Int} (h:a7g s k=true):s∈c9b k:=by
 unfold a7g at h;rw[yb3]at h;obtain ⟨x,hx,e⟩:=h;have:x=s:=by simpa using e
 exact this▸hx
def f5k (u:Custody) (h:Hold):Prop:=(h.State=3→u.State=5∧u.Branch=h.Pickup∧u.Who=h.Patron)∧(h.State=2→u.State=6∧u.To=h.Pickup∧u.Who=h.Patron)
structure Val (it:Int) (c:Circ):Prop where
 nums:a36 c=true
 patrons:a1m c.Patrons=0
 loans:o6 c.Loans=0
 holds:t7 c.Holds=0
 charges:s7 c.Charges=0
 rules:a23 c.Rules=0
 cals:a3e c=true
 chG:∀x∈c.Charges,a0v c x=true
 items:a04 c=true
 loanP:∀n∈c.Loans,(a2d c.Patrons n.Patron).2=true
 loanI:∀n∈c.Loans,∃x∈c.Items,x.ID=n.Item∧(n.Item≠it→a2i x.Custody=true∧x.Custody.Who=n.Patron)
 itemL:∀x∈c.Items,x.ID≠it→a2i x.Custody=true→∃n∈c.Loans,n.Item=x.ID
 holdP:∀h∈c.Holds,(a2d c.Patrons h.Patron).2=true∧h.ID<c.NextHold
 holdI:∀h∈c.Holds,h.State≠1→∃x∈c.Items,x.ID=h.Got∧x.Record=h.Record∧(h.Got≠it→f5k x.Custody h)
 itemH:∀x∈c.Items,x.ID≠it→x.Custody.State=5→∃h∈c.Holds,h.Got=x.ID∧h.State=3
theorem y5 {c:Circ} (h:a04 c=true) {x y:Item} (hx:x∈c.Items) (hy:y∈c.Items) (e:x.ID=y.ID):x=y:=by
 have h1:=a2j (key:=fun y:Item=>y.ID) (a2f h) hx;have h2:=a2j (key:=fun y:Item=>y.ID) (a2f h) hy;rw[e,h2]at h1;cases h1;rfl
theorem b4c {c:Circ} (h:a04 c=true) {x:Item} (hx:x∈c.Items) {id:Int} (e:x.ID=id):c.Items.find? (fun y=>y.ID==id)=some x:=by
 subst e;exact a2j (key:=fun y:Item=>y.ID) (a2f h) hx
theorem a05 {c:Circ} (h:a04 c=true) {x:Item} (hx:x∈c.Items):1≤x.ID∧x.ID≤9999∧1≤x.Record∧(1≤x.Branch∧x.Branch≤4)∧x.Call.length≤200:=by
 unfold a04 at h;simp only[yae]at h;obtain ⟨i,hi⟩:=yav hx;have:=(a44.1 h.2.1) i x hi;rw[yaF]at this;simp only[yao,yai,yau]at this;have h2:=this.1;unfold y6 at h2;simp only[yae,w8,yad]at h2;omega
theorem h71 {c:Circ} (h:a5n c=true):Val 0 c:=by
 have f:=h9c h;have hch:∀x∈c.Charges,a0v c x=true:=by
  unfold a5n at h;simp only[yae,yam]at h;exact h.2.2.2.1
 have hcal:a3e c=true:=by
  unfold a5n at h;simp only[yae]at h;exact h.2.2.1
 refine ⟨f.nums,f.patrons,f.loans,f.holds,f.charges,f.rules,hcal,hch,f.items,fun n hn=>?_,fun n hn=>?_,fun x hx _ hw=>?_,fun o ho=>?_,fun o ho h1=>?_,fun x hx _ h5=>?_⟩
 ·obtain ⟨x,p,-,-,-,hp,-⟩:=a43 f hn;rw[hp]
 ·obtain ⟨x,p,-,hx,hi,-,-,hw,hwho⟩:=a43 f hn;exact ⟨x,hx,hi,fun _=>⟨hw,hwho⟩⟩
 ·have:=f.itemG x hx;rw[hw]at this;unfold a0g at this;cases hq:c.Loans.find? (fun n=>n.Item==x.ID) with
  |none=>rw[hq]at this;cases this
  |some n=>exact ⟨n,yaG hq,by have:=ya4 hq;simpa using this⟩
 ·have:=f.holdG o ho;unfold a2z at this;simp only[yae,yao,yai,yau,yaf]at this;exact ⟨this.1.1,by have:=this.1.2;omega⟩
 ·have hg:=f.holdG o ho;unfold a2z at hg;rw[show (o.State==1)=false by simpa using h1]at hg;simp only[yae,ybc]at hg;have hg:=hg.2;cases hq:c.Items.find? (fun x=>x.ID==o.Got) with
  |none=>rw[hq]at hg;cases hg
  |some x=>
   rw[hq]at hg;refine ⟨x,yaG hq,by have:=ya4 hq;simpa using this,?_,fun _=>?_⟩
   ·simp only[yae,yca,ya2]at hg;exact hg.1.1
   ·simp only[yae,yca,ya2,yao,ybk,yai,yau,yaV,ne_eq]at hg;obtain ⟨⟨-,g3⟩,g2⟩:=hg;refine ⟨fun e=>?_,fun e=>?_⟩
    ·rcases g3 with g3|g3
     ·exact absurd e g3
     ·exact ⟨g3.1.1,g3.1.2,g3.2⟩
    ·rcases g2 with g2|g2
     ·exact absurd e g2
     ·exact ⟨g2.1.1,g2.1.2,g2.2⟩
 ·have hg:=f.readyG x hx;unfold a1n at hg;rw[h5]at hg;simp only[yah,yaj,ybc,yao,yai,yau,ya2]at hg;have:=a5s hg.1;exact ⟨_,this.1,this.2,hg.2⟩
theorem c7b {c:Circ} (v:Val 0 c):a5n c=true:=by
 have hid:=fun x hx=>a05 (x:=x) v.items hx
 unfold a5n;simp only[yae,yam];refine ⟨v.nums,?_,v.cals,v.chG,by rw[a7z];exact v.items,?_,?_⟩
 ·unfold a3g;rw[v.patrons,v.loans,v.holds,v.charges,v.rules];rfl
 ·unfold a2g;simp only[yae,yam,ya2];refine ⟨fun n hn=>?_,fun x hx=>?_⟩
  ·obtain ⟨x,hx,hi,hw⟩:=v.loanI n hn;have:=(hid x hx).1;have hw:=hw (by omega);unfold a3h;rw[b4c v.items hx hi];simp only[v.loanP n hn,hw.1,hw.2];simp
  ·have:=(hid x hx).1;cases hw:a2i x.Custody with
   |true=>
    obtain ⟨n,hn,e⟩:=v.itemL x hx (by omega) hw;unfold a0g;cases hq:c.Loans.find? (fun n=>n.Item==x.ID) with
    |none=>exact absurd (ybj.1 hq n hn) (by simpa using e)
    |some m=>rfl
   |false=>
    unfold a0g;cases hq:c.Loans.find? (fun n=>n.Item==x.ID) with
    |none=>rfl
    |some m=>
     have hm:=yaG hq;have he:m.Item=x.ID:=by have:=ya4 hq;simpa using this
     obtain ⟨y,hy,hi,hy2⟩:=v.loanI m hm;have:=y5 v.items hy hx (hi.trans he);subst this;rw[(hy2 (by omega)).1]at hw;cases hw
 ·unfold a4g;simp only[yae,yam];refine ⟨fun o ho=>?_,fun x hx=>?_⟩
  ·unfold a2z;obtain ⟨p1,p2⟩:=v.holdP o ho;rw[p1,show decide (c.NextHold≤o.ID)=false by rw[yaf];omega];by_cases h1:o.State=1
   ·rw[show (o.State==1)=true by simpa using h1];rfl
   ·obtain ⟨x,hx,hg,hr,ha⟩:=v.holdI o ho h1;have:=(hid x hx).1;obtain ⟨a3,a2⟩:=ha (by omega);rw[show (o.State==1)=false by simpa using h1,b4c v.items hx hg];simp only[hr,yah,yaj,yan,yaT,Bool.or_false,ybc];by_cases e3:o.State=3
    ·obtain ⟨q1,q2,q3⟩:=a3 e3;simp[e3,q1,q2,q3]
    ·by_cases e2:o.State=2
     ·obtain ⟨q1,q2,q3⟩:=a2 e2;simp[e2,q1,q2,q3]
     ·simp[e2,e3]
  ·unfold a1n;have:=(hid x hx).1;by_cases h5:x.Custody.State=5
   ·rw[show (x.Custody.State==5)=true by simpa using h5];obtain ⟨o,ho,hg,h3⟩:=v.itemH x hx (by omega) h5;unfold p7;cases hq:c.Holds.find? (fun h=>h.Got==x.ID) with
    |none=>exact absurd (ybj.1 hq o ho) (by simpa using hg)
    |some p=>
     have hp:=yaG hq;have hpg:p.Got=x.ID:=by have:=ya4 hq;simpa using this
     have hn:=a7x (a1k v.holds hp);have hp1:p.State≠1:=fun e=>by have:=hn.2.2.2.2.1 e;omega
     obtain ⟨y,hy,hyg,-,ha⟩:=v.holdI p hp hp1;have:=y5 v.items hy hx (hyg.trans hpg);subst this;have ha:=(ha (by omega)).2;have h3:p.State=3:=by
      rcases hn.2.2.2.1 with e|e|e
      ·exact absurd e hp1
      ·have:=(ha e).1;omega
      ·exact e
     simp[h3]
   ·rw[show (x.Custody.State==5)=false by simpa using h5];rfl
theorem Val.weak {c:Circ} (v:Val 0 c) (it:Int):Val it c:=by
 have hid:=fun x hx=>a05 (x:=x) v.items hx
 refine ⟨v.nums,v.patrons,v.loans,v.holds,v.charges,v.rules,v.cals,v.chG,v.items,v.loanP,fun n hn=>?_,fun x hx _ hw=>?_,v.holdP,fun o ho h1=>?_,fun x hx _ h5=>?_⟩
 ·obtain ⟨x,hx,hi,hw⟩:=v.loanI n hn;have:=(hid x hx).1;exact ⟨x,hx,hi,fun _=>hw (by omega)⟩
 ·have:=(hid x hx).1;exact v.itemL x hx (by omega) hw
 ·obtain ⟨x,hx,hg,hr,ha⟩:=v.holdI o ho h1;have:=(hid x hx).1;exact ⟨x,hx,hg,hr,fun _=>ha (by omega)⟩
 ·have:=(hid x hx).1;exact v.itemH x hx (by omega) h5
theorem Val.close {it:Int} {c:Circ} (v:Val it c) {x:Item} (hx:x∈c.Items) (hi:x.ID=it)
 (h1:∀n∈c.Loans,n.Item=it→a2i x.Custody=true∧x.Custody.Who=n.Patron) (h2:a2i x.Custody=true→∃n∈c.Loans,n.Item=it)
 (h3:∀h∈c.Holds,h.State≠1→h.Got=it→f5k x.Custody h) (h4:x.Custody.State=5→∃h∈c.Holds,h.Got=it∧h.State=3):Val 0 c:=by
 refine ⟨v.nums,v.patrons,v.loans,v.holds,v.charges,v.rules,v.cals,v.chG,v.items,v.loanP,fun n hn=>?_,fun y hy _ hw=>?_,v.holdP,fun o ho hs1=>?_,fun y hy _ h5=>?_⟩
 ·obtain ⟨y,hy,hiy,hw⟩:=v.loanI n hn;refine ⟨y,hy,hiy,fun _=>?_⟩;by_cases e:n.Item=it
  ·have:=y5 v.items hy hx (by omega);subst this;exact h1 n hn e
  ·exact hw e
 ·by_cases e:y.ID=it
  ·have:=y5 v.items hy hx (by omega);subst this;obtain ⟨n,hn,e2⟩:=h2 hw;exact ⟨n,hn,by omega⟩
  ·exact v.itemL y hy e hw
 ·obtain ⟨y,hy,hg,hr,ha⟩:=v.holdI o ho hs1;refine ⟨y,hy,hg,hr,fun _=>?_⟩;by_cases e:o.Got=it
  ·have:=y5 v.items hy hx (by omega);subst this;exact h3 o ho hs1 e
  ·exact ha e
 ·by_cases e:y.ID=it
  ·have:=y5 v.items hy hx (by omega);subst this;obtain ⟨n,hn,e2,e3⟩:=h4 h5;exact ⟨n,hn,by omega,e3⟩
  ·exact v.itemH y hy e h5
end
section
theorem b00 {c:Circ} (h:a04 c=true):∀(i:Nat) (x:Item) (j:Nat) (y:Item),c.Items[i]?=some x→c.Items[j]?=some y→x.ID=y.ID→i=j:=by
 intro i x j y hx hy e;have hs:=a2f h;rcases Nat.lt_trichotomy i j with hl|hl|hl
 ·have:=a2k (key:=fun y:Item=>y.ID) hs j i x y hl hx hy;omega
 ·exact hl
 ·have:=a2k (key:=fun y:Item=>y.ID) hs i j y x hl hy hx;omega
theorem a1d {c:Circ} (h:a04 c=true) {i:Nat} {x:Item} (hx:c.Items[i]?=some x) {m:Move} {u:Custody} {y:Item}:y∈(u0 c i x m u).Items↔(y∈c.Items∧y.ID≠x.ID)∨y=y3 u x:=by
 have hit:(u0 c i x m u).Items=c.Items.map (b9x x u):=d4c (b00 h) hx;rw[hit,yba];constructor
 ·rintro ⟨z,hz,rfl⟩;unfold b9x;by_cases e:z.ID=x.ID
  ·have:=y5 h hz (yag hx) e;subst this;right;simp
  ·left;rw[show (z.ID==x.ID)=false by simpa using e];exact ⟨hz,e⟩
 ·rintro (⟨hy,e⟩|rfl)
  ·refine ⟨y,hy,?_⟩;unfold b9x;rw[show (y.ID==x.ID)=false by simpa using e];rfl
  ·refine ⟨x,yag hx,?_⟩;unfold b9x;simp
theorem Val.move {c:Circ} {i:Nat} {x:Item} (v:Val x.ID c) (hx:c.Items[i]?=some x) {m:Move} {u:Custody} (hm:m.Item=x.ID) (ha:p8 x.Custody m=(u,0)) (hl:c.Moves.length<2000):Val x.ID (u0 c i x m u):=by
 have mm:=fun y=>a1d (y:=y) v.items hx (m:=m) (u:=u)
 refine ⟨v.nums,v.patrons,v.loans,v.holds,v.charges,v.rules,v.cals,v.chG,d54 v.items (b00 v.items) hx hm ha hl,v.loanP,fun n hn=>?_,fun y hy hne hw=>?_,v.holdP,fun o ho h1=>?_,fun y hy hne h5=>?_⟩
 ·obtain ⟨y,hy,hi,hw⟩:=v.loanI n hn;by_cases e:y.ID=x.ID
  ·exact ⟨y3 u x,(mm _).2 (.inr rfl),e.symm.trans hi,fun q=>absurd (hi.symm.trans e) q⟩
  ·exact ⟨y,(mm _).2 (.inl ⟨hy,e⟩),hi,hw⟩
 ·rcases (mm y).1 hy with ⟨hy,_⟩|rfl
  ·exact v.itemL y hy hne hw
  ·exact absurd rfl hne
 ·obtain ⟨y,hy,hg,hr,ha⟩:=v.holdI o ho h1;by_cases e:y.ID=x.ID
  ·have:=y5 v.items hy (yag hx) e;subst this;exact ⟨y3 u y,(mm _).2 (.inr rfl),hg,hr,fun q=>absurd hg.symm q⟩
  ·exact ⟨y,(mm _).2 (.inl ⟨hy,e⟩),hg,hr,ha⟩
 ·rcases (mm y).1 hy with ⟨hy,_⟩|rfl
  ·exact v.itemH y hy hne h5
  ·exact absurd rfl hne
theorem a6r {l:List Hold} (h:t7 l=0) {o p:Hold} (ho:o∈l) (hp:p∈l) (e:o.ID=p.ID):o=p:=c1e (a0a h) ho hp e
def b7p (l:List Hold) (id:Int) (o:Hold):List Hold:=l.map (fun z=>bif z.ID==id then o else z)
theorem a34 {l:List Hold} {o p z:Hold} (ho:o∈l):z∈b7p l o.ID p↔(z∈l∧z.ID≠o.ID)∨z=p:=by
 unfold b7p;rw[yba];constructor
 ·rintro ⟨y,hy,rfl⟩;by_cases e:y.ID=o.ID
  ·right;rw[show (y.ID==o.ID)=true by simpa using e];rfl
  ·left;rw[show (y.ID==o.ID)=false by simpa using e];exact ⟨hy,e⟩
 ·rintro (⟨hz,e⟩|rfl)
  ·exact ⟨z,hz,by rw[show (z.ID==o.ID)=false by simpa using e];rfl⟩
  ·exact ⟨o,ho,by rw[show (o.ID==o.ID)=true by simp];rfl⟩
theorem f5f {l:List Hold} (h:t7 l=0) {o p:Hold} (ho:o∈l) (k1:p.ID=o.ID) (k2:p.Patron=o.Patron) (k3:p.Record=o.Record) (hs:s9 p=0) (hg:∀z∈l,0<p.Got→z.Got=p.Got→z.ID=o.ID):t7 (b7p l o.ID p)=0:=by
 rw[b0b]at h ⊢;obtain ⟨h1,⟨h2,h3⟩,h4⟩:=h;refine ⟨by unfold b7p;rw[ybe];exact h1,⟨fun z hz=>?_,?_⟩,?_⟩
 ·rcases (a34 ho).1 hz with ⟨hz,_⟩|rfl
  ·exact h2 z hz
  ·exact hs
 ·unfold b7p;rw[yby];have key:∀z:Hold,(bif z.ID==o.ID then p else z).ID=z.ID:=by
   intro z;by_cases e:z.ID=o.ID
   ·rw[show (z.ID==o.ID)=true by simpa using e,yab,k1,e]
   ·rw[show (z.ID==o.ID)=false by simpa using e];rfl
  refine h3.imp (fun {a b} q=>?_);rw[key,key];exact q
 ·unfold b7p;rw[yby];refine (h3.and h4).imp_of_mem (fun {a b} ha hb q=>?_);obtain ⟨q1,q2⟩:=q;have one:∀z∈l,z.ID=o.ID→z=o:=fun z hz e=>c1e (a7c.2 h3) hz ho e
  unfold a0p at q2 ⊢;simp only[yai,ybk,yaV,ne_eq,yaf]at q2 ⊢;by_cases ea:a.ID=o.ID
  ·have:=one a ha ea;subst this;have eb:¬b.ID=a.ID:=by omega
   rw[show (b.ID==a.ID)=false by simpa using eb,show (a.ID==a.ID)=true by simp];simp only[yab,yaa,k2,k3];refine ⟨q2.1,?_⟩;by_cases e:b.Got=p.Got
   ·left;intro hpos;exact eb (hg b hb (by omega) e)
   ·exact .inr e
  ·by_cases eb:b.ID=o.ID
   ·have:=one b hb eb;subst this;rw[show (a.ID==b.ID)=false by simpa using ea,show (b.ID==b.ID)=true by simp];simp only[yab,yaa,k2,k3];refine ⟨q2.1,?_⟩;by_cases e:p.Got=a.Got
    ·left;intro hpos;exact ea (hg a ha hpos e.symm)
    ·exact .inr e
   ·rw[show (a.ID==o.ID)=false by simpa using ea,show (b.ID==o.ID)=false by simpa using eb];exact q2
theorem Val.swap {it:Int} {c:Circ} (v:Val it c) {o p:Hold} (ho:o∈c.Holds) (k1:p.ID=o.ID) (k2:p.Patron=o.Patron) (k3:p.Record=o.Record) (hs:s9 p=0) (hg:∀z∈c.Holds,0<p.Got→z.Got=p.Got→z.ID=o.ID)
 (old:o.State≠3∨o.Got=it) (new:p.State≠1→p.Got=it∧∃x∈c.Items,x.ID=it∧x.Record=o.Record):Val it (i7 c (b7p c.Holds o.ID p)):=by
 refine ⟨v.nums,v.patrons,v.loans,f5f v.holds ho k1 k2 k3 hs hg,v.charges,v.rules,v.cals,v.chG,v.items,v.loanP,v.loanI,v.itemL,fun z hz=>?_,fun z hz h1=>?_,fun y hy hne h5=>?_⟩
 ·rcases (a34 ho).1 hz with ⟨hz,_⟩|rfl
  ·exact v.holdP z hz
  ·have:=v.holdP o ho;exact ⟨by rw[k2];exact this.1,by rw[k1];exact this.2⟩
 ·rcases (a34 ho).1 hz with ⟨hz,_⟩|rfl
  ·exact v.holdI z hz h1
  ·obtain ⟨e,x,hx,hi,hr⟩:=new h1;exact ⟨x,hx,by rw[hi,e],by rw[hr,k3],fun q=>absurd e q⟩
 ·obtain ⟨z,hz,e,e3⟩:=v.itemH y hy hne h5;refine ⟨z,(a34 ho).2 (.inl ⟨hz,fun q=>?_⟩),e,e3⟩;have:=a6r v.holds hz ho q;subst this;rcases old with q|q
  ·exact q e3
  ·exact hne (e.symm.trans q)
theorem d5s {l:List Hold} (h:t7 l=0) (p:Hold→Bool):t7 (l.filter p)=0:=by
 rw[b0b]at h ⊢;have:=yax p l;exact ⟨by omega,⟨fun x hx=>h.2.1.1 x (yaz.1 hx).1,h.2.1.2.filter p⟩,h.2.2.filter p⟩
theorem Val.remove {it:Int} {c:Circ} (v:Val it c) {o:Hold} (ho:o∈c.Holds) (old:o.State≠3∨o.Got=it):Val it (i7 c (c.Holds.filter (fun x=>!(x.ID==o.ID)))):=by
 refine ⟨v.nums,v.patrons,v.loans,d5s v.holds _,v.charges,v.rules,v.cals,v.chG,v.items,v.loanP,v.loanI,v.itemL,fun z hz=>v.holdP z (yaz.1 hz).1,fun z hz=>v.holdI z (yaz.1 hz).1,fun y hy hne h5=>?_⟩;obtain ⟨z,hz,e,e3⟩:=v.itemH y hy hne h5;refine ⟨z,yaz.2 ⟨hz,?_⟩,e,e3⟩;rw[yao,yaV];intro q;have:=a6r v.holds hz ho q;subst this;rcases old with q|q
 ·exact q e3
 ·exact hne (e.symm.trans q)
theorem Val.setLoans {it:Int} {c:Circ} (v:Val it c) {l:List Loan} (he:o6 l=0) (h1:∀n∈l,(a2d c.Patrons n.Patron).2=true∧((∃n0∈c.Loans,n0.Item=n.Item∧n0.Patron=n.Patron)∨(n.Item=it∧∃x∈c.Items,x.ID=it)))
 (h2:∀n0∈c.Loans,n0.Item≠it→∃n∈l,n.Item=n0.Item):Val it (i4 c l):=by
 refine ⟨v.nums,v.patrons,he,v.holds,v.charges,v.rules,v.cals,v.chG,v.items,fun n hn=>(h1 n hn).1,fun n hn=>?_,fun x hx hne hw=>?_,v.holdP,v.holdI,v.itemH⟩
 ·rcases (h1 n hn).2 with ⟨n0,hn0,e1,e2⟩|⟨e,x,hx,hi⟩
  ·obtain ⟨x,hx,hi,hw⟩:=v.loanI n0 hn0;exact ⟨x,hx,by rw[hi,e1],fun q=>by have:=hw (by rw[e1];exact q);rw[e2]at this;exact this⟩
  ·exact ⟨x,hx,by rw[hi,e],fun q=>absurd e q⟩
 ·obtain ⟨n,hn,e⟩:=v.itemL x hx hne hw;obtain ⟨m,hm,e2⟩:=h2 n hn (by rw[e];exact hne);exact ⟨m,hm,e2.trans e⟩
theorem a77 {c:Circ} (h:a36 c=true):(0≤c.Today∧c.Today≤109572)∧(1≤c.NextHold∧c.NextHold≤100000)∧(1≤c.NextCharge∧c.NextCharge≤100000):=by
 unfold a36 at h;simp only[yao,yai,yaf]at h;omega
theorem c85 {c:Circ} (h:(0≤c.Today∧c.Today≤109572)∧(1≤c.NextHold∧c.NextHold≤100000)∧(1≤c.NextCharge∧c.NextCharge≤100000)):a36 c=true:=by
 unfold a36;simp only[yao,yai,yaf];omega
theorem b3i {c:Circ} {x:Charge} (h:a0v c x=true):(a2d c.Patrons x.Patron).2=true∧x.ID<c.NextCharge:=by
 unfold a0v at h;simp only[yao,yai,yau,yaf]at h;exact ⟨h.1,by omega⟩
theorem d9z {c:Circ} {x:Charge} (h:(a2d c.Patrons x.Patron).2=true) (h2:x.ID<c.NextCharge):a0v c x=true:=by
 unfold a0v;simp only[yao,yai,yau,yaf];exact ⟨h,by omega⟩
theorem Val.setCharges {it:Int} {c:Circ} (v:Val it c) {l:List Charge} {n:Int} (he:s7 l=0) (hn:c.NextCharge≤n∧n≤100000) (h1:∀x∈l,(a2d c.Patrons x.Patron).2=true∧x.ID<n):Val it (a5p c l n):=by
 have hv:=a77 v.nums;exact ⟨c85 ⟨hv.1,hv.2.1,(by omega:1≤n),hn.2⟩,v.patrons,v.loans,v.holds,he,v.rules,v.cals,fun x hx=>d9z (h1 x hx).1 (h1 x hx).2,v.items,v.loanP,v.loanI,v.itemL,v.holdP,v.holdI,v.itemH⟩
theorem Val.setToday {it:Int} {c:Circ} (v:Val it c) {t:Int} (h:0≤t∧t≤109572):Val it (a1p c t):=by
 have hv:=a77 v.nums;exact ⟨c85 ⟨h,hv.2⟩,v.patrons,v.loans,v.holds,v.charges,v.rules,v.cals,v.chG,v.items,v.loanP,v.loanI,v.itemL,v.holdP,v.holdI,v.itemH⟩
theorem Val.place {it:Int} {c:Circ} (v:Val it c) {o:Hold} (he:t7 (c.Holds++[o])=0) (h1:o.State=1) (hid:o.ID=c.NextHold) (hn:c.NextHold≤99999) (hp:(a2d c.Patrons o.Patron).2=true):Val it (b6s (i7 c (c.Holds++[o])) (c.NextHold+1)):=by
 have hmem:∀z,z∈c.Holds++[o]↔z∈c.Holds∨z=o:=by intro z;simp
 refine ⟨?_,v.patrons,v.loans,he,v.charges,v.rules,v.cals,v.chG,v.items,v.loanP,v.loanI,v.itemL,fun z hz=>?_,fun z hz hz1=>?_,fun y hy hne h5=>?_⟩
 ·have hv:=a77 v.nums;exact c85 ⟨hv.1,⟨(by omega:1≤c.NextHold+1),(by omega:c.NextHold+1≤100000)⟩,hv.2.2⟩
 ·rcases (hmem z).1 hz with hz|rfl
  ·have:=v.holdP z hz;exact ⟨this.1,by show z.ID<c.NextHold+1;omega⟩
  ·exact ⟨hp,by show z.ID<c.NextHold+1;omega⟩
 ·rcases (hmem z).1 hz with hz|rfl
  ·exact v.holdI z hz hz1
  ·exact absurd h1 hz1
 ·obtain ⟨z,hz,e⟩:=v.itemH y hy hne h5;exact ⟨z,(hmem z).2 (.inl hz),e⟩
end
end Go.Proofs.YtcebdbdfgkahkaaGreatDoor
