/- CircServes: a part of the proof of the given statement, which is proved without conditions. -/
import Derived.Test.YtdahfgialanmpabGreatDoorS6
set_option linter.all false
namespace Go.Proofs.YtdahfgialanmpabGreatDoor
open Ev
open Go (IntKind)
section
theorem g4u {X:Type} {p:X→Bool} {x z:X} {l:List X} (h:z=x∨z∈l):z∈b1d p x l:=by
 cases hf:l.findIdx? p with
 |none=>
  rw[b3x hf];simp only[yas,ybC];rcases h with h|h
  ·exact .inr h
  ·exact .inl h
 |some k=>
  rw[(b3y hf).1];simp only[yas,yaN];rcases h with h|h
  ·exact .inr (.inl h)
  ·rw[←ybT k l,yas]at h;rcases h with h|h
   ·exact .inl h
   ·exact .inr (.inr h)
theorem g6c {l m:List Loan} {n:Loan} (h:e73 l n=(m,0)):o9 m=0∧(∀z,z∈m↔z=n∨z∈l)∧∀z∈l,z.Item≠n.Item:=by
 unfold e73 at h;rw[c0d]at h;cases ha:l.any (fun x=>x.Item==n.Item) with
 |true=>rw[ha]at h;cases h
 |false=>
  rw[ha]at h;simp only[yaa]at h;by_cases he:o9 (b1d (fun x=>decide (n.Item<x.Item)) n l)=0
  ·rw[he]at h;cases h
   refine ⟨he,fun z=>⟨f0w,g4u⟩,fun z hz e=>?_⟩;rw[ybV]at ha;exact ha z hz (by simpa using e)
  ·rw[show (o9 (b1d (fun x=>decide (n.Item<x.Item)) n l)==0)=false by simpa using he]at h;simp only[yan,yab,yaM]at h;exact absurd h.2 he
theorem h8a {X:Type} (key:X→Int) {l:List X} (hs:l.Pairwise (fun a b=>key a<key b)) {i:Nat} {x:X} (hx:l[i]?=some x):l.take i++l.drop (i+1)=l.filter (fun y=>!(key y==key x)):=by
 have hlt:=(yaL.1 hx)
 have e:l=l.take i++x::l.drop (i+1):=by
  rw[←hlt.2,←ya4 hlt.1,ybT]
 have hs2:=hs;rw[e,List.pairwise_append,List.pairwise_cons]at hs2;obtain ⟨-,⟨h2,-⟩,h3⟩:=hs2;have e1:(l.take i).filter (fun y=>!(key y==key x))=l.take i:=List.filter_eq_self.2 (fun a ha=>by
  have:=h3 a ha x (yaz ..);have:¬key a=key x:=by omega
  simpa using this)
 have e2:(l.drop (i+1)).filter (fun y=>!(key y==key x))=l.drop (i+1):=List.filter_eq_self.2 (fun a ha=>by
  have:=h2 a ha;have:¬key a=key x:=by omega
  simpa using this)
 have e3:l.filter (fun y=>!(key y==key x))=(l.take i++x::l.drop (i+1)).filter (fun y=>!(key y==key x)):=by rw[←e]
 rw[e3,yb5,ya9,e1,e2];simp
theorem c9z {l m:List Loan} {n:Loan} {item:Int} (hs:o9 l=0) (h:a5b l item=(m,n,0)):n∈l∧n.Item=item∧o9 m=0∧∀z,z∈m↔z∈l∧z.Item≠item:=by
 have hp:=a7q.1 hs;unfold a5b at h;rcases j3 (fun x:Loan=>x.Item==item) l with ⟨h1,h2⟩|⟨i,x,h1,h2,h3,h4⟩
 ·rw[h2]at h;cases h
 ·rw[h4,h1]at h;simp only[yay,yaM,and_true]at h;obtain ⟨e,rfl⟩:=h;have hi:x.Item=item:=by simpa using h3
  rw[h8a (fun n:Loan=>n.Item) hp.2.2 h2]at e;have hm:∀z,z∈m↔z∈l∧z.Item≠item:=by
   intro z;rw[←e,yax,hi];simp
  refine ⟨yaf h2,hi,?_,hm⟩;rw[a7q];have:=yaw (fun y:Loan=>!(y.Item==x.Item)) l;rw[←e];exact ⟨by omega,fun z hz=>hp.2.1 z (yax.1 hz).1,hp.2.2.filter _⟩
theorem e7d {X:Type} {l:List X} {i:Nat} {x y:X} (hx:l[i]?=some x) (R:X→X→Prop) (hr:∀z,R z z) (h1:R y x) (h2:R x y):(∀z∈l.set i y,∃w∈l,R z w)∧∀w∈l,∃z∈l.set i y,R w z:=by
 have hlt:=(zL hx)
 refine ⟨fun z hz=>?_,fun w hw=>?_⟩
 ·rcases ybI hz with hz|rfl
  ·exact ⟨z,hz,hr z⟩
  ·exact ⟨x,yaf hx,h1⟩
 ·obtain ⟨j,hj⟩:=yau hw;by_cases e:j=i
  ·subst e;rw[hx]at hj;cases hj
   exact ⟨y,yaf (ybs hlt),h2⟩
  ·exact ⟨w,yaf (by rw[List.getElem?_set_ne (fun q=>e q.symm)];exact hj),hr w⟩
def c1m (a b:Loan):Prop:=a.Item=b.Item∧a.Patron=b.Patron
theorem e4g {l m:List Loan} {item due:Int} (h:a7x l item due=(m,0)):o9 m=0∧(∀z∈m,∃w∈l,c1m z w)∧∀w∈l,∃z∈m,c1m w z:=by
 unfold a7x at h;rcases j3 (fun x:Loan=>x.Item==item) l with ⟨h1,h2⟩|⟨i,x,h1,h2,h3,h4⟩
 ·rw[h2]at h;cases h
 ·rw[h4,h1]at h;simp only[yay]at h;cases hr:x.Recalled with
  |true=>rw[hr]at h;cases h
  |false=>
   rw[hr]at h;simp only[yaa]at h;unfold h6k at h;by_cases he:o9 (l.set i ⟨x.Item,x.Patron,x.Out,due,wr .i64 (x.Renewals+1),false⟩)=0
   ·rw[he]at h;cases h
    have:=e7d h2 c1m (fun z=>⟨rfl,rfl⟩) (y:=⟨x.Item,x.Patron,x.Out,due,wr .i64 (x.Renewals+1),false⟩) ⟨rfl,rfl⟩ ⟨rfl,rfl⟩;exact ⟨he,this⟩
   ·rw[show (o9 (l.set i ⟨x.Item,x.Patron,x.Out,due,wr .i64 (x.Renewals+1),false⟩)==0)=false by simpa using he]at h;simp only[yan,yab,yaM]at h;exact absurd h.2 he
theorem b75 {x:Loan}:a96 x=0↔((1≤x.Item∧x.Item≤9999)∧(1≤x.Patron∧x.Patron≤9999)∧(0≤x.Out∧x.Out≤109572)∧(0≤x.Due∧x.Due≤109572)∧x.Out≤x.Due∧(0≤x.Renewals∧x.Renewals≤10)):=by
 unfold a96;rw[a6p (by decide)];simp only[yaj,yag,and_true];omega
theorem d6f {l m:List Loan} {item due:Int} (hs:o9 l=0) (h:a5w l item due=(m,0)):o9 m=0∧(∀z∈m,∃w∈l,c1m z w)∧∀w∈l,∃z∈m,c1m w z:=by
 have hp:=a7q.1 hs;unfold a5w at h;rcases j3 (fun x:Loan=>x.Item==item) l with ⟨h1,h2⟩|⟨i,x,h1,h2,h3,h4⟩
 ·rw[h2]at h;cases h
 ·rw[h4,h1]at h;simp only[yay]at h;cases hr:x.Recalled with
  |true=>rw[hr]at h;cases h
  |false=>
   rw[hr]at h;simp only[yaa]at h;cases hd:rng 0 109572 due with
   |false=>rw[hd]at h;cases h
   |true=>
    rw[hd]at h;simp only[yai,yaa,yaM,and_true]at h;subst h;have:=e7d h2 c1m (fun z=>⟨rfl,rfl⟩) (y:=⟨x.Item,x.Patron,x.Out,a27 x due,x.Renewals,true⟩) ⟨rfl,rfl⟩ ⟨rfl,rfl⟩;refine ⟨?_,this⟩;rw[a7q];refine ⟨by rw[List.length_set];exact hp.1,fun z hz=>?_,?_⟩
    ·rcases ybI hz with hz|rfl
     ·exact hp.2.1 z hz
     ·have q:=b75.1 (hp.2.1 x (yaf h2));rw[w6]at hd;rw[b75];have hdue:x.Out≤a27 x due∧0≤a27 x due∧a27 x due≤109572:=by
       unfold a27;split<;>split<;>omega
      exact ⟨q.1,q.2.1,q.2.2.1,hdue.2,hdue.1,q.2.2.2.2.2⟩
    ·have e:(l.set i (⟨x.Item,x.Patron,x.Out,a27 x due,x.Renewals,true⟩:Loan)).map (fun z:Loan=>z.Item)=l.map (fun z:Loan=>z.Item):=a1f h2 rfl;have q:(l.map (fun z:Loan=>z.Item)).Pairwise (fun a b=>a<b):=ybv.2 hp.2.2;rw[←e]at q;exact ybv.1 q
theorem b6m {l:List Charge} (h:s8 l=0) (p:Charge→Bool):s8 (l.filter p)=0:=by
 rw[a9p]at h ⊢;have:=yaw p l;exact ⟨by omega,fun x hx=>h.2.1 x (yax.1 hx).1,h.2.2.filter p⟩
theorem b9q {x:Charge}:a0u x=0↔((1≤x.ID∧x.ID≤99999)∧(1≤x.Patron∧x.Patron≤9999)∧(1≤x.Item∧x.Item≤9999)∧(0≤x.Day∧x.Day≤109572))∧(1≤x.Kind∧x.Kind≤3)∧(1≤x.Amount∧x.Amount≤100000000∧0≤x.Paid∧x.Paid<x.Amount):=by
 unfold a0u;rw[a6p (by decide),a6p (by decide),a6p (by decide)];simp only[yaj,yag,yaI,w6,and_true];omega
theorem g6d (p:Int):∀(l:List Charge) (r:Int),0≤r→(∀x∈l,a0u x=0)→(b78 p l r).1.length≤l.length∧(∀x∈(b78 p l r).1,a0u x=0∧∃y∈l,x.ID=y.ID∧x.Patron=y.Patron)∧((b78 p l r).1.map (fun x=>x.ID)).Sublist (l.map (fun x=>x.ID)):=by
 intro l
 induction l with
 |nil=>intro r _ _;exact ⟨yaF _,fun x hx=>(by cases hx),List.Sublist.refl _⟩
 |cons x l ih=>
  intro r hr hs;have hx:=b9q.1 (hs x (yaz ..));have hs2:=fun y hy=>hs y (yaC _ hy)
  obtain ⟨a1,a2,a3⟩:=ih r hr hs2;have hu:0≤(if x.Amount-x.Paid<r then x.Amount-x.Paid else r):=by split<;>omega
  have hu2:(if x.Amount-x.Paid<r then x.Amount-x.Paid else r)≤r:=by split<;>omega
  unfold b78;generalize (if x.Amount-x.Paid<r then x.Amount-x.Paid else r)=use at hu hu2 ⊢;obtain ⟨b1,b2,b3⟩:=ih (r-use) (by omega) hs2;have up:∀z:Charge,(∃y∈l,z.ID=y.ID∧z.Patron=y.Patron)→∃y∈x::l,z.ID=y.ID∧z.Patron=y.Patron:=fun z ⟨y,hy,e⟩=>⟨y,yaC _ hy,e⟩
  cases x.Patron==p with
  |false=>
   simp only[yaa];refine ⟨by simp only[yaK];omega,fun z hz=>?_,?_⟩
   ·rcases yaN.1 hz with rfl|hz
    ·exact ⟨b9q.2 hx,z,yaz ..,rfl,rfl⟩
    ·exact ⟨(a2 z hz).1,up z (a2 z hz).2⟩
   ·simp only[ybe];exact a3.cons_cons _
  |true=>
   simp only[yab];by_cases hq:x.Paid+use<x.Amount
   ·rw[decide_eq_true hq];simp only[yab];refine ⟨by simp only[yaK];omega,fun z hz=>?_,?_⟩
    ·rcases yaN.1 hz with rfl|hz
     ·refine ⟨b9q.2 ⟨hx.1,hx.2.1,hx.2.2.1,hx.2.2.2.1,(by show 0≤x.Paid+use;omega),hq⟩,x,yaz ..,rfl,rfl⟩
     ·exact ⟨(b2 z hz).1,up z (b2 z hz).2⟩
    ·simp only[ybe];exact b3.cons_cons _
   ·rw[decide_eq_false hq];simp only[yaa];refine ⟨by simp only[yaK];omega,fun z hz=>⟨(b2 z hz).1,up z (b2 z hz).2⟩,?_⟩;simp only[ybe];exact b3.cons _
end
section
theorem e7y {f:Int} {X:Option (Circ×Int)} {d:Circ} (e:(bif !(f==0) then some (o4,f) else X)=some (d,0)):f=0∧X=some (d,0):=by
 by_cases hf:f=0
 ·subst hf;exact ⟨rfl,e⟩
 ·rw[show (f==0)=false by simpa using hf]at e;cases e
  exact absurd rfl hf
theorem b6j {f:Int} {X:Option (Circ×Int×Int)} {d:Circ} {n:Int} (e:(bif !(f==0) then some (o4,0,f) else X)=some (d,n,0)):f=0∧X=some (d,n,0):=by
 by_cases hf:f=0
 ·subst hf;exact ⟨rfl,e⟩
 ·rw[show (f==0)=false by simpa using hf]at e;cases e
  exact absurd rfl hf
theorem b6k {o:Option (Circ×Int)} {d:Circ} (e:(match o with|some (r,f)=>some (r,f)|none=>none)=some (d,0)):o=some (d,0):=by
 cases o with
 |none=>cases e
 |some p=>obtain ⟨r,f⟩:=p;exact e
structure Res (c d:Circ):Prop where
 val:Val 0 d
 stp:Stp c d
 idle:a9g c→a9g d
theorem f6u {c c1 d:Circ} {i:Nat} {x:Item} {kind branch who:Int} (v:Val 0 c) (m:MidP c) (hx:c.Items[i]?=some x) (hl:b6g c x.ID) (hf:b89 c x.ID)
 (e1:qgo c x.ID kind branch who=some (c1,0)) (e2:qg4 c1 x.ID=some (d,0)):Res c d:=by
 obtain ⟨a,b,-,e⟩:=ma (v.weak x.ID) m hx hl hf e1 e2;exact ⟨a,b,fun h=>e (h.x _)⟩
theorem a17 {c d:Circ} (h:MidP c) {i:Nat} {x:Item} (hx:c.Items[i]?=some x) {kind branch who:Int} (e:qgo c x.ID kind branch who=some (d,0)):x.Custody.State∈c8d kind:=by
 obtain ⟨u,ha,-⟩:=a08 h hx e;exact e8j (c6q ha).allow
theorem a3u {x:Item} (h:x.Custody.State≠4) (h2:x.Custody.State≠9) (h3:x.Custody.State≠10):a2o x.Custody=false:=by
 rw[a1a];simp[h,h2,h3]
theorem c8s {c d:Circ} (v:Val 0 c) (m:MidP c) {item branch:Int} (e:qf9 c item branch=some (d,0)):Res c d:=by
 unfold qf9 at e;rcases y2 m item with ⟨-,h2,-⟩|⟨i,x,-,h2,hx,rfl,-⟩
 ·rw[h2]at e;cases e
 ·rw[h2]at e;simp only[a1c,yaa]at e;rcases e1:qgo c x.ID 1 branch 0 with _|⟨c1,f⟩
  ·rw[e1]at e;cases e
  rw[e1]at e;have hz:=e7y e;clear e;obtain ⟨rfl,e2⟩:=hz;have e2:=b6k e2;have hs:x.Custody.State∈([1]:List Int):=a17 m hx e1;have hs:x.Custody.State=1:=by simpa using hs
  have hm:=yaf hx;exact f6u v m hx (v.lfree hm (a3u (by omega) (by omega) (by omega))) (v.hfree hm (by omega) (by omega)) e1 e2
theorem f6x {c d:Circ} {i:Nat} {x:Item} {kind branch who:Int} (v:Val 0 c) (m:MidP c) (hx:c.Items[i]?=some x) (hl:b6g c x.ID) (hf:b89 c x.ID)
 (e:qgo c x.ID kind branch who=some (d,0)) (hk:(a0i kind==3||(a0i kind==4||(a0i kind==5||(a0i kind==9||a0i kind==10))))=false):Res c d:=by
 obtain ⟨u,ha,hlen,rfl,m1⟩:=a08 m hx e;have hu:u.State=a0i kind:=by
  rw[(c6q ha).res];unfold h6y;dsimp only;generalize a0i kind=k;cases k==2<;>cases (k==4||(k==5||k==8))<;>cases k==6<;>cases (k==9||k==10)<;>rfl
 simp only[yaj,yaT,ne_eq,←hu]at hk;have hm:y0 u x∈(t7 c i x ⟨c.Today,x.ID,kind,branch,who⟩ u).Items:=(a00 v.items hx).2 (.inr rfl);refine ⟨((v.weak x.ID).move hx rfl ha hlen).close hm rfl (fun n hn e=>absurd e (hl n hn)) (fun h=>?_) (fun h hh hs1 hg=>absurd hg (hf h hh hs1)) (fun h=>absurd h hk.2.2.1),a0t,fun h y hy h3=>?_⟩
 ·have:=a3u (x:=y0 u x) hk.2.1 hk.2.2.2.1 hk.2.2.2.2;rw[this]at h;cases h
 ·rcases (a00 v.items hx).1 hy with ⟨hy,_⟩|rfl
  ·exact h y hy h3
  ·exact absurd h3 hk.1
theorem b2x {c d:Circ} (v:Val 0 c) (m:MidP c) {item:Int} {b:Bool} (e:qga c item b=some (d,0)):Res c d:=by
 unfold qga at e;rcases y2 m item with ⟨-,h2,-⟩|⟨i,x,-,h2,hx,rfl,-⟩
 ·rw[h2]at e;cases e
 ·rw[h2]at e;have hm:=yaf hx;simp only[a1c,yaa,b9,hx]at e;cases b with
  |true=>
   have e:=b6k e;have hs:x.Custody.State∈([2,3]:List Int):=a17 m hx e;have hs:x.Custody.State=2∨x.Custody.State=3:=by simpa using hs
   exact f6x v m hx (v.lfree hm (a3u (by omega) (by omega) (by omega))) (v.hfree hm (by omega) (by omega)) e rfl
  |false=>
   simp only[yaa]at e;rcases e1:qgo c x.ID 9 x.Branch 0 with _|⟨c1,f⟩
   ·rw[e1]at e;cases e
   rw[e1]at e;have hz:=e7y e;clear e;obtain ⟨rfl,e2⟩:=hz;have e2:=b6k e2;have hs:x.Custody.State∈([7]:List Int):=a17 m hx e1;have hs:x.Custody.State=7:=by simpa using hs
   exact f6u v m hx (v.lfree hm (a3u (by omega) (by omega) (by omega))) (v.hfree hm (by omega) (by omega)) e1 e2
theorem e2c {c d:Circ} (v:Val 0 c) (m:MidP c) {item partner:Int} (e:qg7 c item partner=some (d,0)):Res c d:=by
 unfold qg7 at e;rcases y2 m item with ⟨-,h2,-⟩|⟨i,x,-,h2,hx,rfl,-⟩
 ·rw[h2]at e;cases e
 ·rw[h2]at e;have hm:=yaf hx;obtain ⟨w,p1,p2,-,-⟩:=a8e m hx;simp -zeta only[a1c,yaa,b9,hx,p2]at e;have fin:qgo c x.ID 10 x.Custody.Branch partner=some (d,0)→Res c d:=by
   intro e;have hs:x.Custody.State∈([3]:List Int):=a17 m hx e;have hs:x.Custody.State=3:=by simpa using hs
   exact f6x v m hx (v.lfree hm (a3u (by omega) (by omega) (by omega))) (v.hfree hm (by omega) (by omega)) e rfl
  dsimp only at e;cases hs:x.Custody.State==3 with
  |true=>
   rw[hs]at e;simp only[yab]at e;cases hw:!(w==0) with
   |true=>rw[hw]at e;cases e
   |false=>rw[hw]at e;exact fin (b6k e)
  |false=>rw[hs]at e;exact fin (b6k e)
theorem c3r {c:Circ} (v:Val 0 c) {l:List Loan} (h:o9 l=0∧(∀z∈l,∃w∈c.Loans,c1m z w)∧∀w∈c.Loans,∃z∈l,c1m w z):Res c (f7 c l):=by
 refine ⟨v.setLoans h.1 (fun n hn=>?_) (fun n hn _=>?_),a97,fun k=>k⟩
 ·obtain ⟨w,hw,e1,e2⟩:=h.2.1 n hn;exact ⟨by rw[e2];exact v.loanP w hw,.inl ⟨w,hw,e1.symm,e2.symm⟩⟩
 ·obtain ⟨z,hz,e1,e2⟩:=h.2.2 n hn;exact ⟨z,hz,e1.symm⟩
theorem g6e {c d:Circ} {n:Int} (v:Val 0 c) (m:MidP c) {p amount:Int} (e:qhn c p amount=some (d,n,0)):Res c d:=by
 have hc:=a57 v.charges;unfold qhn at e;rw[a26 m.short.patrons,d2t,f7a (by have:=hc.1;omega) hc.2]at e;dsimp only at e;cases hg:(a5d c.Patrons p).2 with
 |false=>rw[hg]at e;cases e
 |true=>
  rw[hg]at e;simp only[yai,yaa]at e;cases hb:(decide (amount<1)||decide (100000000<amount)) with
  |true=>rw[hb]at e;cases e
  |false=>
   rw[hb]at e;simp only[yaa,yah,yai,yal,yaM,and_true]at e;obtain ⟨rfl,-⟩:=e;simp only[yaj,yag]at hb;have hp:=a9p.1 v.charges;obtain ⟨q1,q2,q3⟩:=g6d p c.Charges amount (by omega) hp.2.1;have hn:=a7r v.nums;refine ⟨v.setCharges (l:=(b78 p c.Charges amount).1) (n:=c.NextCharge) (a9p.2 ⟨by omega,fun x hx=>(q2 x hx).1,?_⟩) ⟨yb6 _,hn.2.2.2⟩ (fun x hx=>?_),d8j (l:=(b78 p c.Charges amount).1) (n:=c.NextCharge),fun k=>k⟩
   ·exact ybv.1 ((ybv.2 hp.2.2).sublist q3)
   ·obtain ⟨y,hy,e1,e2⟩:=(q2 x hx).2;have:=b29 (v.chG y hy);rw[e1,e2];exact this
theorem e4h {c d:Circ} {n:Int} (v:Val 0 c) (m:MidP c) {item:Int} (e:qgq c item=some (d,n,0)):Res c d:=by
 unfold qgq at e;rw[d2n m.short.loans]at e;generalize a1p c.Loans item=q at e;obtain ⟨n0,ok⟩:=q;dsimp only at e;cases ok with
 |false=>cases e
 |true=>
  simp only[yai,yaa]at e;rcases y2 m item with ⟨-,h2,-⟩|⟨i,x,-,h2,hx,hid,-⟩
  ·rw[h2]at e;cases e
  ·rw[h2]at e;simp only[b9,hx]at e;cases h4:!(x.Custody.State==4) with
   |true=>rw[h4]at e;cases e
   |false=>
    rw[h4]at e;simp only[yaa]at e;cases hb:qf8 c n0.Patron with
    |none=>rw[hb]at e;cases e
    |some b=>
     rw[hb]at e;cases b with
     |true=>cases e
     |false=>
      dsimp only at e;simp only[yaa]at e;rw[show b8 a7w (item,0,c,ZN,n0,x,())=_ from b5i m.short]at e;cases hw:a50 c x with
      |true=>rw[hw]at e;cases e
      |false=>
       rw[hw]at e;dsimp only[cond_false]at e;cases hr:qg0 c n0.Patron x with
       |none=>rw[hr]at e;cases e
       |some rb=>
        obtain ⟨r,b⟩:=rb;rw[hr]at e;cases b with
        |false=>cases e
        |true=>
         dsimp only at e;simp only[yai,yaa,a26 m.short.patrons]at e;cases hc:qhm c x.Custody.Branch with
         |none=>rw[hc]at e;cases e
         |some cal=>
          rw[hc]at e;dsimp only at e;rcases q1:qgx r cal n0 c.Today (a5d c.Patrons n0.Patron).1.Until with _|⟨due,f⟩
          ·rw[q1]at e;cases e
          rw[q1]at e;dsimp only at e;have hz:=b6j e;clear e;obtain ⟨rfl,e⟩:=hz;rw[f7y m.short.loans]at e;rcases q2:a7x c.Loans item due with ⟨l,f⟩;rw[q2]at e;dsimp only at e;have hz:=b6j e;clear e;obtain ⟨rfl,e⟩:=hz;cases e
          exact c3r v (e4g q2)
end
section
theorem a8g {u:Custody} (h:u.State=4∨u.State=9∨u.State=10):a2o u=true:=by
 rw[a1a];rcases h with h|h|h<;>simp[h]
theorem d0o {c d:Circ} {i:Nat} {x:Item} {kind branch who:Int} (v:Val 0 c) (m:MidP c) (hx:c.Items[i]?=some x) (hs:x.Custody.State=4∨x.Custody.State=9)
 (e:qgo c x.ID kind branch who=some (d,0)) (hk:kind=11∨kind=12):Res c d:=by
 obtain ⟨u,ha,hlen,rfl,m1⟩:=a08 m hx e;have hu:(u.State=9∨u.State=10)∧u.Who=x.Custody.Who:=by
  rw[(c6q ha).res];rcases hk with rfl|rfl
  ·exact ⟨.inl rfl,rfl⟩
  ·exact ⟨.inr rfl,rfl⟩
 have hm0:=yaf hx;have hid:=a07 v.items hm0;have hm:y0 u x∈(t7 c i x ⟨c.Today,x.ID,kind,branch,who⟩ u).Items:=(a00 v.items hx).2 (.inr rfl);have hf:=v.hfree hm0 (by omega) (by omega);have hp:a2o (y0 u x).Custody=true:=a8g (u:=u) (by omega);refine ⟨((v.weak x.ID).move hx rfl ha hlen).close hm rfl (fun n hn e=>⟨hp,?_⟩) (fun _=>?_) (fun h hh hs1 hg=>absurd hg (hf h hh hs1)) (fun h=>?_),a0t,fun h y hy h3=>?_⟩
 ·obtain ⟨y,hy,hi,hw⟩:=v.loanI n hn;have:=y4 v.items hy hm0 (hi.trans e);subst this;exact hu.2.trans (hw (by omega)).2
 ·exact v.itemL x hm0 (by omega) (a8g (by omega))
 ·rw[show (y0 u x).Custody=u from rfl]at h;omega
 ·rcases (a00 v.items hx).1 hy with ⟨hy,_⟩|rfl
  ·exact h y hy h3
  ·rw[show (y0 u x).Custody=u from rfl]at h3;omega
theorem d8l {c d:Circ} (v:Val 0 c) (m:MidP c) {item:Int} (e:qgr c item=some (d,0)):Res c d:=by
 unfold qgr at e;rcases y2 m item with ⟨-,h2,-⟩|⟨i,x,-,h2,hx,rfl,-⟩
 ·rw[h2]at e;cases e
 ·rw[h2]at e;simp only[a1c,yaa,b9,hx]at e;have e:=b6k e;have hs:x.Custody.State∈([4]:List Int):=a17 m hx e;exact d0o v m hx (.inl (by simpa using hs)) e (.inl rfl)
theorem Res.trans {a b c:Circ} (h:Res a b) (k:Res b c):Res a c:=⟨k.val,h.stp.trans k.stp,fun q=>k.idle (h.idle q)⟩
theorem b3a {c d:Circ} {it:Int} (v:Val it c) (m:MidP c) {p item kind amount:Int} (hp:(a5d c.Patrons p).2=true) (e:qf7 c p item kind amount=some (d,0)):Val it d∧MidP d∧∃ch nc,d=a48 c ch nc:=by
 obtain ⟨hd,he,hn⟩:=(b0p m p item kind amount).b e;have hv:=a7r v.nums;rw[a0l (by omega) (by omega)]at hd;subst hd;refine ⟨v.setCharges he ⟨by omega,by omega⟩ (fun x hx=>?_),c2l m (a81 he) _,_,_,rfl⟩;rcases yas.1 hx with hx|hx
 ·have:=b29 (v.chG x hx);exact ⟨this.1,by omega⟩
 ·have:x=⟨c.NextCharge,p,item,c.Today,kind,amount,0⟩:=by simpa using hx
  subst this;exact ⟨hp,by show c.NextCharge<c.NextCharge+1;omega⟩
theorem c6x {c d:Circ} (v:Val 0 c) (m:MidP c) {p item kind amount:Int} (hp:(a5d c.Patrons p).2=true) (e:qf7 c p item kind amount=some (d,0)):Res c d:=by
 obtain ⟨h,-,ch,nc,rfl⟩:=b3a v m hp e;exact ⟨h,d8j,fun k=>k⟩
theorem c0j {l:List Hold} (h:t6 l=0) {o p:Hold} (ho:o∈l) (hp:p∈l) (hg:0<o.Got) (e:o.Got=p.Got):o=p:=by
 obtain ⟨i,hi⟩:=yau ho;obtain ⟨j,hj⟩:=yau hp;have h4:=(a9y.1 h).2.2;rw[ybd]at h4;obtain ⟨hil,rfl⟩:=yaL.1 hi;obtain ⟨hjl,rfl⟩:=yaL.1 hj;rcases Nat.lt_trichotomy i j with q|q|q
 ·have:=h4 i j hil hjl q;unfold a0d at this;simp only[yaj,ybk,yag,yaT,ne_eq]at this;rcases this.2 with w|w
  ·omega
  ·exact absurd e.symm w
 ·subst q;rfl
 ·have:=h4 j i hjl hil q;unfold a0d at this;simp only[yaj,ybk,yag,yaT,ne_eq]at this;rcases this.2 with w|w
  ·omega
  ·exact absurd e w
theorem f0e {l m:List Hold} (hs:∀i x,l[i]?=some x→u9 l i (fun y=>decide (x.ID≤y.ID))=false) {item:Int} (h:b1x l item=(m,0)):∃o∈l,o.Got=item∧m=b65 l o.ID (c0i o 0 1 0):=by
 unfold b1x at h;rcases j3 (fun x:Hold=>x.Got==item) l with ⟨h1,h2⟩|⟨i,x,h1,h2,h3,h4⟩
 ·rw[h2]at h;cases h
 ·rw[h4,h1]at h;simp only[yay]at h;cases h0:item==0 with
  |true=>rw[h0]at h;cases h
  |false=>
   rw[h0]at h;simp only[yaa,yaM,and_true]at h;subst h;exact ⟨x,yaf h2,by simpa using h3,(a8c hs h2 (y:=c0i x 0 1 0) rfl).symm⟩
theorem d4c {o:Hold} (h:p9 o=0):p9 (c0i o 0 1 0)=0:=by
 rw[e7e]at h ⊢;obtain ⟨⟨a1,a2,a3,a4,a5,a6,a7,a8,a9,a10⟩,b,c,d⟩:=h;have z:¬(0:Int)<0:=by decide
 exact ⟨⟨a1,a2,a3,a4,a5,a6,.inl rfl,⟨yb6 0,(show (0:Int)≤109572 by decide)⟩,a9,a10⟩,⟨yb6 1,(show (1:Int)≤3 by decide)⟩,⟨fun q=>absurd (show (0:Int)<0 from q) z,fun q=>absurd rfl q⟩,⟨fun q=>absurd (show (0:Int)<0 from q) z,fun q=>absurd (show (1:Int)=3 from q) (by decide)⟩⟩
theorem e02 {c:Circ} {y:Item} (hy:y∈c.Items):∃j,j<c.Items.length∧c.Items[j]?=some y:=by
 obtain ⟨j,hj⟩:=yau hy;exact ⟨j,(zL hj),hj⟩
theorem f2r {c d:Circ} (v:Val 0 c) (m:MidP c) {item:Int} (e:qg6 c item=some (d,0)):Res c d:=by
 unfold qg6 at e;rcases y2 m item with ⟨-,h2,-⟩|⟨i,x,-,h2,hx,rfl,-⟩
 ·rw[h2]at e;cases e
 rw[h2]at e;simp -zeta only[a1c,yaa,b9,hx,a0e]at e;dsimp only at e;have hm0:=yaf hx;have hid:=a07 v.items hm0;cases hs:x.Custody.State==4||x.Custody.State==9 with
 |true=>
  rw[hs]at e;simp only[yab]at e;have hs2:x.Custody.State=4∨x.Custody.State=9:=by simpa using hs
  rcases e1:qgo c x.ID 12 x.Custody.Branch 0 with _|⟨c1,f⟩
  ·rw[e1]at e;cases e
  rw[e1]at e;dsimp only at e;have hz:=e7y e;clear e;obtain ⟨rfl,e⟩:=hz;have r1:=d0o v m hx hs2 e1 (.inr rfl);obtain ⟨u,ha,hlen,hc1,m1⟩:=a08 m hx e1;cases hp:x.Price==0 with
  |true=>
   rw[hp]at e;cases e
   exact r1
  |false=>
   rw[hp]at e;have e:=b6k e;obtain ⟨n,hn,hni⟩:=v.itemL x hm0 (by omega) (a8g (by omega));have hw:x.Custody.Who=n.Patron:=by
    obtain ⟨y,hy,hi,hw⟩:=v.loanI n hn;have:=y4 v.items hy hm0 (hi.trans hni);subst this;exact (hw (by omega)).2
   have hpk:(a5d c1.Patrons x.Custody.Who).2=true:=by
    rw[hw,hc1];exact v.loanP n hn
   exact r1.trans (c6x r1.val m1 hpk e)
 |false=>
  rw[hs]at e;simp only[yaa]at e;have hs2:¬(x.Custody.State=4∨x.Custody.State=9):=by simpa using hs
  rcases e1:qgo c x.ID 13 x.Custody.Branch 0 with _|⟨c1,f⟩
  ·rw[e1]at e;cases e
  rw[e1]at e;dsimp only at e;have hz:=e7y e;clear e;obtain ⟨rfl,e⟩:=hz;have hst:x.Custody.State∈([2,3,5,6,7]:List Int):=a17 m hx e1;have hst:x.Custody.State=2∨x.Custody.State=3∨x.Custody.State=5∨x.Custody.State=6∨x.Custody.State=7:=by simpa using hst
  obtain ⟨u,ha,hlen,rfl,m1⟩:=a08 m hx e1;have hu:u.State=11:=by rw[(c6q ha).res];rfl
  have v1:=(v.weak x.ID).move hx rfl ha hlen;have hlf:=v.lfree hm0 (a3u (by omega) (by omega) (by omega));have hm:y0 u x∈(t7 c i x ⟨c.Today,x.ID,13,x.Custody.Branch,0⟩ u).Items:=(a00 v.items hx).2 (.inr rfl);have hnp:¬a2o (y0 u x).Custody=true:=by
   rw[a3u (x:=y0 u x) (by show u.State≠4;omega) (by show u.State≠9;omega) (by show u.State≠10;omega)]
   decide
  have hidle:a9g c→a9g (t7 c i x ⟨c.Today,x.ID,13,x.Custody.Branch,0⟩ u):=fun h y hy h3=>by
   rcases (a00 v.items hx).1 hy with ⟨hy,_⟩|rfl
   ·exact h y hy h3
   ·rw[show (y0 u x).Custody=u from rfl]at h3;omega
  have hcl:∀c2:Circ,c2.Items=(t7 c i x ⟨c.Today,x.ID,13,x.Custody.Branch,0⟩ u).Items→c2.Loans=c.Loans→Val x.ID c2→b89 c2 x.ID→Val 0 c2:=by
   intro c2 hI hL v2 hf;refine v2.close (x:=y0 u x) (by rw[hI];exact hm) rfl (fun n hn e=>absurd e (hlf n (by rw[←hL];exact hn))) (fun h=>absurd h hnp) (fun h hh hs1 hg=>absurd hg (hf h hh hs1)) (fun h=>?_);rw[show (y0 u x).Custody=u from rfl]at h;omega
  rw[b0b m1.short.holds]at e;dsimp only at e;cases hc:(o6 (t7 c i x ⟨c.Today,x.ID,13,x.Custody.Branch,0⟩ u) x.ID).2 with
  |false=>
   rw[hc]at e;cases e
   refine ⟨hcl _ rfl rfl v1 (fun o ho hs1 hg=>?_),a0t,hidle⟩;unfold o6 at hc;cases hq:(t7 c i x ⟨c.Today,x.ID,13,x.Custody.Branch,0⟩ u).Holds.find? (fun h=>h.Got==x.ID) with
   |none=>exact absurd (ybi.1 hq o ho) (by simpa using hg)
   |some p=>rw[hq]at hc;cases hc
  |true=>
   rw[hc]at e;simp only[yai,yaa]at e;rw[f70 m1.short.holds m1.sorted]at e;dsimp only at e;rcases hd:b1x (t7 c i x ⟨c.Today,x.ID,13,x.Custody.Branch,0⟩ u).Holds x.ID with ⟨l,f⟩;rw[hd]at e;dsimp only at e;have hz:=e7y e;clear e;obtain ⟨rfl,e⟩:=hz;have e:=b6k e;have hk:=c2v (l:=(t7 c i x ⟨c.Today,x.ID,13,x.Custody.Branch,0⟩ u).Holds) (item:=x.ID) (by rw[hd]);rw[hd]at hk;have m2:=a9z m1 hk;obtain ⟨o,ho,hg,rfl⟩:=f0e m1.sorted hd;have hsh:=d4c (a1q v1.holds ho);have v2:=v1.swap ho (p:=c0i o 0 1 0) rfl rfl rfl hsh (fun z hz q=>absurd (show (0:Int)<0 from q) (by decide)) (.inr hg) (fun q=>absurd rfl q);have v3:=hcl (i6 (t7 c i x ⟨c.Today,x.ID,13,x.Custody.Branch,0⟩ u) (b65 (t7 c i x ⟨c.Today,x.ID,13,x.Custody.Branch,0⟩ u).Holds o.ID (c0i o 0 1 0))) rfl rfl v2 (fun p hp hs1 hpg=>by
    rcases (a3t ho).1 hp with ⟨hp,hne⟩|rfl
    ·have:=c0j v1.holds ho hp (by rw[hg];omega) (hg.trans hpg.symm);subst this;exact hne rfl
    ·exact hs1 rfl)
   have I:=c0q m2 v3 e;refine ⟨I.val,a0t.trans (a4y.trans I.stp),fun h y hy h3=>?_⟩;by_cases hr:y.Record=x.Record
   ·obtain ⟨j,hj,hjy⟩:=e02 hy;exact I.done j y hj hjy hr h3
   ·have hy2:=I.rest y hy hr;have hn:=hidle h y hy2 h3;intro q hq hw;have hq1:=b0k hw;rcases (a3t ho).1 (I.less.2 q hq hq1.2.1) with ⟨hq2,_⟩|rfl
    ·refine hn q hq2 ?_;rw[I.less.1]at hw;exact hw
    ·have ho1:o.State≠1:=fun q=>by
      have:=(a7n (a1q v1.holds ho)).2.2.2.2.1 q;omega
     obtain ⟨z,hz,hzi,hzr,-⟩:=v1.holdI o ho ho1;have:=y4 v1.items hz hm (hzi.trans hg);subst this;exact absurd (hq1.1.symm.trans hzr.symm) hr
theorem c6f {c d:Circ} (v:Val 0 c) (m:MidP c) {item:Int} (e:qf5 c item=some (d,0)):Res c d:=by
 unfold qf5 at e;rcases y2 m item with ⟨-,h2,-⟩|⟨i,x,-,h2,hx,rfl,-⟩
 ·rw[h2]at e;cases e
 rw[h2]at e;simp only[a1c,yaa,b9,hx]at e;have hm0:=yaf hx;have hid:=a07 v.items hm0;have hlp:=(a7q.1 v.loans).1;rw[show b8 b5d (x.ID,(i:Int),false,0,c,ZN,x,())=_ from b8s m hx]at e;dsimp only at e;rw[b5c m.short.holds]at e;cases hq:c.Holds.find? (fun o:Hold=>o.Item==x.ID||(o.Record==x.Record&&!(b77 c x)&&!(x.Custody.State==12))) with
 |some o=>rw[hq]at e;cases e
 |none=>
  rw[hq]at e;dsimp only at e;rcases e1:qgo c x.ID 15 x.Custody.Branch 0 with _|⟨c1,f⟩
  ·rw[e1]at e;cases e
  rw[e1]at e;dsimp only at e;have hz:=e7y e;clear e;obtain ⟨rfl,e⟩:=hz;have hst:x.Custody.State∈([1,2,3,11,10]:List Int):=a17 m hx e1;have hst:x.Custody.State=1∨x.Custody.State=2∨x.Custody.State=3∨x.Custody.State=11∨x.Custody.State=10:=by simpa using hst
  obtain ⟨u,ha,hlen,rfl,m1⟩:=a08 m hx e1;have hu:u.State=12:=by rw[(c6q ha).res];rfl
  have v1:=(v.weak x.ID).move hx rfl ha hlen;have hf:=v.hfree hm0 (by omega) (by omega);have hm:y0 u x∈(t7 c i x ⟨c.Today,x.ID,15,x.Custody.Branch,0⟩ u).Items:=(a00 v.items hx).2 (.inr rfl);have hnp:¬a2o (y0 u x).Custody=true:=by
   rw[a3u (x:=y0 u x) (by show u.State≠4;omega) (by show u.State≠9;omega) (by show u.State≠10;omega)]
   decide
  have hidle:a9g c→a9g (t7 c i x ⟨c.Today,x.ID,15,x.Custody.Branch,0⟩ u):=fun h y hy h3=>by
   rcases (a00 v.items hx).1 hy with ⟨hy,_⟩|rfl
   ·exact h y hy h3
   ·rw[show (y0 u x).Custody=u from rfl]at h3;omega
  have hcl:∀c2:Circ,c2.Items=(t7 c i x ⟨c.Today,x.ID,15,x.Custody.Branch,0⟩ u).Items→c2.Holds=c.Holds→Val x.ID c2→b6g c2 x.ID→Val 0 c2:=by
   intro c2 hI hH v2 hlf;refine v2.close (x:=y0 u x) (by rw[hI];exact hm) rfl (fun n hn e=>absurd e (hlf n hn)) (fun h=>absurd h hnp) (fun h hh hs1 hg=>absurd hg (hf h (by rw[←hH];exact hh) hs1)) (fun h=>?_);rw[show (y0 u x).Custody=u from rfl]at h;omega
  rw[d2s (show (t7 c i x ⟨c.Today,x.ID,15,x.Custody.Branch,0⟩ u).Loans.length<100000000 by show c.Loans.length<_;omega)]at e;rcases hb:a5b (t7 c i x ⟨c.Today,x.ID,15,x.Custody.Branch,0⟩ u).Loans x.ID with ⟨l,n,f⟩;rw[hb]at e;dsimp only at e;by_cases hz:f=0
  ·subst hz;cases e
   obtain ⟨b1,b2,b3,b4⟩:=c9z v1.loans hb;have v2:=v1.setLoans b3 (fun z hz=>⟨v1.loanP z ((b4 z).1 hz).1,.inl ⟨z,((b4 z).1 hz).1,rfl,rfl⟩⟩) (fun z hz hne=>⟨z,(b4 z).2 ⟨hz,hne⟩,rfl⟩);exact ⟨hcl (f7 (t7 c i x ⟨c.Today,x.ID,15,x.Custody.Branch,0⟩ u) l) rfl rfl v2 (fun z hz=>((b4 z).1 hz).2),a0t.trans a97,hidle⟩
  ·rw[show (f==0)=false by simpa using hz]at e;cases e
   refine ⟨hcl _ rfl rfl v1 (fun z hz2 hzi=>?_),a0t,hidle⟩;unfold a5b at hb;cases hq2:(t7 c i x ⟨c.Today,x.ID,15,x.Custody.Branch,0⟩ u).Loans.find? (fun n=>n.Item==x.ID) with
   |none=>exact absurd (ybi.1 hq2 z hz2) (by simpa using hzi)
   |some w=>
    rw[hq2]at hb;cases hb
    exact hz rfl
theorem d6g {c d:Circ} {n:Int} (v:Val 0 c) (m:MidP c) (h:FitP c) {id:Int} (e:qgg c id=some (d,n,0)):Res c d:=by
 unfold qgg at e;rw[b1n m.short.holds]at e;generalize b2g c.Holds id=q at e;obtain ⟨o,b⟩:=q;dsimp only at e;cases b with
 |false=>cases e
 |true=>
  simp only[yai,yaa]at e;cases h1:o.State==1 with
  |false=>rw[h1]at e;cases e
  |true=>
   rw[h1]at e;simp only[yai,yaa]at e;obtain ⟨t,ht,hg⟩:=c50 (f:=fun (_:Nat) x s=>e74 c o x s) (b5r c) (l:=c.Items) (i:=0) (s:=(false,a8w,a4a)) (fun i x s hx hs=>b2o h hx hs) (.inl ⟨rfl,rfl⟩);have r2:=b8t m.short h o;rw[hg]at r2;rw[show b8 b5h (0,c,ZN,o,(⟨0,0,0,0,0,false⟩:Loan),())=_ from r2]at e;dsimp only at e;cases hb:t.2.1.Item==0 with
   |true=>rw[hb]at e;cases e
   |false=>
    rw[hb]at e;simp only[yaa]at e;rcases y2 m t.2.1.Item with ⟨-,h2,-⟩|⟨i,x,-,h2,hx,hid,-⟩
    ·rw[h2]at e;cases e
    rw[h2]at e;simp only[b9,hx]at e;cases hr:qg0 c t.2.1.Patron x with
    |none=>rw[hr]at e;cases e
    |some rb=>
     obtain ⟨r,b⟩:=rb;rw[hr]at e;cases b with
     |false=>cases e
     |true=>
      dsimp only at e;simp only[yai,yaa]at e;cases hc:qhm c x.Custody.Branch with
      |none=>rw[hc]at e;cases e
      |some cal=>
       rw[hc]at e;dsimp only at e;rcases q1:qgy cal c.Today r.Recall with _|⟨due,f⟩
       ·rw[q1]at e;cases e
       rw[q1]at e;dsimp only at e;have hz:=b6j e;clear e;obtain ⟨rfl,e⟩:=hz;rw[f7v m.short.loans]at e;rcases q2:a5w c.Loans t.2.1.Item due with ⟨l,f⟩;rw[q2]at e;dsimp only at e;have hz:=b6j e;clear e;obtain ⟨rfl,e⟩:=hz;cases e
       exact c3r v (d6f v.loans q2)
end
section
theorem e2z:∀{A B:List Int},A.Nodup→(∀a∈A,a∈B)→A.length≤B.length:=by
 intro A
 induction A with
 |nil=>intro B _ _;simp
 |cons a A ih=>
  intro B hn hs;rw[List.nodup_cons]at hn;have ha:=hs a (yaz ..);have:=ih (B:=B.erase a) hn.2 (fun b hb=>by
   have h1:b≠a:=fun e=>hn.1 (e▸hb)
   exact (List.mem_erase_of_ne h1).2 (hs b (yaC _ hb)))
  rw[List.length_erase_of_mem ha]at this;have hp:=List.length_pos_of_mem ha;simp only[yaK];omega
theorem c9c {c:Circ} {it:Int} (v:Val it c) (r:Int):(c.Holds.filter (fun o=>o.Record==r)).length≤c.Patrons.length:=by
 have hp:=(a9y.1 v.holds).2.2;have h1:((c.Holds.filter (fun o=>o.Record==r)).map (fun o=>o.Patron)).Nodup:=by
  rw[List.nodup_iff_pairwise_ne,ybv];refine (hp.filter _).imp_of_mem (fun {a b} ha hb q=>?_);have ha:=(yax.1 ha).2;have hb:=(yax.1 hb).2;simp only[yba]at ha hb;unfold a0d at q;simp only[yaj,ybk,yaT,ne_eq]at q;rcases q.1 with w|w
  ·exact fun e=>w e.symm
  ·exact absurd (hb.trans ha.symm) w
 have h2:=e2z h1 (B:=c.Patrons.map (fun p=>p.ID)) (fun a ha=>by
  obtain ⟨o,ho,rfl⟩:=ya8.1 ha;have:=(v.holdP o (yax.1 ho).1).1;unfold a5d at this;cases hq:c.Patrons.find? (fun p=>p.ID==o.Patron) with
  |none=>rw[hq]at this;cases this
  |some p=>exact ya8.2 ⟨p,yaR hq,by have:=ybh hq;simpa using this⟩)
 rw[ybc,ybc]at h2;exact h2
theorem a93 {c:Circ} (h:a16 c=true):c.Items.length≤64∧c.Moves.length≤2000:=by
 unfold a16 at h;simp only[yad,yar,yaj,yag]at h;omega
structure Inv (c:Circ):Prop where
 val:Val 0 c
 short:Short c
 pats:c.Patrons.length≤8
theorem h3x {c d:Circ} (s:Short c) (hp:c.Patrons.length≤8) (v:Val 0 d) (t:Stp c d):Inv d:=by
 obtain ⟨a1,a2,a3,a4,a5,a6,a7,a8,a9,a10,a11,a12,a13⟩:=s;have h1:=a93 v.items;have h2:=(a7q.1 v.loans).1;have h3:=(a9y.1 v.holds).1;have h4:=(a9p.1 v.charges).1;refine ⟨v,⟨by omega,by rw[t.pats];exact a2,by omega,by omega,by omega,by rw[t.rules];exact a6,by omega,fun x hx=>by have:=(a07 v.items hx).2.2.2.2;omega,by rw[t.pats];exact a9,by rw[t.cals];exact a10,by rw[t.cals];exact a11,by rw[t.cals];exact a12,by rw[t.cals];exact a13⟩,by rw[t.pats];exact hp⟩
theorem Inv.fit {c:Circ} (h:Inv c):FitP c:=h72 (e7o h.val)
theorem Inv.mid {c:Circ} (h:Inv c):MidP c:=by
 have f:=h.fit;have h1:=a93 h.val.items;have h2:=(a9y.1 h.val.holds).1;have h4:=(a9p.1 h.val.charges).1;exact ⟨h.short,by omega,by omega,y8 f.holds,fun o ho=>a6b f ho,fun r=>by have:=c9c h.val r;have:=h.pats;omega,a6q f,fun r hr=>c09 f hr,fun x hx=>a8a f hx,b0u h.val.items,by omega⟩
theorem Inv.w {c:Circ} (h:Inv c):MidW c:=by
 have h1:=a93 h.val.items;have h2:=(a7q.1 h.val.loans).1;have h3:=(a9y.1 h.val.holds).1;exact ⟨h.short,by omega,by omega,by omega,fun r=>by have:=c9c h.val r;have:=h.pats;omega⟩
theorem Inv.of {c d:Circ} (h:Inv c) (v:Val 0 d) (t:Stp c d):Inv d:=h3x h.short h.pats v t
theorem a83 {c:Circ} (p:Hold→Bool):c6j (i6 c (c.Holds.filter p)) c:=⟨rfl,fun o ho _=>(yax.1 ho).1⟩
theorem a9g.less {c d:Circ} (h:a9g c) (hi:d.Items=c.Items) (l:c6j d c):a9g d:=fun y hy h3=>(h y (by rw[←hi];exact hy) h3).less l rfl rfl
theorem c28 {c d:Circ} (I:Inv c) {id:Int} (e:qgp c id=some (d,0)):Res c d:=by
 have v:=I.val;have m:=I.mid;have hn:=m.holdsN;unfold qgp at e;rw[c49 (by omega)]at e;unfold a1i at e;cases hq:c.Holds.find? (fun h=>h.ID==id) with
 |none=>rw[hq]at e;cases e
 |some o=>
  have ho:=yaR hq;have hid:o.ID=id:=by have:=ybh hq;simpa using this
  subst hid;rw[hq]at e;dsimp only at e;simp only[yah,yai,yaa]at e;have v0:=fun it (q:o.State≠3∨o.Got=it)=>(v.weak it).remove ho q
  have m0:=b7k m (fun x=>!(x.ID==o.ID));cases h3:o.State==3 with
  |false=>
   rw[h3]at e;cases e
   exact ⟨v.remove ho (.inl (by simpa using h3)),a4y,fun h=>h.less rfl (a83 _)⟩
  |true=>
   rw[h3]at e;have h3:o.State=3:=by simpa using h3
   simp only[yai,yaa]at e;obtain ⟨x,hx,hg,-,hat⟩:=v.holdI o ho (by omega);have hxi:=a07 v.items hx;have hat:=(hat (by omega)).1 h3;obtain ⟨i,hi⟩:=yau hx;rw[←hg]at e;change (match qgo (i6 c (c.Holds.filter (fun x=>!(x.ID==o.ID)))) x.ID 2 o.Pickup 0 with|some (r5,r6)=>(bif !(r6==0) then some (o4,r6) else match qg4 r5 x.ID with|some (r8,r9)=>some (r8,r9)|none=>none)|none=>none)=some (d,0) at e;rcases e1:qgo (i6 c (c.Holds.filter (fun x=>!(x.ID==o.ID)))) x.ID 2 o.Pickup 0 with _|⟨c1,f⟩
   ·rw[e1]at e;cases e
   rw[e1]at e;dsimp only at e;have hz:=e7y e;clear e;obtain ⟨rfl,e⟩:=hz;have e:=b6k e;have hlf:=v.lfree hx (a3u (by omega) (by omega) (by omega));obtain ⟨a,b,_,q⟩:=ma (v0 x.ID (.inr hg.symm)) m0 hi hlf (fun p hp hs1 hpg=>by
    have hp2:=yax.1 hp;have:=c0j v.holds ho hp2.1 (by omega) (hg.symm.trans hpg.symm);subst this;have:=hp2.2;simp at this) e1 e
   exact ⟨a,a4y.trans b,fun h=>q (a9g.x (a9g.less (d:=i6 c (c.Holds.filter (fun x=>!(x.ID==o.ID)))) h rfl (a83 _)) _)⟩
theorem d3x {c d:Circ} (I:Inv c) {id:Int} (e:qgh c id=some (d,0)):Res c d:=by
 unfold qgh at e;exact c28 I (b6k e)
theorem e26 {l m:List Hold} {h:Hold} (e:a7u l h=(m,0)):m=l++[h]∧t6 (l++[h])=0:=by
 unfold a7u at e;cases hq:((!(h.State==1)||!(h.Got==0))||!(h.Until==0)) with
 |true=>rw[hq]at e;cases e
 |false=>
  rw[hq]at e;simp only[yaa]at e;by_cases he:t6 (l++[h])=0
  ·rw[he]at e;cases e
   exact ⟨rfl,he⟩
  ·rw[show (t6 (l++[h])==0)=false by simpa using he]at e;simp only[yan,yab,yaM]at e;exact absurd e.2 he
theorem f0v {c d:Circ} {n:Int} (I:Inv c) {vid record item pickup:Int} (e:qg9 c vid record item pickup=some (d,n,0)):Res c d:=by
 have v:=I.val;have m:=I.mid;have f:=I.fit;have hn:=m.holdsN;have hnum:=a7r v.nums;unfold qg9 at e;simp -zeta only[a26 m.short.patrons,f7u m.short.items,a0e]at e;cases hp:a5d c.Patrons vid with
 |mk p ok=>
 rw[hp]at e;cases ok with
 |false=>cases e
 |true=>
 have hpi:=(c0h hp).2;subst hpi;dsimp only at e;cases hx:c.Items.find? (c2n record item) with
 |none=>rw[hx]at e;cases e
 |some x=>
 rw[hx]at e;simp only[yai,Bool.or_self,yaa]at e;cases hq:(decide (pickup<1)||decide (4<pickup)) with
 |true=>rw[hq]at e;cases e
 |false=>
 rw[hq]at e;simp only[yaa]at e;cases hb:qf8 c p.ID with
 |none=>rw[hb]at e;cases e
 |some b=>
 rw[hb]at e;cases b with
 |true=>cases e
 |false=>
 dsimp only at e;simp only[yaa,e3x m.short.loans]at e;have hll:(c.Loans.filter (fun x=>x.Patron==p.ID)).length<1000000000:=by have:=yaw (fun x:Loan=>x.Patron==p.ID) c.Loans;have:=m.short.loans;omega
 have r2:=b5g (c:=c) (v:=o4) (p:=p.ID) (record:=record) (item:=item) (pickup:=pickup) (y:=x) m.short hll (fun n hn=>by
  obtain ⟨x,p,hx,-⟩:=a4l f (yax.1 hn).1;rw[hx];rfl)
 rw[show b8 a9b (p.ID,record,item,pickup,c.Loans.filter (fun x=>x.Patron==p.ID),0,c,ZN,x,())=_ from r2]at e;cases hl:(c.Loans.filter (fun x=>x.Patron==p.ID)).find? (b6x c record) with
 |some _=>rw[hl]at e;cases e
 |none=>
 rw[hl]at e;dsimp only at e;cases hnh:decide (99999<c.NextHold) with
 |true=>rw[hnh]at e;cases e
 |false=>
 have hnh2:¬99999<c.NextHold:=by simpa using hnh
 rw[hnh]at e;simp only[yaa]at e;cases hr:qg0 c p.ID x with
 |none=>rw[hr]at e;cases e
 |some rb=>
 obtain ⟨r,b⟩:=rb;rw[hr]at e;dsimp only at e;rw[f7x (by omega),a0l (show -9223372036854775808≤c.NextHold+1 by omega) (by omega)]at e;rcases hpl:a7u c.Holds (⟨c.NextHold,p.ID,record,item,pickup,c.Today,1,0,0,0,r.Rank⟩:Hold) with ⟨l,f1⟩;rw[hpl]at e;dsimp only at e;have hz:=b6j e;clear e;obtain ⟨rfl,e⟩:=hz;obtain ⟨rfl,he⟩:=e26 hpl;have v2:=v.place he rfl rfl (by omega) (by show (a5d c.Patrons p.ID).2=true;rw[hp]);have st2:Stp c (b6d (i6 c (c.Holds++[(⟨c.NextHold,p.ID,record,item,pickup,c.Today,1,0,0,0,r.Rank⟩:Hold)])) (c.NextHold+1)):=⟨rfl,rfl,rfl,[],by simp[b6d,i6]⟩
 have I2:=I.of v2 st2;have m2:=I2.mid;generalize hc2:b6d (i6 c (c.Holds++[(⟨c.NextHold,p.ID,record,item,pickup,c.Today,1,0,0,0,r.Rank⟩:Hold)])) (c.NextHold+1)=c2 at v2 st2 m2;have hc3:{c with Holds:=c.Holds++[(⟨c.NextHold,p.ID,record,item,pickup,c.Today,1,0,0,0,r.Rank⟩:Hold)],NextHold:=c.NextHold+1}=c2:=by rw[←hc2];rfl
 rw[hc3]at e;rcases e1:qg2 c2 record with _|⟨d2,f2⟩
 ·rw[e1]at e;cases e
 rw[e1]at e;dsimp only at e;have hz:=b6j e;clear e;obtain ⟨rfl,e⟩:=hz;cases e
 have L:=c0q m2 v2 e1;refine ⟨L.val,st2.trans L.stp,fun h y hy h3=>?_⟩;by_cases hry:y.Record=record
 ·obtain ⟨j,hj,hjy⟩:=e02 hy;exact L.done j y hj hjy hry h3
 ·have hy2:=L.rest y hy hry;have hI:c2.Items=c.Items:=by rw[←hc2];rfl
  have hH:c2.Holds=c.Holds++[(⟨c.NextHold,p.ID,record,item,pickup,c.Today,1,0,0,0,r.Rank⟩:Hold)]:=by rw[←hc2];rfl
  have hT:c2.Today=c.Today:=by rw[←hc2];rfl
  have hno:=h y (by rw[←hI];exact hy2) h3;intro o ho hw;have hw1:=b0k hw;have ho2:=L.less.2 o ho hw1.2.1;rw[hH]at ho2;rcases yas.1 ho2 with ho2|ho2
  ·refine hno o ho2 ?_;rw[L.less.1,hT]at hw;exact hw
  ·have:o=⟨c.NextHold,p.ID,record,item,pickup,c.Today,1,0,0,0,r.Rank⟩:=by simpa using ho2
   subst this;exact absurd hw1.1.symm hry
end
section
theorem c00 {c:Circ} (s:Short c) {item patron branch due:Int} (e:qf6 c item patron branch=some (due,0)):(a5d c.Patrons patron).2=true:=by
 unfold qf6 at e;rw[a26 s.patrons,b5m s.items]at e;dsimp only at e;cases hg:(a5d c.Patrons patron).2 with
 |true=>rfl
 |false=>
  rw[hg]at e;cases hq:decide (a5a (fun x=>x.ID==item) c.Items<0)<;>rw[hq]at e<;>cases e
theorem b24 {c:Circ} {item:Int} (h:(o6 c item).2=false):∀o∈c.Holds,o.Got≠item:=by
 intro o ho e;unfold o6 at h;cases hq:c.Holds.find? (fun h=>h.Got==item) with
 |none=>exact absurd (ybi.1 hq o ho) (by simpa using e)
 |some p=>rw[hq]at h;cases h
theorem f01 {c d:Circ} {n:Int} (I:Inv c) {item patron branch:Int} (e:qg8 c item patron branch=some (d,n,0)):Res c d:=by
 have v:=I.val;have m:=I.mid;have hlp:=(a7q.1 v.loans).1;have hhp:=(a9y.1 v.holds).1;unfold qg8 at e;rcases e0:qf6 c item patron branch with _|⟨due,f⟩
 ·rw[e0]at e;cases e
 rw[e0]at e;dsimp only at e;have hz:=b6j e;clear e;obtain ⟨rfl,e⟩:=hz;have hk:=c00 m.short e0;rcases y2 m item with ⟨-,h2,-⟩|⟨i,x,-,h2,hx,rfl,-⟩
 ·rw[h2]at e;cases e
 rw[h2]at e;simp only[b9,hx]at e;rcases e1:qgo c x.ID 3 branch patron with _|⟨c1,f⟩
 ·rw[e1]at e;cases e
 rw[e1]at e;dsimp only at e;have hz:=b6j e;clear e;obtain ⟨rfl,e⟩:=hz;have hm0:=yaf hx;have hid:=a07 v.items hm0;have hst:x.Custody.State∈([3,5]:List Int):=a17 m hx e1;have hst:x.Custody.State=3∨x.Custody.State=5:=by simpa using hst
 obtain ⟨u,ha,hlen,hc1,m1⟩:=a08 m hx e1;have hu:u.State=4∧u.Who=patron:=by rw[(c6q ha).res];exact ⟨rfl,rfl⟩
 have v1:=(v.weak x.ID).move hx rfl ha hlen;have hlf:=v.lfree hm0 (a3u (by omega) (by omega) (by omega));have hm1:y0 u x∈(t7 c i x ⟨c.Today,x.ID,3,branch,patron⟩ u).Items:=(a00 v.items hx).2 (.inr rfl);have st1:Stp c (t7 c i x ⟨c.Today,x.ID,3,branch,patron⟩ u):=a0t;have hidle:a9g c→a9g (t7 c i x ⟨c.Today,x.ID,3,branch,patron⟩ u):=fun h y hy h3=>by
  rcases (a00 v.items hx).1 hy with ⟨hy,_⟩|rfl
  ·exact h y hy h3
  ·rw[show (y0 u x).Custody=u from rfl]at h3;omega
 rw[←hc1]at v1 hm1 st1 hidle;have hL:c1.Loans=c.Loans:=by rw[hc1];rfl
 have hH:c1.Holds=c.Holds:=by rw[hc1];rfl
 have hP:c1.Patrons=c.Patrons:=by rw[hc1];rfl
 clear hc1;rw[f73 (by rw[hL];omega)]at e;dsimp only at e;rcases hout:e73 c1.Loans ⟨x.ID,patron,c1.Today,due,0,false⟩ with ⟨l,f⟩;rw[hout]at e;dsimp only at e;have hz:=b6j e;clear e;obtain ⟨rfl,e⟩:=hz;obtain ⟨o1,o2,o3⟩:=g6c hout;have v2:=v1.setLoans (l:=l) o1 (fun z hz=>by
  rcases (o2 z).1 hz with rfl|hz
  ·exact ⟨by rw[hP];exact hk,.inr ⟨rfl,y0 u x,hm1,rfl⟩⟩
  ·exact ⟨v1.loanP z hz,.inl ⟨z,hz,rfl,rfl⟩⟩) (fun z hz _=>⟨z,(o2 z).2 (.inr hz),rfl⟩)
 have hc2:{c1 with Loans:=l}=f7 c1 l:=rfl;simp only[hc2]at e;have hH2:(f7 c1 l).Holds=c.Holds:=hH;have hI2:(f7 c1 l).Items=c1.Items:=rfl;have hL2:(f7 c1 l).Loans=l:=rfl;have st2:Stp c (f7 c1 l):=st1.trans a97;have hid2:a9g c→a9g (f7 c1 l):=hidle;generalize f7 c1 l=c2 at e v2 hH2 hI2 hL2 st2 hid2;have fin:∀d:Circ,d.Items=c1.Items→d.Loans=l→Val x.ID d→b89 d x.ID→Stp c2 d→c6j d c2→Res c d:=by
  intro d qI qL vd hf st hless;refine ⟨vd.close (x:=y0 u x) (by rw[qI];exact hm1) rfl (fun z hz hzi=>?_) (fun _=>⟨⟨x.ID,patron,c1.Today,due,0,false⟩,by rw[qL];exact (o2 _).2 (.inl rfl),rfl⟩) (fun h hh hs1 hg=>absurd hg (hf h hh hs1)) (fun h=>?_),st2.trans st,fun h=>(hid2 h).less (qI.trans hI2.symm) hless⟩
  ·rw[qL]at hz;rcases (o2 z).1 hz with rfl|hz
   ·exact ⟨a8g (u:=u) (.inl hu.1),hu.2⟩
   ·exact absurd hzi (hlf z (by rw[←hL];exact hz))
  ·rw[show (y0 u x).Custody=u from rfl]at h;omega
 have hs2:c2.Holds.length<1000000:=by rw[hH2];omega
 rw[b0b (by omega)]at e;dsimp only at e;have cut:∀o∈c2.Holds,(o.State≠3∨o.Got=x.ID)→(∀p∈c2.Holds,p.State≠1→p.Got=x.ID→p.ID=o.ID)→(match qgi c2.Holds o.ID with
  |some (r23,r24,r25)=>bif !(r25==0) then some (o4,0,r25) else some (i6 c2 r23,due,0)
  |none=>none)=some (d,n,0)→Res c d:=by
  intro o ho hoq hall e;rw[c49 (by omega),a80 (y8 v2.holds) ho]at e;dsimp only at e;simp only[yah,yai,yaa]at e;cases e
  refine fin _ hI2 hL2 (v2.remove ho hoq) (fun p hp hs1 hpg=>?_) a4y (a83 _);have hp2:=yax.1 hp;have:=hall p hp2.1 hs1 hpg;have q:=hp2.2;rw[this]at q;simp at q
 cases hcg:(o6 c2 x.ID).2 with
 |true=>
  have hcm:=a5f hcg;rw[hcg]at e;have hw:b8 a2d (patron,due,true,0,c2,o4,x,(o6 c2 x.ID).1,())=some (due,true,c2,o4,(o6 c2 x.ID).1,()):=by
   refine o5 1 (by rw[j9];omega) ?_;simp only[o0,a2d];cases decide ((0:Int)<(c2.Holds.length:Int))<;>rfl
  rw[show b8 a2d (patron,due,true,0,c2,ZN,x,(o6 c2 x.ID).1,())=_ from hw]at e;dsimp only at e;simp only[yab]at e;exact cut _ hcm.1 (.inr hcm.2) (fun p hp hs1 hpg=>by rw[c0j v2.holds hcm.1 hp (by rw[hcm.2];omega) (hcm.2.trans hpg.symm)]) e
 |false=>
  have hno:=b24 hcg;rw[hcg]at e;have hw:=b5f (c:=c2) (v:=o4) (patron:=patron) (due:=due) (x:=x) hs2 c2.Holds.length 0 (o6 c2 x.ID).1 (by omega);have hw2:b8 a2d (patron,due,false,0,c2,o4,x,(o6 c2 x.ID).1,())=_:=o5 (c2.Holds.length+2) (by rw[j9];omega) hw;rw[ybz]at hw2;rw[show b8 a2d (patron,due,false,0,c2,ZN,x,(o6 c2 x.ID).1,())=_ from hw2]at e;dsimp only at e;unfold c7z at e;cases hf:c2.Holds.find? (b34 patron x) with
  |none=>
   rw[hf]at e;dsimp only at e;simp only[yaa]at e;have hcc:i6 c2 c2.Holds=c2:=rfl;have e:some (i6 c2 c2.Holds,due,(0:Int))=some (d,n,0):=e;rw[hcc]at e;cases e
   exact fin _ hI2 hL2 v2 (fun p hp _ hpg=>hno p hp hpg) (.refl _) (.refl _)
  |some o=>
   rw[hf]at e;dsimp only at e;simp only[yab]at e;have hoq:=ybh hf;unfold b34 at hoq;simp only[yad,yba]at hoq;exact cut _ (yaR hf) (.inl (by omega)) (fun p hp _ hpg=>absurd hpg (hno p hp)) e
structure Ret (c d:Circ) (i:Nat) (x:Item) (branch:Int):Prop where
 val:Val x.ID d
 mid:MidP d
 items:d.Items=c.Items.set i (y0 ⟨2,branch,0,0⟩ x)
 free:b6g d x.ID
 holds:d.Holds=c.Holds
 today:d.Today=c.Today
 stp:Stp c d
theorem c5v {c d:Circ} (I:Inv c) {i:Nat} {x:Item} (hx:c.Items[i]?=some x) {branch:Int} (e:qf3 c x.ID branch=some (d,0)):Ret c d i x branch:=by
 have v:=I.val;have m:=I.mid;have hlp:=(a7q.1 v.loans).1;unfold qf3 at e;rcases e1:qgo c x.ID 4 branch 0 with _|⟨c1,f⟩
 ·rw[e1]at e;cases e
 rw[e1]at e;dsimp only at e;have hz:=e7y e;clear e;obtain ⟨rfl,e⟩:=hz;obtain ⟨u,ha,hlen,hc1,m1⟩:=a08 m hx e1;have hu:u=⟨2,branch,0,0⟩:=(c6q ha).res;subst hu;have v1:=(v.weak x.ID).move hx rfl ha hlen;have st1:Stp c (t7 c i x ⟨c.Today,x.ID,4,branch,0⟩ ⟨2,branch,0,0⟩):=a0t;have hx1:=a24 hx ⟨c.Today,x.ID,4,branch,0⟩ ⟨2,branch,0,0⟩;rw[←hc1]at v1 st1 hx1;have hL:c1.Loans=c.Loans:=by rw[hc1];rfl
 have hH:c1.Holds=c.Holds:=by rw[hc1];rfl
 have hI:c1.Items=c.Items.set i (y0 ⟨2,branch,0,0⟩ x):=by rw[hc1];rfl
 have hT:c1.Today=c.Today:=by rw[hc1];rfl
 clear hc1;rw[d2s (by rw[hL];omega)]at e;rcases hb:a5b c1.Loans x.ID with ⟨l,n,f⟩;rw[hb]at e;dsimp only at e;have hz:=e7y e;clear e;obtain ⟨rfl,e⟩:=hz;obtain ⟨b1,b2,b3,b4⟩:=c9z v1.loans hb;have v2:=v1.setLoans b3 (fun z hz=>⟨v1.loanP z ((b4 z).1 hz).1,.inl ⟨z,((b4 z).1 hz).1,rfl,rfl⟩⟩) (fun z hz hne=>⟨z,(b4 z).2 ⟨hz,hne⟩,rfl⟩);have m2:=b35 m1 (l:=l) (by have:=(a7q.1 b3).1;omega);have hat:=a6g (c:=f7 c1 l) (x:=y0 ⟨2,branch,0,0⟩ x) m2 hx1;have hc2:{c1 with Loans:=l}=f7 c1 l:=rfl;simp -zeta only[hc2]at e;rw[show qs (f7 c1 l) x.ID=_ from hat]at e;simp -zeta only[b9,hx1]at e;have hpn:(a5d (f7 c1 l).Patrons n.Patron).2=true:=v1.loanP n b1;have hfr:b6g (f7 c1 l) x.ID:=fun z hz=>((b4 z).1 hz).2
 have hI2:(f7 c1 l).Items=c1.Items:=rfl;have hH2:(f7 c1 l).Holds=c1.Holds:=rfl;have hT2:(f7 c1 l).Today=c1.Today:=rfl;have st2:Stp c (f7 c1 l):=st1.trans a97;have rf:∀c3:Circ,Val x.ID c3→MidP c3→(∃ch nc,c3=a48 (f7 c1 l) ch nc)→(match qgk c3.Charges n.Patron x.ID 2 with
  |some (r21,r22)=>some ({c3 with Charges:=r21},(0:Int))
  |none=>none)=some (d,0)→Ret c d i x branch:=by
  intro c3 v3 m3 h3 e;obtain ⟨w,hw⟩:=f7w (p:=n.Patron) (item:=x.ID) (kind:=2) m3.chN;rw[hw]at e;cases e
  have hfl:=yaw (fun y=>!(b5t n.Patron x.ID 2 y)) c3.Charges;have hch:=m3.chN;have v4:=v3.setCharges (b6m v3.charges (fun y=>!(b5t n.Patron x.ID 2 y))) ⟨yb6 _,(a7r v3.nums).2.2.2⟩ (fun y hy=>b29 (v3.chG y (yax.1 hy).1));have m4:=c2l m3 (l:=c3.Charges.filter (fun y=>!(b5t n.Patron x.ID 2 y))) (by omega) c3.NextCharge;obtain ⟨ch,nc,rfl⟩:=h3;exact ⟨v4,m4,hI2.trans hI,hfr,hH2.trans hH,hT2.trans hT,st2.trans (d8j (l:=(a48 (f7 c1 l) ch nc).Charges.filter (fun y=>!(b5t n.Patron x.ID 2 y))) (n:=nc))⟩
 have core:∀fine:Int,(bif decide (0<fine) then (match qf7 (f7 c1 l) n.Patron x.ID 1 fine with
  |some (r17,r18)=>bif !(r18==0) then some (o4,r18) else (match qgk r17.Charges n.Patron x.ID 2 with
   |some (r21,r22)=>some ({r17 with Charges:=r21},(0:Int))
   |none=>none)
  |none=>none)
  else (match qgk (f7 c1 l).Charges n.Patron x.ID 2 with
   |some (r21,r22)=>some ((⟨(f7 c1 l).Today,(f7 c1 l).Items,(f7 c1 l).Patrons,(f7 c1 l).Loans,(f7 c1 l).Holds,r21,(f7 c1 l).Rules,(f7 c1 l).Cals,(f7 c1 l).Moves,(f7 c1 l).NextHold,(f7 c1 l).NextCharge,(f7 c1 l).Local⟩:Circ),(0:Int))
   |none=>none))=some (d,0)→Ret c d i x branch:=by
  intro fine e;cases hf:decide (0<fine) with
  |false=>
   rw[hf]at e;exact rf (f7 c1 l) v2 m2 ⟨(f7 c1 l).Charges,(f7 c1 l).NextCharge,rfl⟩ e
  |true=>
   rw[hf]at e;simp only[yab]at e;rcases e3:qf7 (f7 c1 l) n.Patron x.ID 1 fine with _|⟨c3,f⟩
   ·rw[e3]at e;cases e
   rw[e3]at e;dsimp only at e;have hz:=e7y e;clear e;obtain ⟨rfl,e⟩:=hz;obtain ⟨v3,m3,h3⟩:=b3a v2 m2 hpn e3;exact rf c3 v3 m3 h3 e
 cases hr:qg0 (f7 c1 l) n.Patron (y0 ⟨2,branch,0,0⟩ x) with
 |none=>rw[hr]at e;cases e
 |some rb=>
  obtain ⟨r,b⟩:=rb;rw[hr]at e;cases b with
  |false=>exact core 0 e
  |true=>
   dsimp only at e;simp only[yab]at e;cases hcal:qhm (f7 c1 l) branch with
   |none=>rw[hcal]at e;cases e
   |some cal=>
    rw[hcal]at e;dsimp only at e;cases hlate:qhh r cal n.Due c1.Today with
    |none=>rw[hlate]at e;cases e
    |some fine=>
     rw[hlate]at e;exact core fine e
theorem d2w {c c1 d:Circ} {n:Int} {i:Nat} {x x1:Item} (v1:Val x.ID c1) (m1:MidP c1) (hx:c1.Items[i]?=some x1) (hxi:x1.ID=x.ID) (hf:b6g c1 x.ID) (st:Stp c c1) (hi:a9g c→d63 x.ID c1)
 (hcase:b89 c1 x.ID∨∀o∈c1.Holds,o.State≠1→o.Got=x.ID→o.State=2∧x1.Record=o.Record∧o.Pickup=x1.Custody.Branch) (e:e4e x.ID 0 c1=some (d,n,0)):Res c d:=by
 rw[←hxi]at v1 hf hi hcase e;unfold e4e at e;simp only[yah,yai,yaa]at e;rw[b0b m1.short.holds]at e;dsimp only at e;have fin:∀{o:Option (Circ×Int)},(match o with
  |some (d,f)=>(bif !(f==0) then some (o4,0,f) else match qav d x1.ID with
   |some (r,_)=>some (d,r.ID,0)
   |none=>none)
  |none=>none)=some (d,n,0)→o=some (d,0):=by
  intro o e;cases o with
  |none=>cases e
  |some p=>
   obtain ⟨d2,f⟩:=p;dsimp only at e;have hz:=b6j e;clear e;obtain ⟨rfl,e⟩:=hz;cases hc:qav d2 x1.ID with
   |none=>rw[hc]at e;cases e
   |some q=>rw[hc]at e;cases e;rfl
 cases hc:(o6 c1 x1.ID).2 with
 |false=>
  rw[hc]at e;have e2:qg4 c1 x1.ID=some (d,0):=fin e;have hno:=b24 hc;have r:=b9i m1 hx e2;have f:=b9h v1.holds hx r;exact ⟨d7w v1 hx hf (fun o ho _=>hno o ho) r,st.trans f.stp,fun h=>d7v v1.items m1 hx f (hi h)⟩
 |true=>
  have hcm:=a5f hc;rw[hc]at e;have e2:qgn c1 x1.ID (o6 c1 x1.ID).1=some (d,0):=fin e;have r:=c5p m1 hx e2;have hx1:=a07 v1.items (yaf hx);have ho1:(o6 c1 x1.ID).1.State≠1:=fun q=>by
   have:=(a7n (a1q v1.holds hcm.1)).2.2.2.2.1 q;rw[hcm.2]at this;omega
  rcases hcase with hcase|hcase
  ·exact absurd hcm.2 (hcase _ hcm.1 ho1)
  ·obtain ⟨h2,hrec,hpk⟩:=hcase _ hcm.1 ho1 hcm.2;have v3:=e4b v1 hx hf hcm.1 hrec hpk (fun p hp _ hpg=>by rw[c0j v1.holds hcm.1 hp (by rw[hcm.2];omega) (hcm.2.trans hpg.symm)]) r;obtain ⟨u,l,un,ha,hlen,hcc,rfl⟩:=r;have hl:=b0m (c:=t7 c1 i x1 ⟨c1.Today,x1.ID,5,x1.Custody.Branch,(o6 c1 x1.ID).1.Patron⟩ u) v1.holds hcc;refine ⟨v3,st.trans (a0t.trans a4y),fun h y hy h3=>?_⟩;have hl2:c6j (i6 (t7 c1 i x1 ⟨c1.Today,x1.ID,5,x1.Custody.Branch,(o6 c1 x1.ID).1.Patron⟩ u) l) c1:=hl.trans ⟨rfl,fun o ho _=>ho⟩;have hy:y∈c1.Items.set i (y0 u x1):=hy;rcases (a41 v1.items hx).1 hy with ⟨hy,hne⟩|rfl
   ·exact (hi h y hy hne h3).less hl2 rfl rfl
   ·rw[show (y0 u x1).Custody=u from rfl,show u=⟨5,x1.Custody.Branch,(o6 c1 x1.ID).1.Patron,0⟩ from (c6q ha).res]at h3;exact absurd (show (5:Int)=3 from h3) (by decide)
theorem e8o {c d:Circ} {n:Int} (I:Inv c) {item branch:Int} (e:qha c item branch=some (d,n,0)):Res c d:=by
 have v:=I.val;have m:=I.mid;rcases y2 m item with ⟨-,h2,-⟩|⟨i,x,-,h2,hx,rfl,-⟩
 ·unfold qha at e;rw[h2]at e;cases e
 rw[f7z m.short h2 hx]at e;have hm0:=yaf hx;have hid:=a07 v.items hm0;have idl:∀c1:Circ,∀u,c1.Items=c.Items.set i (y0 u x)→c1.Holds=c.Holds→c1.Today=c.Today→a9g c→d63 x.ID c1:=by
  intro c1 u hI hH hT h y hy hne h3;rw[hI,a41 v.items hx]at hy;rcases hy with ⟨hy,_⟩|rfl
  ·exact (h y hy h3).less ⟨hT,fun o ho _=>by rw[hH]at ho;exact ho⟩ rfl rfl
  ·exact absurd rfl hne
 have mv:∀kind:Int,a2o x.Custody=false→(b89 c x.ID∨kind=7)→(kind=7→x.Custody.State=6)→d3g x.ID (qgo c x.ID kind branch 0)=some (d,n,0)→Res c d:=by
  intro kind hwp hc h6 e;unfold d3g at e;rcases e1:qgo c x.ID kind branch 0 with _|⟨c1,f⟩
  ·rw[e1]at e;cases e
  rw[e1]at e;dsimp only at e;by_cases hf:f=0
  ·subst hf;obtain ⟨u,ha,hlen,hc1,m1⟩:=a08 m hx e1;subst hc1;refine d2w (x:=x) ((v.weak x.ID).move hx rfl ha hlen) m1 (a24 hx _ u) rfl (v.lfree hm0 hwp) a0t (idl _ u rfl rfl rfl) ?_ e;by_cases hk:kind=7
   ·subst hk;right;intro o ho hs1 hg;obtain ⟨y,hy,hyi,hyr,hat⟩:=v.holdI o ho hs1;have:=y4 v.items hy hm0 (hyi.trans hg);subst this;have hat:=hat (by omega);have hs6:=h6 rfl;have h2:o.State=2:=by
     rcases (a7n (a1q v.holds ho)).2.2.2.1 with q|q|q
     ·exact absurd q hs1
     ·exact q
     ·have:=(hat.1 q).1;omega
    have hto:=(hat.2 h2).2.1;have hu:u=⟨2,branch,0,0⟩:=(c6q ha).res;have hfit:=(c6q ha).fits;unfold c46 at hfit;simp at hfit;refine ⟨h2,hyr,?_⟩;show o.Pickup=u.Branch
    rw[hu];show o.Pickup=branch
    omega
   ·left;rcases hc with hc|hc
    ·exact hc
    ·exact absurd hc hk
  ·exfalso;unfold e4e at e;rw[show (f==0)=false by simpa using hf]at e;cases e
   exact hf rfl
 cases hp:a2o x.Custody with
 |true=>
  rw[hp]at e;simp only[yab]at e;cases hb:(decide (branch<1)||decide (4<branch)) with
  |true=>rw[hb]at e;cases e
  |false=>
   rw[hb]at e;simp only[yaa]at e;unfold d3g at e;rcases e1:qf3 c x.ID branch with _|⟨c1,f⟩
   ·rw[e1]at e;cases e
   rw[e1]at e;dsimp only at e;by_cases hf:f=0
   ·subst hf;have R:=c5v I hx e1;have hst:x.Custody.State=4∨x.Custody.State=9∨x.Custody.State=10:=by
     rw[a1a]at hp;simpa[or_assoc]using hp
    have hfr:=v.hfree hm0 (by omega) (by omega);have hlt:=(zL hx)
    exact d2w (x:=x) R.val R.mid (i:=i) (x1:=y0 ⟨2,branch,0,0⟩ x) (by rw[R.items,ybs hlt]) rfl R.free R.stp (idl _ _ R.items R.holds R.today) (.inl (fun o ho=>hfr o (by rw[←R.holds];exact ho))) e
   ·exfalso;unfold e4e at e;rw[show (f==0)=false by simpa using hf]at e;cases e
    exact hf rfl
 |false=>
  rw[hp]at e;simp only[yaa]at e;cases h8:x.Custody.State==8 with
  |true=>
   rw[h8]at e;have h8:x.Custody.State=8:=by simpa using h8
   exact mv 4 hp (.inl (v.hfree hm0 (by omega) (by omega))) (fun q=>absurd q (by decide)) e
  |false=>
   rw[h8]at e;simp only[yaa]at e;cases h11:x.Custody.State==11 with
   |true=>
    rw[h11]at e;have h11:x.Custody.State=11:=by simpa using h11
    exact mv 14 hp (.inl (v.hfree hm0 (by omega) (by omega))) (fun q=>absurd q (by decide)) e
   |false=>
    rw[h11]at e;simp only[yaa]at e;cases h6:x.Custody.State==6 with
    |true=>
     rw[h6]at e;exact mv 7 hp (.inr rfl) (fun _=>by simpa using h6) e
    |false=>
     rw[h6]at e;cases e
end
section
structure DayI (last:Int) (c0 c:Circ):Prop where
 inv:Inv c
 stp:Stp c0 c
 done:∀y∈c.Items,y.Custody.State=3→y.Record≤last→a9h c y
theorem g4b {c d v:Circ} (I:Inv c) {f:Int} (e:b8 a2p (0,c,v,())=some (f,d,())) (hf:f=0):Inv d∧Stp c d∧a9g d:=by
 have rec1:∀c:Circ,Inv c→∀x∈c.Items,1≤x.Record:=fun c I x hx=>(a07 I.val.items hx).2.2.1
 obtain ⟨b,D,hb⟩:=a8l (fun s:Int×Circ×Circ×Unit=>DayI s.1 c s.2.1) (by
  rintro ⟨last,c1,v1,_⟩ ⟨last2,c2,v2,_⟩ D hs;dsimp only at D;obtain ⟨q1,q2,q3⟩:=a8f last c1.Items 0 (rec1 c1 D.inv);simp only[a2p,a4t D.inv.short.items]at hs;by_cases hr:a5t last c1.Items 0=0
  ·rw[show (a5t last c1.Items 0==0)=true by simpa using hr]at hs;cases hs
  ·rw[show (a5t last c1.Items 0==0)=false by simpa using hr]at hs;simp only[yaa]at hs;rcases e1:qg2 c1 (a5t last c1.Items 0) with _|⟨c3,g⟩
   ·rw[e1]at hs;cases hs
   rw[e1]at hs;dsimp only at hs;by_cases hg:g=0
   ·subst hg;simp only[yah,yai,yaa]at hs;cases hs
    have L:=c0q D.inv.mid D.inv.val e1;refine ⟨D.inv.of L.val L.stp,D.stp.trans L.stp,fun y hy h3 hle=>?_⟩;by_cases hyr:y.Record=a5t last c1.Items 0
    ·obtain ⟨j,hj,hjy⟩:=e02 hy;exact L.done j y hj hjy hyr h3
    ·have hy1:=L.rest y hy hyr;refine (D.done y hy1 h3 ?_).less L.less rfl rfl;by_cases hlt:last<y.Record
     ·have:=(q2 y hy1 h3 hlt).2;have hle:y.Record≤a5t last c1.Items 0:=hle;omega
     ·omega
   ·rw[show (g==0)=false by simpa using hg]at hs;cases hs) (a:=(0,c,v,())) ⟨I,.refl _,fun y hy h3 hle=>by have:=rec1 c I y hy;dsimp only at hle;omega⟩ e
 obtain ⟨last,c1,v1,_⟩:=b;dsimp only at D;obtain ⟨q1,q2,q3⟩:=a8f last c1.Items 0 (rec1 c1 D.inv);simp only[a2p,a4t D.inv.short.items]at hb;by_cases hr:a5t last c1.Items 0=0
 ·rw[show (a5t last c1.Items 0==0)=true by simpa using hr]at hb;cases hb
  refine ⟨D.inv,D.stp,fun y hy h3=>D.done y hy h3 ?_⟩;by_cases hlt:last<y.Record
  ·exact absurd hr (q2 y hy h3 hlt).1
  ·omega
 ·rw[show (a5t last c1.Items 0==0)=false by simpa using hr]at hb;simp only[yaa]at hb;rcases e1:qg2 c1 (a5t last c1.Items 0) with _|⟨c3,g⟩
  ·rw[e1]at hb;cases hb
  rw[e1]at hb;dsimp only at hb;by_cases hg:g=0
  ·rw[show (g==0)=true by simpa using hg]at hb;cases hb
  ·rw[show (g==0)=false by simpa using hg]at hb;cases hb
   exact absurd hf hg
theorem f5n {c v:Circ} {ids:List Int} {r:(Circ×Circ×Unit)⊕(Int×Circ×Unit)} (I:Inv c) (e:b8 a44 (ids,0,c,v,())=some r):(∀d w,r=.inl (d,w,())→Inv d∧Stp c d)∧∀g w,r=.inr (g,w,())→g≠0:=by
 obtain ⟨b,D,hb⟩:=a8l (fun s:List Int×Int×Circ×Circ×Unit=>Inv s.2.2.1∧Stp c s.2.2.1) (by
  rintro ⟨l,i,c1,v1,_⟩ ⟨l2,i2,c2,v2,_⟩ ⟨D1,D2⟩ hs;dsimp only at D1 D2;simp only[a44]at hs;cases hlt:decide (i<(l.length:Int)) with
  |false=>rw[hlt]at hs;cases hs
  |true=>
   rw[hlt]at hs;simp only[yab]at hs;cases hx:m7 l i with
   |none=>rw[hx]at hs;cases hs
   |some x=>
    rw[hx]at hs;dsimp only at hs;rcases e1:qgp c1 x with _|⟨c3,g⟩
    ·rw[e1]at hs;cases hs
    rw[e1]at hs;dsimp only at hs;by_cases hg:g=0
    ·subst hg;simp only[yah,yai,yaa]at hs;cases hs
     have R:=c28 D1 e1;exact ⟨D1.of R.val R.stp,D2.trans R.stp⟩
    ·rw[show (g==0)=false by simpa using hg]at hs;cases hs) (a:=(ids,0,c,v,())) ⟨I,.refl _⟩ e
 obtain ⟨l,i,c1,v1,_⟩:=b;dsimp only at D;simp only[a44]at hb;cases hlt:decide (i<(l.length:Int)) with
 |false=>
  rw[hlt]at hb;cases hb
  exact ⟨fun d w q=>(by cases q;exact D),fun g w q=>(by cases q)⟩
 |true=>
  rw[hlt]at hb;simp only[yab]at hb;cases hx:m7 l i with
  |none=>rw[hx]at hb;cases hb
  |some x=>
   rw[hx]at hb;dsimp only at hb;rcases e1:qgp c1 x with _|⟨c3,g⟩
   ·rw[e1]at hb;cases hb
   rw[e1]at hb;dsimp only at hb;by_cases hg:g=0
   ·rw[show (g==0)=true by simpa using hg]at hb;cases hb
   ·rw[show (g==0)=false by simpa using hg]at hb;cases hb
    exact ⟨fun d w q=>(by cases q),fun g w q=>(by cases q;exact hg)⟩
theorem c6a {c:Circ} {n:Int}:Stp c (a1b c n):=⟨rfl,rfl,rfl,[],by simp[a1b]⟩
theorem g4c {c d:Circ} (I:Inv c) (e:qho c=some (d,0)):Res c d:=by
 have hn:=a7r I.val.nums;unfold qho at e;cases ht:decide (109572≤c.Today) with
 |true=>rw[ht]at e;cases e
 |false=>
  have ht2:¬109572≤c.Today:=by simpa using ht
  rw[ht]at e;simp only[yaa,d2p,f7c I.short.holds]at e;rw[a0l (show -9223372036854775808≤c.Today+1 by omega) (by omega)]at e;have v1:=I.val.setToday (t:=c.Today+1) ⟨by omega,by omega⟩;have I1:=I.of v1 c6a;generalize (c.Holds.filter (e0m (c.Today+1))).map (fun o=>o.ID)=ids at e;change (match b8 a44 (ids,0,a1b c (c.Today+1),o4,()) with
   |some (.inl (c4,v,_))=>(match b8 a2p (0,c4,v,()) with
    |some ((v15,v16,_))=>some (v16,v15)
    |none=>none)
   |some (.inr (v17,v18,_))=>some (v18,v17)
   |none=>none)=some (d,0) at e
  have s1:Stp c (a1b c (c.Today+1)):=c6a;generalize a1b c (c.Today+1)=c1 at e v1 I1 s1;rcases e1:b8 a44 (ids,0,c1,o4,()) with _|(⟨c4,v4,_⟩|⟨g,v5,_⟩)
  ·rw[e1]at e;cases e
  ·rw[e1]at e;dsimp only at e;obtain ⟨I4,s4⟩:=(f5n I1 e1).1 _ _ rfl;rcases e2:b8 a2p (0,c4,v4,()) with _|⟨f5,c5,_⟩
   ·rw[e2]at e;cases e
   rw[e2]at e;cases e
   obtain ⟨I5,s5,h5⟩:=g4b I4 e2 rfl;exact ⟨I5.val,s1.trans (s4.trans s5),fun _=>h5⟩
  ·rw[e1]at e;cases e
   exact absurd rfl ((f5n I1 e1).2 _ _ rfl)
theorem g4g {x:Librarylaw33_Deed} {c:Circ} (I:Inv c):∃d e,qeb x c=some (d,e)∧(e=0→Res c d∨d=c):=by
 have m:=I.mid;have f:=I.fit;have hlp:=(a7q.1 I.val.loans).1;have hhp:=(a9y.1 I.val.holds).1;have hil:=(a93 I.val.items).1;have a2:∀{a b:Option (Circ×Int)},a8q a b→(∀d,b=some (d,0)→Res c d)→∃d e,a=some (d,e)∧(e=0→Res c d∨d=c):=by
  rintro a b ⟨d,e,h1,h2,-⟩ h;exact ⟨d,e,h1,fun q=>.inl (h d (by rw[h2,q]))⟩
 have a3:∀{a b:Option (Circ×Int×Int)},a5z a b→(∀d n,b=some (d,n,0)→Res c d)→∃d n e,a=some (d,n,e)∧(e=0→Res c d∨d=c):=by
  rintro a b ⟨d,n,e,h1,h2,-⟩ h;exact ⟨d,n,e,h1,fun q=>.inl (h d n (by rw[h2,q]))⟩
 unfold qeb;dsimp only;cases x.Kind==0 with
 |true=>
  obtain ⟨d,e,h1,h2⟩:=a2 (c08 m (item:=x.A) (branch:=x.B)) (fun d q=>c8s I.val m q);rw[h1];exact ⟨d,e,rfl,h2⟩
 |false=>
 cases x.Kind==1 with
 |true=>
  obtain ⟨d,n,e,h1,h2⟩:=a3 (d4v I.w f (item:=x.A) (patron:=x.B) (branch:=x.C)) (fun d n q=>f01 I q);rw[h1];exact ⟨d,e,rfl,h2⟩
 |false=>
 cases x.Kind==2 with
 |true=>
  obtain ⟨d,n,e,h1,h2⟩:=a3 (d3e m f (by omega) (item:=x.A) (branch:=x.B)) (fun d n q=>e8o I q);rw[h1];exact ⟨d,e,rfl,h2⟩
 |false=>
 cases x.Kind==3 with
 |true=>
  obtain ⟨d,n,e,h1,h2⟩:=a3 (c8u m.short f (item:=x.A)) (fun d n q=>e4h I.val m q);rw[h1];exact ⟨d,e,rfl,h2⟩
 |false=>
 cases x.Kind==4 with
 |true=>
  obtain ⟨d,n,e,h1,h2⟩:=a3 (d4m m f (by omega) (fun r=>by have:=c9c I.val r;have:=I.pats;omega) (vid:=x.A) (record:=x.B) (item:=x.C) (pickup:=x.D)) (fun d n q=>f0v I q);rw[h1];exact ⟨d,e,rfl,h2⟩
 |false=>
 cases x.Kind==5 with
 |true=>
  obtain ⟨d,e,h1,h2⟩:=a2 (c2c m f (id:=x.A)) (fun d q=>d3x I q);rw[h1];exact ⟨d,e,rfl,h2⟩
 |false=>
 cases x.Kind==6 with
 |true=>
  obtain ⟨d,n,e,h1,h2⟩:=a3 (c5r m.short f (id:=x.A)) (fun d n q=>d6g I.val m f q);rw[h1];exact ⟨d,e,rfl,h2⟩
 |false=>
 cases x.Kind==7 with
 |true=>
  obtain ⟨d,e,h1,h2⟩:=a2 (c6y m (item:=x.A)) (fun d q=>d8l I.val m q);rw[h1];exact ⟨d,e,rfl,h2⟩
 |false=>
 cases x.Kind==8 with
 |true=>
  obtain ⟨d,e,h1,h2⟩:=a2 (d5b m (item:=x.A)) (fun d q=>f2r I.val m q);rw[h1];exact ⟨d,e,rfl,h2⟩
 |false=>
 cases x.Kind==9 with
 |true=>
  obtain ⟨d,e,h1,h2⟩:=a2 (b66 m (by omega) (item:=x.A) (fun n hn=>by obtain ⟨x,p,hx,-⟩:=a4l f hn;rw[hx];rfl)) (fun d q=>c6f I.val m q);rw[h1];exact ⟨d,e,rfl,h2⟩
 |false=>
 cases x.Kind==10 with
 |true=>
  obtain ⟨d,e,h1,h2⟩:=a2 (d4w m (item:=x.A) (partner:=x.B)) (fun d q=>e2c I.val m q);rw[h1];exact ⟨d,e,rfl,h2⟩
 |false=>
 cases x.Kind==11 with
 |true=>
  obtain ⟨d,e,h1,h2⟩:=a2 (a9m m (item:=x.A) (b:=true)) (fun d q=>b2x I.val m q);rw[h1];exact ⟨d,e,rfl,h2⟩
 |false=>
 cases x.Kind==12 with
 |true=>
  obtain ⟨d,e,h1,h2⟩:=a2 (a9m m (item:=x.A) (b:=false)) (fun d q=>b2x I.val m q);rw[h1];exact ⟨d,e,rfl,h2⟩
 |false=>
 cases x.Kind==13 with
 |true=>
  obtain ⟨d,n,e,h1,h2⟩:=a3 (e24 m.short f (p:=x.A) (amount:=x.B)) (fun d n q=>g6e I.val m q);rw[h1];exact ⟨d,e,rfl,h2⟩
 |false=>
 cases x.Kind==14 with
 |true=>
  obtain ⟨d,e,h1,h2⟩:=a2 (e0j m f (by omega) (by omega) (fun x hx=>c7w f hx)) (fun d q=>g4c I q);rw[h1];exact ⟨d,e,rfl,h2⟩
 |false=>exact ⟨c,21,rfl,fun q=>absurd q (by decide)⟩
theorem f5p {x:Librarylaw33_Deed} {c:Circ} (I:Inv c):∃d e,qeb x c=some (d,e)∧(e=0→Inv d∧Stp c d∧(a9g c→a9g d)):=by
 obtain ⟨d,e,h1,h2⟩:=g4g (x:=x) I;refine ⟨d,e,h1,fun q=>?_⟩;rcases h2 q with R|rfl
 ·exact ⟨I.of R.val R.stp,R.stp,R.idle⟩
 ·exact ⟨I,.refl _,fun h=>h⟩
theorem e7g {c:Circ} (hm:SmallP c) (hr:a68 c=true):Inv c:=⟨h6o hr,hm.short,hm.patrons⟩
end
section
def c01 (x:Librarylaw33_Deed) (c:Circ):Circ:=match qeb x c with|some (d,e)=>bif e==0 then d else c|none=>c
theorem c02 {x:Librarylaw33_Deed} {c:Circ} (I:Inv c):Inv (c01 x c)∧Stp c (c01 x c)∧(a9g c→a9g (c01 x c)):=by
 obtain ⟨d,e,h1,h2⟩:=f5p (x:=x) I;unfold c01;rw[h1];dsimp only;by_cases he:e=0
 ·rw[show (e==0)=true by simpa using he];exact h2 he
 ·rw[show (e==0)=false by simpa using he];exact ⟨I,.refl _,fun h=>h⟩
theorem e0s {R:Circ→Prop} {β:Type} (g:Circ→β) (hR:∀x c,Inv c→R c→R (c01 x c)):∀(l:List Librarylaw33_Deed) (i:Nat) (c:Circ),Inv c→R c→∃d,a2e (fun (_:Nat) x s=>.inl (c01 x s)) g i l c=g d∧Inv d∧R d:=by
 intro l
 induction l with
 |nil=>intro i c I r;exact ⟨c,rfl,I,r⟩
 |cons x l ih=>intro i c I r;exact ih (i+1) (c01 x c) (c02 I).1 (hR x c I r)
end
section
def pz (c:Circ) (x:Item):Bool:=!(x.Custody.State==3)||(match qax c.Holds x x.Custody.Branch c.Today c.Local with|some v=>v==0|none=>false)
theorem e01 {c:Circ} (m:MidP c):∃b,qbj c=some b∧(b=true↔a9g c):=by
 have hw:=u6 (step:=b8o) (fun i=>((i:Int),c,())) c.Items (fun _ x=>pz c x) (.inr (false,())) (.inl ()) m.short.items
  (by simp only[b8o,dge,yaa])
  (fun i x hx=>by
   have hi:=(zL hx)
   have hl:=m.short.items;obtain ⟨v,hv,-⟩:=a99 m x x.Custody.Branch;simp -zeta only[b8o,dlt hi,b9,hx,yab,hv,g9 (show i<9223372036854775807 by omega)];unfold pz;rw[hv];dsimp only;cases x.Custody.State==3<;>cases v==0<;>rfl)
 refine ⟨c.Items.all (pz c),?_,?_⟩
 ·unfold qbj;rw[show b8 b8o (0,c,())=_ from hw,a0m];cases c.Items.all (fun x=>pz c x)<;>rfl
 ·rw[yam];constructor
  ·intro h y hy h3;have:=h y hy;unfold pz at this;obtain ⟨v,hv,hz⟩:=a99 m y y.Custody.Branch;rw[hv,show (y.Custody.State==3)=true by simpa using h3]at this;exact hz.1 (by simpa using this)
  ·intro h y hy;unfold pz;obtain ⟨v,hv,hz⟩:=a99 m y y.Custody.Branch;rw[hv];by_cases h3:y.Custody.State=3
   ·have:=hz.2 (h y hy h3);subst this;simp
   ·simp[h3]
theorem e7c {c:Circ} (I:Inv c) (hi:a9g c) {l:List Librarylaw33_Deed} (hl:l.length<1000):b8 b4x (l,0,c,())=some (.inl ()):=by
 have hw:=o8 (step:=b4x) (fun _ s=>Inv s∧a9g s) (fun i s=>(l,(i:Int),s,())) l (fun _ x s=>.inl (c01 x s)) (fun _=>.inl ()) (by rw[j9];omega)
  (fun s _=>by simp only[b4x,dge,yaa])
  (fun i x s hx hs=>by
   have hi:=(zL hx)
   refine ⟨?_,fun s' hs'=>by cases hs';exact ⟨(c02 hs.1).1,(c02 hs.1).2.2 hs.2⟩⟩;obtain ⟨d,e,h1,h2⟩:=f5p (x:=x) hs.1;simp -zeta only[b4x,dlt hi,b9,hx,yab,h1,g9 (show i<9223372036854775807 by omega)];unfold c01;rw[h1];dsimp only;by_cases he:e=0
   ·subst he;obtain ⟨Id,-,hid⟩:=h2 rfl;obtain ⟨b,hb,hbi⟩:=e01 Id.mid;have:b=true:=hbi.2 (hid hs.2);subst this;simp only[yah,yai,yaa,yab,hb]
   ·rw[show (e==0)=false by simpa using he];rfl) c ⟨I,hi⟩
 obtain ⟨d,h1,-⟩:=e0s (R:=fun _=>True) (β:=Unit⊕(Bool×Unit)) (fun _=>.inl ()) (fun _ _ _ _=>trivial) l 0 c I trivial;rw[show b8 b4x (l,0,c,())=_ from hw,h1]
theorem b4w (c:Circ) (l:List Librarylaw33_Deed):qa0 c l=some true:=by
 unfold qa0;simp only[h5a,e8i];cases hb:b55 c&&a68 c with
 |false=>rfl
 |true=>
  simp only[yad]at hb;have I:=e7g (f9d hb.1) hb.2;cases hl:decide (12<(l.length:Int)) with
  |true=>rfl
  |false=>
   have hl2:l.length<1000:=by
    simp only[yag]at hl;omega
   obtain ⟨b,hi,hbi⟩:=e01 I.mid;simp only[yai,yaa,hi];cases b with
   |false=>rfl
   |true=>simp only[yai,yaa,e7c I (hbi.1 rfl) hl2]
end
end Go.Proofs.YtdahfgialanmpabGreatDoor
