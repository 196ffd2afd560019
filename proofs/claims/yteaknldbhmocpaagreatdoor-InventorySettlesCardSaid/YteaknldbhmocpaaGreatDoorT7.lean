/- InventorySettles: a part of the proof of the given statement, which is proved without conditions. -/
import Derived.Test.YteaknldbhmocpaaGreatDoorT6
set_option linter.all false
namespace Go.Proofs.YteaknldbhmocpaaGreatDoor
open Ev
section
open Go (IntKind)
theorem f5e {f:Int} {X:Option (Circ×Int)} {d:Circ} (e:(bif !(f==0) then some (o5,f) else X)=some (d,0)):f=0∧X=some (d,0):=by
 by_cases hf:f=0
 ·subst hf;exact ⟨rfl,e⟩
 ·rw[show (f==0)=false by simpa using hf]at e;cases e
  exact absurd rfl hf
theorem h2t {f:Int} {X:Option (Circ×Int×Int)} {d:Circ} {n:Int} (e:(bif !(f==0) then some (o5,0,f) else X)=some (d,n,0)):f=0∧X=some (d,n,0):=by
 by_cases hf:f=0
 ·subst hf;exact ⟨rfl,e⟩
 ·rw[show (f==0)=false by simpa using hf]at e;cases e
  exact absurd rfl hf
theorem f5g {o:Option (Circ×Int)} {d:Circ} (e:(match o with|some (r,f)=>some (r,f)|none=>none)=some (d,0)):o=some (d,0):=by
 cases o with
 |none=>cases e
 |some p=>obtain ⟨r,f⟩:=p;exact e
structure Res (c d:Circ):Prop where
 val:Val 0 d
 stp:Stp c d
 idle:d0l c→d0l d
theorem g9p {c c1 d:Circ} {i:Nat} {x:Item} {kind branch who:Int} (v:Val 0 c) (m:MidP c) (hx:c.Items[i]?=some x) (hl:b80 c x.ID) (hf:c3l c x.ID)
 (e1:qp c x.ID kind branch who=some (c1,0)) (e2:qcv c1 x.ID=some (d,0)):Res c d:=by
 obtain ⟨a,b,-,e⟩:=ma (v.weak x.ID) m hx hl hf e1 e2;exact ⟨a,b,fun h=>e (h.x _)⟩
theorem b2f {c d:Circ} (h:MidP c) {i:Nat} {x:Item} (hx:c.Items[i]?=some x) {kind branch who:Int} (e:qp c x.ID kind branch who=some (d,0)):x.Custody.State∈c5g kind:=by
 obtain ⟨u,ha,-⟩:=a1r h hx e;exact e3v (c3s ha).allow
theorem b8c {x:Item} (h:x.Custody.State≠4) (h2:x.Custody.State≠9) (h3:x.Custody.State≠10):a2h x.Custody=false:=by
 rw[a0s];simp[h,h2,h3]
theorem c54 {c d:Circ} (v:Val 0 c) (m:MidP c) {item branch:Int} (e:qeq c item branch=some (d,0)):Res c d:=by
 unfold qeq at e;rcases a25 m item with ⟨-,h2,-⟩|⟨i,x,-,h2,hx,rfl,-⟩
 ·rw[h2]at e;cases e
 ·rw[h2]at e;simp only[a52,yaa]at e;rcases e1:qp c x.ID 1 branch 0 with _|⟨c1,f⟩
  ·rw[e1]at e;cases e
  rw[e1]at e;have hz:=f5e e;clear e;obtain ⟨rfl,e2⟩:=hz;have e2:=f5g e2;have hs:x.Custody.State∈([1]:List Int):=b2f m hx e1;have hs:x.Custody.State=1:=by simpa using hs
  have hm:=yaf hx;exact g9p v m hx (v.lfree hm (b8c (by omega) (by omega) (by omega))) (v.hfree hm (by omega) (by omega)) e1 e2
end
section
open Go (IntKind)
theorem a9d {u:Custody} (h:u.State=4∨u.State=9∨u.State=10):a2h u=true:=by
 rw[a0s];rcases h with h|h|h<;>simp[h]
theorem e6d {c d:Circ} {i:Nat} {x:Item} {kind branch who:Int} (v:Val 0 c) (m:MidP c) (hx:c.Items[i]?=some x) (hs:x.Custody.State=4∨x.Custody.State=9)
 (e:qp c x.ID kind branch who=some (d,0)) (hk:kind=11∨kind=12):Res c d:=by
 obtain ⟨u,ha,hlen,rfl,m1⟩:=a1r m hx e;have hu:(u.State=9∨u.State=10)∧u.Who=x.Custody.Who:=by
  rw[(c3s ha).res];rcases hk with rfl|rfl
  ·exact ⟨.inl rfl,rfl⟩
  ·exact ⟨.inr rfl,rfl⟩
 have hm0:=yaf hx;have hid:=a1p v.items hm0;have hm:w8 u x∈(p8 c i x ⟨c.Today,x.ID,kind,branch,who⟩ u).Items:=(a3f v.items hx).2 (.inr rfl);have hf:=v.hfree hm0 (by omega) (by omega);have hp:a2h (w8 u x).Custody=true:=a9d (u:=u) (by omega);refine ⟨((v.weak x.ID).move hx rfl ha hlen).close hm rfl (fun n hn e=>⟨hp,?_⟩) (fun _=>?_) (fun h hh hs1 hg=>absurd hg (hf h hh hs1)) (fun h=>?_),a1q,fun h y hy h3=>?_⟩
 ·obtain ⟨y,hy,hi,hw⟩:=v.loanI n hn;have:=u3 v.items hy hm0 (hi.trans e);subst this;exact hu.2.trans (hw (by omega)).2
 ·exact v.itemL x hm0 (by omega) (a9d (by omega))
 ·rw[show (w8 u x).Custody=u from rfl]at h;omega
 ·rcases (a3f v.items hx).1 hy with ⟨hy,_⟩|rfl
  ·exact h y hy h3
  ·rw[show (w8 u x).Custody=u from rfl]at h3;omega
theorem Res.trans {a b c:Circ} (h:Res a b) (k:Res b c):Res a c:=⟨k.val,h.stp.trans k.stp,fun q=>k.idle (h.idle q)⟩
theorem b06 {c d:Circ} {it:Int} (v:Val it c) (m:MidP c) {p item kind amount:Int} (hp:(a84 c.Patrons p).2=true) (e:qdy c p item kind amount=some (d,0)):Val it d∧MidP d∧∃ch nc,d=a4f c ch nc:=by
 obtain ⟨hd,he,hn⟩:=(a8z m p item kind amount).b e;have hv:=c5b v.nums;rw[a0x (by omega) (by omega)]at hd;subst hd;refine ⟨v.setCharges he ⟨by omega,by omega⟩ (fun x hx=>?_),b9x m (a7m he) _,_,_,rfl⟩;rcases yau.1 hx with hx|hx
 ·have:=b9y (v.chG x hx);exact ⟨this.1,by omega⟩
 ·have:x=⟨c.NextCharge,p,item,c.Today,kind,amount,0⟩:=by simpa using hx
  subst this;exact ⟨hp,by show c.NextCharge<c.NextCharge+1;omega⟩
theorem c34 {c d:Circ} (v:Val 0 c) (m:MidP c) {p item kind amount:Int} (hp:(a84 c.Patrons p).2=true) (e:qdy c p item kind amount=some (d,0)):Res c d:=by
 obtain ⟨h,-,ch,nc,rfl⟩:=b06 v m hp e;exact ⟨h,f1j,fun k=>k⟩
theorem d7i {l:List Hold} (h:a0c l=0) {o p:Hold} (ho:o∈l) (hp:p∈l) (hg:0<o.Got) (e:o.Got=p.Got):o=p:=by
 obtain ⟨i,hi⟩:=yaI ho;obtain ⟨j,hj⟩:=yaI hp;have h4:=(b43.1 h).2.2;rw[ya1]at h4;obtain ⟨hil,rfl⟩:=yaE.1 hi;obtain ⟨hjl,rfl⟩:=yaE.1 hj;rcases Nat.lt_trichotomy i j with q|q|q
 ·have:=h4 i j hil hjl q;unfold a00 at this;simp only[yal,ybc,yag,yaZ,ne_eq]at this;rcases this.2 with w|w
  ·omega
  ·exact absurd e.symm w
 ·subst q;rfl
 ·have:=h4 j i hjl hil q;unfold a00 at this;simp only[yal,ybc,yag,yaZ,ne_eq]at this;rcases this.2 with w|w
  ·omega
  ·exact absurd e w
theorem e5s {l m:List Hold} (hs:∀i x,l[i]?=some x→t8 l i (fun y=>decide (x.ID≤y.ID))=false) {item:Int} (h:a93 l item=(m,0)):∃o∈l,o.Got=item∧m=b4l l o.ID (b8w o 0 1 0):=by
 unfold a93 at h;rcases o8 (fun x:Hold=>x.Got==item) l with ⟨h1,h2⟩|⟨i,x,h1,h2,h3,h4⟩
 ·rw[h2]at h;cases h
 ·rw[h4,h1]at h;simp only[yaK]at h;cases h0:item==0 with
  |true=>rw[h0]at h;cases h
  |false=>
   rw[h0]at h;simp only[yaa,ya3,and_true]at h;subst h;exact ⟨x,yaf h2,by simpa using h3,(a63 hs h2 (y:=b8w x 0 1 0) rfl).symm⟩
theorem d1f {o:Hold} (h:o3 o=0):o3 (b8w o 0 1 0)=0:=by
 rw[e2n]at h ⊢;obtain ⟨⟨a1,a2,a3,a4,a5,a6,a7,a8,a9,a10⟩,b,c,d⟩:=h;have z:¬(0:Int)<0:=by decide
 exact ⟨⟨a1,a2,a3,a4,a5,a6,.inl rfl,⟨Int.le_refl 0,(show (0:Int)≤109572 by decide)⟩,a9,a10⟩,⟨Int.le_refl 1,(show (1:Int)≤3 by decide)⟩,⟨fun q=>absurd (show (0:Int)<0 from q) z,fun q=>absurd rfl q⟩,⟨fun q=>absurd (show (0:Int)<0 from q) z,fun q=>absurd (show (1:Int)=3 from q) (by decide)⟩⟩
theorem g9c {c:Circ} {y:Item} (hy:y∈c.Items):∃j,j<c.Items.length∧c.Items[j]?=some y:=by
 obtain ⟨j,hj⟩:=yaI hy;exact ⟨j,(zL hj),hj⟩
theorem e8g {c d:Circ} (v:Val 0 c) (m:MidP c) {item:Int} (e:qdn c item=some (d,0)):Res c d:=by
 unfold qdn at e;rcases a25 m item with ⟨-,h2,-⟩|⟨i,x,-,h2,hx,rfl,-⟩
 ·rw[h2]at e;cases e
 rw[h2]at e;simp -zeta only[a52,yaa,d8,hx,a06]at e;dsimp only at e;have hm0:=yaf hx;have hid:=a1p v.items hm0;cases hs:x.Custody.State==4||x.Custody.State==9 with
 |true=>
  rw[hs]at e;simp only[yac]at e;have hs2:x.Custody.State=4∨x.Custody.State=9:=by simpa using hs
  rcases e1:qp c x.ID 12 x.Custody.Branch 0 with _|⟨c1,f⟩
  ·rw[e1]at e;cases e
  rw[e1]at e;dsimp only at e;have hz:=f5e e;clear e;obtain ⟨rfl,e⟩:=hz;have r1:=e6d v m hx hs2 e1 (.inr rfl);obtain ⟨u,ha,hlen,hc1,m1⟩:=a1r m hx e1;cases hp:x.Price==0 with
  |true=>
   rw[hp]at e;cases e
   exact r1
  |false=>
   rw[hp]at e;have e:=f5g e;obtain ⟨n,hn,hni⟩:=v.itemL x hm0 (by omega) (a9d (by omega));have hw:x.Custody.Who=n.Patron:=by
    obtain ⟨y,hy,hi,hw⟩:=v.loanI n hn;have:=u3 v.items hy hm0 (hi.trans hni);subst this;exact (hw (by omega)).2
   have hpk:(a84 c1.Patrons x.Custody.Who).2=true:=by
    rw[hw,hc1];exact v.loanP n hn
   exact r1.trans (c34 r1.val m1 hpk e)
 |false=>
  rw[hs]at e;simp only[yaa]at e;have hs2:¬(x.Custody.State=4∨x.Custody.State=9):=by simpa using hs
  rcases e1:qp c x.ID 13 x.Custody.Branch 0 with _|⟨c1,f⟩
  ·rw[e1]at e;cases e
  rw[e1]at e;dsimp only at e;have hz:=f5e e;clear e;obtain ⟨rfl,e⟩:=hz;have hst:x.Custody.State∈([2,3,5,6,7]:List Int):=b2f m hx e1;have hst:x.Custody.State=2∨x.Custody.State=3∨x.Custody.State=5∨x.Custody.State=6∨x.Custody.State=7:=by simpa using hst
  obtain ⟨u,ha,hlen,rfl,m1⟩:=a1r m hx e1;have hu:u.State=11:=by rw[(c3s ha).res];rfl
  have v1:=(v.weak x.ID).move hx rfl ha hlen;have hlf:=v.lfree hm0 (b8c (by omega) (by omega) (by omega));have hm:w8 u x∈(p8 c i x ⟨c.Today,x.ID,13,x.Custody.Branch,0⟩ u).Items:=(a3f v.items hx).2 (.inr rfl);have hnp:¬a2h (w8 u x).Custody=true:=by
   rw[b8c (x:=w8 u x) (by show u.State≠4;omega) (by show u.State≠9;omega) (by show u.State≠10;omega)]
   decide
  have hidle:d0l c→d0l (p8 c i x ⟨c.Today,x.ID,13,x.Custody.Branch,0⟩ u):=fun h y hy h3=>by
   rcases (a3f v.items hx).1 hy with ⟨hy,_⟩|rfl
   ·exact h y hy h3
   ·rw[show (w8 u x).Custody=u from rfl]at h3;omega
  have hcl:∀c2:Circ,c2.Items=(p8 c i x ⟨c.Today,x.ID,13,x.Custody.Branch,0⟩ u).Items→c2.Loans=c.Loans→Val x.ID c2→c3l c2 x.ID→Val 0 c2:=by
   intro c2 hI hL v2 hf;refine v2.close (x:=w8 u x) (by rw[hI];exact hm) rfl (fun n hn e=>absurd e (hlf n (by rw[←hL];exact hn))) (fun h=>absurd h hnp) (fun h hh hs1 hg=>absurd hg (hf h hh hs1)) (fun h=>?_);rw[show (w8 u x).Custody=u from rfl]at h;omega
  rw[c51 m1.short.holds]at e;dsimp only at e;cases hc:(o7 (p8 c i x ⟨c.Today,x.ID,13,x.Custody.Branch,0⟩ u) x.ID).2 with
  |false=>
   rw[hc]at e;cases e
   refine ⟨hcl _ rfl rfl v1 (fun o ho hs1 hg=>?_),a1q,hidle⟩;unfold o7 at hc;cases hq:(p8 c i x ⟨c.Today,x.ID,13,x.Custody.Branch,0⟩ u).Holds.find? (fun h=>h.Got==x.ID) with
   |none=>exact absurd (ybr.1 hq o ho) (by simpa using hg)
   |some p=>rw[hq]at hc;cases hc
  |true=>
   rw[hc]at e;simp only[yam,yaa]at e;rw[f3n m1.short.holds m1.sorted]at e;dsimp only at e;rcases hd:a93 (p8 c i x ⟨c.Today,x.ID,13,x.Custody.Branch,0⟩ u).Holds x.ID with ⟨l,f⟩;rw[hd]at e;dsimp only at e;have hz:=f5e e;clear e;obtain ⟨rfl,e⟩:=hz;have e:=f5g e;have hk:=c0d (l:=(p8 c i x ⟨c.Today,x.ID,13,x.Custody.Branch,0⟩ u).Holds) (item:=x.ID) (by rw[hd]);rw[hd]at hk;have m2:=a8j m1 hk;obtain ⟨o,ho,hg,rfl⟩:=e5s m1.sorted hd;have hsh:=d1f (a1h v1.holds ho);have v2:=v1.swap ho (p:=b8w o 0 1 0) rfl rfl rfl hsh (fun z hz q=>absurd (show (0:Int)<0 from q) (by decide)) (.inr hg) (fun q=>absurd rfl q);have v3:=hcl (u0 (p8 c i x ⟨c.Today,x.ID,13,x.Custody.Branch,0⟩ u) (b4l (p8 c i x ⟨c.Today,x.ID,13,x.Custody.Branch,0⟩ u).Holds o.ID (b8w o 0 1 0))) rfl rfl v2 (fun p hp hs1 hpg=>by
    rcases (a3g ho).1 hp with ⟨hp,hne⟩|rfl
    ·have:=d7i v1.holds ho hp (by rw[hg];omega) (hg.trans hpg.symm);subst this;exact hne rfl
    ·exact hs1 rfl)
   have I:=e6h m2 v3 e;refine ⟨I.val,a1q.trans (a8k.trans I.stp),fun h y hy h3=>?_⟩;by_cases hr:y.Record=x.Record
   ·obtain ⟨j,hj,hjy⟩:=g9c hy;exact I.done j y hj hjy hr h3
   ·have hy2:=I.rest y hy hr;have hn:=hidle h y hy2 h3;intro q hq hw;have hq1:=b0p hw;rcases (a3g ho).1 (I.less.2 q hq hq1.2.1) with ⟨hq2,_⟩|rfl
    ·refine hn q hq2 ?_;rw[I.less.1]at hw;exact hw
    ·have ho1:o.State≠1:=fun q=>by
      have:=(a6h (a1h v1.holds ho)).2.2.2.2.1 q;omega
     obtain ⟨z,hz,hzi,hzr,-⟩:=v1.holdI o ho ho1;have:=u3 v1.items hz hm (hzi.trans hg);subst this;exact absurd (hq1.1.symm.trans hzr.symm) hr
end
section
open Go (IntKind)
theorem d9g:∀{A B:List Int},A.Nodup→(∀a∈A,a∈B)→A.length≤B.length:=by
 intro A
 induction A with
 |nil=>intro B _ _;simp
 |cons a A ih=>
  intro B hn hs;rw[List.nodup_cons]at hn;have ha:=hs a (yaD ..);have:=ih (B:=B.erase a) hn.2 (fun b hb=>by
   have h1:b≠a:=fun e=>hn.1 (e▸hb)
   exact (List.mem_erase_of_ne h1).2 (hs b (yaP _ hb)))
  rw[List.length_erase_of_mem ha]at this;have hp:=List.length_pos_of_mem ha;simp only[yaB];omega
theorem e22 {c:Circ} {it:Int} (v:Val it c) (r:Int):(c.Holds.filter (fun o=>o.Record==r)).length≤c.Patrons.length:=by
 have hp:=(b43.1 v.holds).2.2;have h1:((c.Holds.filter (fun o=>o.Record==r)).map (fun o=>o.Patron)).Nodup:=by
  rw[List.nodup_iff_pairwise_ne,List.pairwise_map];refine (hp.filter _).imp_of_mem (fun {a b} ha hb q=>?_);have ha:=(yaX.1 ha).2;have hb:=(yaX.1 hb).2;simp only[ybb]at ha hb;unfold a00 at q;simp only[yal,ybc,yaZ,ne_eq]at q;rcases q.1 with w|w
  ·exact fun e=>w e.symm
  ·exact absurd (hb.trans ha.symm) w
 have h2:=d9g h1 (B:=c.Patrons.map (fun p=>p.ID)) (fun a ha=>by
  obtain ⟨o,ho,rfl⟩:=ybd.1 ha;have:=(v.holdP o (yaX.1 ho).1).1;unfold a84 at this;cases hq:c.Patrons.find? (fun p=>p.ID==o.Patron) with
  |none=>rw[hq]at this;cases this
  |some p=>exact ybd.2 ⟨p,ybf hq,by have:=ybE hq;simpa using this⟩)
 rw[yaU,yaU]at h2;exact h2
theorem b1z {c:Circ} (h:a1j c=true):c.Items.length≤64∧c.Moves.length≤2000:=by
 unfold a1j at h;simp only[yad,yas,yal,yag]at h;omega
structure Inv (c:Circ):Prop where
 val:Val 0 c
 short:Short c
 pats:c.Patrons.length≤8
theorem g9d {c d:Circ} (s:Short c) (hp:c.Patrons.length≤8) (v:Val 0 d) (t:Stp c d):Inv d:=by
 obtain ⟨a1,a2,a3,a4,a5,a6,a7,a8,a9,a10,a11,a12,a13⟩:=s;have h1:=b1z v.items;have h2:=(b13.1 v.loans).1;have h3:=(b43.1 v.holds).1;have h4:=(b6y.1 v.charges).1;refine ⟨v,⟨by omega,by rw[t.pats];exact a2,by omega,by omega,by omega,by rw[t.rules];exact a6,by omega,fun x hx=>by have:=(a1p v.items hx).2.2.2.2;omega,by rw[t.pats];exact a9,by rw[t.cals];exact a10,by rw[t.cals];exact a11,by rw[t.cals];exact a12,by rw[t.cals];exact a13⟩,by rw[t.pats];exact hp⟩
theorem Inv.fit {c:Circ} (h:Inv c):FitP c:=h3v (e23 h.val)
theorem Inv.mid {c:Circ} (h:Inv c):MidP c:=by
 have f:=h.fit;have h1:=b1z h.val.items;have h2:=(b43.1 h.val.holds).1;have h4:=(b6y.1 h.val.charges).1;exact ⟨h.short,by omega,by omega,a2d f.holds,fun o ho=>d1l f ho,fun r=>by have:=e22 h.val r;have:=h.pats;omega,f5i f,fun r hr=>g21 f hr,fun x hx=>b40 f hx,a85 h.val.items,by omega⟩
theorem Inv.w {c:Circ} (h:Inv c):MidW c:=by
 have h1:=b1z h.val.items;have h2:=(b13.1 h.val.loans).1;have h3:=(b43.1 h.val.holds).1;exact ⟨h.short,by omega,by omega,by omega,fun r=>by have:=e22 h.val r;have:=h.pats;omega⟩
theorem Inv.of {c d:Circ} (h:Inv c) (v:Val 0 d) (t:Stp c d):Inv d:=g9d h.short h.pats v t
theorem d0l.less {c d:Circ} (h:d0l c) (hi:d.Items=c.Items) (l:d0m d c):d0l d:=fun y hy h3=>(h y (by rw[←hi];exact hy) h3).less l rfl rfl
end
section
open Go (IntKind)
theorem c3z {c:Circ} {item:Int} (h:(o7 c item).2=false):∀o∈c.Holds,o.Got≠item:=by
 intro o ho e;unfold o7 at h;cases hq:c.Holds.find? (fun h=>h.Got==item) with
 |none=>exact absurd (ybr.1 hq o ho) (by simpa using e)
 |some p=>rw[hq]at h;cases h
structure Ret (c d:Circ) (i:Nat) (x:Item) (branch:Int):Prop where
 val:Val x.ID d
 mid:MidP d
 items:d.Items=c.Items.set i (w8 ⟨2,branch,0,0⟩ x)
 free:b80 d x.ID
 holds:d.Holds=c.Holds
 today:d.Today=c.Today
 stp:Stp c d
theorem c2w {c d:Circ} (I:Inv c) {i:Nat} {x:Item} (hx:c.Items[i]?=some x) {branch:Int} (e:qen c x.ID branch=some (d,0)):Ret c d i x branch:=by
 have v:=I.val;have m:=I.mid;have hlp:=(b13.1 v.loans).1;unfold qen at e;rcases e1:qp c x.ID 4 branch 0 with _|⟨c1,f⟩
 ·rw[e1]at e;cases e
 rw[e1]at e;dsimp only at e;have hz:=f5e e;clear e;obtain ⟨rfl,e⟩:=hz;obtain ⟨u,ha,hlen,hc1,m1⟩:=a1r m hx e1;have hu:u=⟨2,branch,0,0⟩:=(c3s ha).res;subst hu;have v1:=(v.weak x.ID).move hx rfl ha hlen;have st1:Stp c (p8 c i x ⟨c.Today,x.ID,4,branch,0⟩ ⟨2,branch,0,0⟩):=a1q;have hx1:=a4n hx ⟨c.Today,x.ID,4,branch,0⟩ ⟨2,branch,0,0⟩;rw[←hc1]at v1 st1 hx1;have hL:c1.Loans=c.Loans:=by rw[hc1];rfl
 have hH:c1.Holds=c.Holds:=by rw[hc1];rfl
 have hI:c1.Items=c.Items.set i (w8 ⟨2,branch,0,0⟩ x):=by rw[hc1];rfl
 have hT:c1.Today=c.Today:=by rw[hc1];rfl
 clear hc1;rw[f32 (by rw[hL];omega)]at e;rcases hb:a7l c1.Loans x.ID with ⟨l,n,f⟩;rw[hb]at e;dsimp only at e;have hz:=f5e e;clear e;obtain ⟨rfl,e⟩:=hz;obtain ⟨b1,b2,b3,b4⟩:=e31 v1.loans hb;have v2:=v1.setLoans b3 (fun z hz=>⟨v1.loanP z ((b4 z).1 hz).1,.inl ⟨z,((b4 z).1 hz).1,rfl,rfl⟩⟩) (fun z hz hne=>⟨z,(b4 z).2 ⟨hz,hne⟩,rfl⟩);have m2:=c00 m1 (l:=l) (by have:=(b13.1 b3).1;omega);have hat:=a7i (c:=j8 c1 l) (x:=w8 ⟨2,branch,0,0⟩ x) m2 hx1;have hc2:{c1 with Loans:=l}=j8 c1 l:=rfl;simp -zeta only[hc2]at e;rw[show qe (j8 c1 l) x.ID=_ from hat]at e;simp -zeta only[d8,hx1]at e;have hpn:(a84 (j8 c1 l).Patrons n.Patron).2=true:=v1.loanP n b1;have hfr:b80 (j8 c1 l) x.ID:=fun z hz=>((b4 z).1 hz).2
 have hI2:(j8 c1 l).Items=c1.Items:=rfl;have hH2:(j8 c1 l).Holds=c1.Holds:=rfl;have hT2:(j8 c1 l).Today=c1.Today:=rfl;have st2:Stp c (j8 c1 l):=st1.trans d82;have rf:∀c3:Circ,Val x.ID c3→MidP c3→(∃ch nc,c3=a4f (j8 c1 l) ch nc)→(match qbg c3.Charges n.Patron x.ID 2 with
  |some (r21,r22)=>some ({c3 with Charges:=r21},(0:Int))
  |none=>none)=some (d,0)→Ret c d i x branch:=by
  intro c3 v3 m3 h3 e;obtain ⟨w,hw⟩:=f3l (p:=n.Patron) (item:=x.ID) (kind:=2) m3.chN;rw[hw]at e;cases e
  have hfl:=yaw (fun y=>!(b3f n.Patron x.ID 2 y)) c3.Charges;have hch:=m3.chN;have v4:=v3.setCharges (b33 v3.charges (fun y=>!(b3f n.Patron x.ID 2 y))) ⟨Int.le_refl _,(c5b v3.nums).2.2.2⟩ (fun y hy=>b9y (v3.chG y (yaX.1 hy).1));have m4:=b9x m3 (l:=c3.Charges.filter (fun y=>!(b3f n.Patron x.ID 2 y))) (by omega) c3.NextCharge;obtain ⟨ch,nc,rfl⟩:=h3;exact ⟨v4,m4,hI2.trans hI,hfr,hH2.trans hH,hT2.trans hT,st2.trans (f1j (l:=(a4f (j8 c1 l) ch nc).Charges.filter (fun y=>!(b3f n.Patron x.ID 2 y))) (n:=nc))⟩
 have core:∀fine:Int,(bif decide (0<fine) then (match qdy (j8 c1 l) n.Patron x.ID 1 fine with
  |some (r17,r18)=>bif !(r18==0) then some (o5,r18) else (match qbg r17.Charges n.Patron x.ID 2 with
   |some (r21,r22)=>some ({r17 with Charges:=r21},(0:Int))
   |none=>none)
  |none=>none)
  else (match qbg (j8 c1 l).Charges n.Patron x.ID 2 with
   |some (r21,r22)=>some ((⟨(j8 c1 l).Today,(j8 c1 l).Items,(j8 c1 l).Patrons,(j8 c1 l).Loans,(j8 c1 l).Holds,r21,(j8 c1 l).Rules,(j8 c1 l).Cals,(j8 c1 l).Moves,(j8 c1 l).NextHold,(j8 c1 l).NextCharge,(j8 c1 l).Local⟩:Circ),(0:Int))
   |none=>none))=some (d,0)→Ret c d i x branch:=by
  intro fine e;cases hf:decide (0<fine) with
  |false=>
   rw[hf]at e;exact rf (j8 c1 l) v2 m2 ⟨(j8 c1 l).Charges,(j8 c1 l).NextCharge,rfl⟩ e
  |true=>
   rw[hf]at e;simp only[yac]at e;rcases e3:qdy (j8 c1 l) n.Patron x.ID 1 fine with _|⟨c3,f⟩
   ·rw[e3]at e;cases e
   rw[e3]at e;dsimp only at e;have hz:=f5e e;clear e;obtain ⟨rfl,e⟩:=hz;obtain ⟨v3,m3,h3⟩:=b06 v2 m2 hpn e3;exact rf c3 v3 m3 h3 e
 cases hr:qd2 (j8 c1 l) n.Patron (w8 ⟨2,branch,0,0⟩ x) with
 |none=>rw[hr]at e;cases e
 |some rb=>
  obtain ⟨r,b⟩:=rb;rw[hr]at e;cases b with
  |false=>exact core 0 e
  |true=>
   dsimp only at e;simp only[yac]at e;cases hcal:qk (j8 c1 l) branch with
   |none=>rw[hcal]at e;cases e
   |some cal=>
    rw[hcal]at e;dsimp only at e;cases hlate:qey r cal n.Due c1.Today with
    |none=>rw[hlate]at e;cases e
    |some fine=>
     rw[hlate]at e;exact core fine e
theorem d0c {c c1 d:Circ} {n:Int} {i:Nat} {x x1:Item} (v1:Val x.ID c1) (m1:MidP c1) (hx:c1.Items[i]?=some x1) (hxi:x1.ID=x.ID) (hf:b80 c1 x.ID) (st:Stp c c1) (hi:d0l c→d3x x.ID c1)
 (hcase:c3l c1 x.ID∨∀o∈c1.Holds,o.State≠1→o.Got=x.ID→o.State=2∧x1.Record=o.Record∧o.Pickup=x1.Custody.Branch) (e:e0m x.ID 0 c1=some (d,n,0)):Res c d:=by
 rw[←hxi]at v1 hf hi hcase e;unfold e0m at e;simp only[yai,yam,yaa]at e;rw[c51 m1.short.holds]at e;dsimp only at e;have fin:∀{o:Option (Circ×Int)},(match o with
  |some (d,f)=>(bif !(f==0) then some (o5,0,f) else match qz d x1.ID with
   |some (r,_)=>some (d,r.ID,0)
   |none=>none)
  |none=>none)=some (d,n,0)→o=some (d,0):=by
  intro o e;cases o with
  |none=>cases e
  |some p=>
   obtain ⟨d2,f⟩:=p;dsimp only at e;have hz:=h2t e;clear e;obtain ⟨rfl,e⟩:=hz;cases hc:qz d2 x1.ID with
   |none=>rw[hc]at e;cases e
   |some q=>rw[hc]at e;cases e;rfl
 cases hc:(o7 c1 x1.ID).2 with
 |false=>
  rw[hc]at e;have e2:qcv c1 x1.ID=some (d,0):=fin e;have hno:=c3z hc;have r:=b6r m1 hx e2;have f:=b6q v1.holds hx r;exact ⟨d4u v1 hx hf (fun o ho _=>hno o ho) r,st.trans f.stp,fun h=>d4t v1.items m1 hx f (hi h)⟩
 |true=>
  have hcm:=a57 hc;rw[hc]at e;have e2:qc4 c1 x1.ID (o7 c1 x1.ID).1=some (d,0):=fin e;have r:=c2p m1 hx e2;have hx1:=a1p v1.items (yaf hx);have ho1:(o7 c1 x1.ID).1.State≠1:=fun q=>by
   have:=(a6h (a1h v1.holds hcm.1)).2.2.2.2.1 q;rw[hcm.2]at this;omega
  rcases hcase with hcase|hcase
  ·exact absurd hcm.2 (hcase _ hcm.1 ho1)
  ·obtain ⟨h2,hrec,hpk⟩:=hcase _ hcm.1 ho1 hcm.2;have v3:=e0k v1 hx hf hcm.1 hrec hpk (fun p hp _ hpg=>by rw[d7i v1.holds hcm.1 hp (by rw[hcm.2];omega) (hcm.2.trans hpg.symm)]) r;obtain ⟨u,l,un,ha,hlen,hcc,rfl⟩:=r;have hl:=a8w (c:=p8 c1 i x1 ⟨c1.Today,x1.ID,5,x1.Custody.Branch,(o7 c1 x1.ID).1.Patron⟩ u) v1.holds hcc;refine ⟨v3,st.trans (a1q.trans a8k),fun h y hy h3=>?_⟩;have hl2:d0m (u0 (p8 c1 i x1 ⟨c1.Today,x1.ID,5,x1.Custody.Branch,(o7 c1 x1.ID).1.Patron⟩ u) l) c1:=hl.trans ⟨rfl,fun o ho _=>ho⟩;have hy:y∈c1.Items.set i (w8 u x1):=hy;rcases (a27 v1.items hx).1 hy with ⟨hy,hne⟩|rfl
   ·exact (hi h y hy hne h3).less hl2 rfl rfl
   ·rw[show (w8 u x1).Custody=u from rfl,show u=⟨5,x1.Custody.Branch,(o7 c1 x1.ID).1.Patron,0⟩ from (c3s ha).res]at h3;exact absurd (show (5:Int)=3 from h3) (by decide)
theorem e34 {c d:Circ} {n:Int} (I:Inv c) {item branch:Int} (e:qew c item branch=some (d,n,0)):Res c d:=by
 have v:=I.val;have m:=I.mid;rcases a25 m item with ⟨-,h2,-⟩|⟨i,x,-,h2,hx,rfl,-⟩
 ·unfold qew at e;rw[h2]at e;cases e
 rw[f31 m.short h2 hx]at e;have hm0:=yaf hx;have hid:=a1p v.items hm0;have idl:∀c1:Circ,∀u,c1.Items=c.Items.set i (w8 u x)→c1.Holds=c.Holds→c1.Today=c.Today→d0l c→d3x x.ID c1:=by
  intro c1 u hI hH hT h y hy hne h3;rw[hI,a27 v.items hx]at hy;rcases hy with ⟨hy,_⟩|rfl
  ·exact (h y hy h3).less ⟨hT,fun o ho _=>by rw[hH]at ho;exact ho⟩ rfl rfl
  ·exact absurd rfl hne
 have mv:∀kind:Int,a2h x.Custody=false→(c3l c x.ID∨kind=7)→(kind=7→x.Custody.State=6)→d0x x.ID (qp c x.ID kind branch 0)=some (d,n,0)→Res c d:=by
  intro kind hwp hc h6 e;unfold d0x at e;rcases e1:qp c x.ID kind branch 0 with _|⟨c1,f⟩
  ·rw[e1]at e;cases e
  rw[e1]at e;dsimp only at e;by_cases hf:f=0
  ·subst hf;obtain ⟨u,ha,hlen,hc1,m1⟩:=a1r m hx e1;subst hc1;refine d0c (x:=x) ((v.weak x.ID).move hx rfl ha hlen) m1 (a4n hx _ u) rfl (v.lfree hm0 hwp) a1q (idl _ u rfl rfl rfl) ?_ e;by_cases hk:kind=7
   ·subst hk;right;intro o ho hs1 hg;obtain ⟨y,hy,hyi,hyr,hat⟩:=v.holdI o ho hs1;have:=u3 v.items hy hm0 (hyi.trans hg);subst this;have hat:=hat (by omega);have hs6:=h6 rfl;have h2:o.State=2:=by
     rcases (a6h (a1h v.holds ho)).2.2.2.1 with q|q|q
     ·exact absurd q hs1
     ·exact q
     ·have:=(hat.1 q).1;omega
    have hto:=(hat.2 h2).2.1;have hu:u=⟨2,branch,0,0⟩:=(c3s ha).res;have hfit:=(c3s ha).fits;unfold b8g at hfit;simp at hfit;refine ⟨h2,hyr,?_⟩;show o.Pickup=u.Branch
    rw[hu];show o.Pickup=branch
    omega
   ·left;rcases hc with hc|hc
    ·exact hc
    ·exact absurd hc hk
  ·exfalso;unfold e0m at e;rw[show (f==0)=false by simpa using hf]at e;cases e
   exact hf rfl
 cases hp:a2h x.Custody with
 |true=>
  rw[hp]at e;simp only[yac]at e;cases hb:(decide (branch<1)||decide (4<branch)) with
  |true=>rw[hb]at e;cases e
  |false=>
   rw[hb]at e;simp only[yaa]at e;unfold d0x at e;rcases e1:qen c x.ID branch with _|⟨c1,f⟩
   ·rw[e1]at e;cases e
   rw[e1]at e;dsimp only at e;by_cases hf:f=0
   ·subst hf;have R:=c2w I hx e1;have hst:x.Custody.State=4∨x.Custody.State=9∨x.Custody.State=10:=by
     rw[a0s]at hp;simpa[or_assoc]using hp
    have hfr:=v.hfree hm0 (by omega) (by omega);have hlt:=(zL hx)
    exact d0c (x:=x) R.val R.mid (i:=i) (x1:=w8 ⟨2,branch,0,0⟩ x) (by rw[R.items,yby hlt]) rfl R.free R.stp (idl _ _ R.items R.holds R.today) (.inl (fun o ho=>hfr o (by rw[←R.holds];exact ho))) e
   ·exfalso;unfold e0m at e;rw[show (f==0)=false by simpa using hf]at e;cases e
    exact hf rfl
 |false=>
  rw[hp]at e;simp only[yaa]at e;cases h8:x.Custody.State==8 with
  |true=>
   rw[h8]at e;have h8:x.Custody.State=8:=by simpa using h8
   exact mv 4 hp (.inl (v.hfree hm0 (by omega) (by omega))) (fun q=>absurd q (by decide)) e
  |false=>
   rw[h8]at e;simp only[yaa]at e;cases h11:x.Custody.State==11 with
   |true=>
    rw[h11]at e;have h11:x.Custody.State=11:=by simpa using h11
    exact mv 14 hp (.inl (v.hfree hm0 (by omega) (by omega))) (fun q=>absurd q (by decide)) e
   |false=>
    rw[h11]at e;simp only[yaa]at e;cases h6:x.Custody.State==6 with
    |true=>
     rw[h6]at e;exact mv 7 hp (.inr rfl) (fun _=>by simpa using h6) e
    |false=>
     rw[h6]at e;cases e
end
section
open Go (IntKind)
theorem e2q {c:Circ} (hm:SmallP c) (hr:a5c c=true):Inv c:=⟨h18 hr,hm.short,hm.patrons⟩
end
section
open Go (IntKind Lit)
def f5d (x:Int):Bool:=decide (x<1)||decide (9999<x)
def g6l (l:List Int):Int:=bif decide (200<(l.length:Int)) then 13 else bif l.any f5d then 2 else 0
theorem c3n {X:Type} (p:X→Bool):∀l:List X,l.all (fun x=>!p x)=!l.any p:=by
 intro l
 induction l with
 |nil=>rfl
 |cons x l ih=>simp only[yb2,List.any_cons,ih];cases p x<;>rfl
theorem g90 {l:List Int} (hl:l.length<1000000000):qag l=some (g6l l):=by
 unfold qag g6l;have h:=m8 (step:=b5p) (fun i=>(l,(i:Int),())) l (fun _ x=>!f5d x) (.inr (2,())) (.inl ()) hl
  (by simp only[b5p,dge,yaa])
  (fun i x hx=>by
   have hi:=(zL hx)
   simp -zeta only[b5p,dlt hi,d8,hx,yac,g9 (show i<9223372036854775807 by omega),a06];show _=bif !f5d x then _ else _
   unfold f5d;dsimp only;cases (decide (x<1)||decide (9999<x))<;>rfl)
 rw[show c4 b5p (l,0,())=_ from h,o9,c3n];cases decide (200<(l.length:Int)) with
 |true=>rfl
 |false=>simp only[yaa];cases l.any f5d<;>rfl
def a8e (branch:Int) (x:Item):Bool:=(x.Custody.Branch==branch)&&((x.Custody.State==2||x.Custody.State==3)||x.Custody.State==5)
theorem d9w (x:Item) (b:Int):qbz x b=some (a8e b x):=by
 unfold qbz a8e;simp -zeta only[a06];dsimp only;cases (x.Custody.Branch==b)<;>rfl
theorem d91 (x:Item) (b:Int):qcp x b=some (a8e b x):=by
 unfold qcp a8e;simp -zeta only[a06];dsimp only;cases (x.Custody.Branch==b)<;>rfl
def e3g (c:Circ) (b:Int):List Int:=(c.Items.filter (a8e b)).map (·.ID)
theorem a65 {α β X:Type} {p:X→Bool} {f:X→α} {fin:List α→β}:∀{l:List X} {i:Nat} {s:List α},a0w (fun _ x s=>.inl (bif p x then s++[f x] else s)) fin i l s=fin (s++(l.filter p).map f):=by
 intro l
 induction l with
 |nil=>intro i s;simp[a0w]
 |cons x l ih=>
  intro i s;simp only[a0w,ybh];rw[ih];cases p x<;>simp
theorem g9x {c:Circ} {b:Int} (hc:c.Items.length<1000000000):qa7 c b=some (e3g c b):=by
 unfold qa7 e3g;have h:=m0 (step:=b5k) (fun i (s:List Int)=>s.length≤i) (fun i s=>(b,c.Items,(c.Items.length:Int),(i:Int),s,())) c.Items (fun _ x s=>.inl (bif a8e b x then s++[x.ID] else s)) (fun s=>(s,())) (by rw[m5];omega)
  (fun s hs=>by simp only[b5k,dge,yaa])
  (fun i x s hx hs=>by
   have hi:=(zL hx)
   have hlim:decide (s.length+([x.ID]:List Int).length≤LIM)=true:=by rw[a3h,yae];simp only[yaB,yaS];omega
   constructor
   ·simp only[b5k,dlt hi,d8,hx,yac,d9w,g9 (show i<9223372036854775807 by omega),hlim];cases a8e b x<;>rfl
   ·intro s' e;injection e with e;subst e;cases a8e b x<;>simp<;>omega) [] (ybt _)
 rw[show c4 b5k (b,c.Items,(c.Items.length:Int),0,([]:List Int),())=_ from h,a65];rfl
theorem c7v (c:Circ) (b:Int):(e3g c b).length≤c.Items.length:=by
 unfold e3g;rw[yaU];exact yaw _ _
end
section
open Go (IntKind Lit)
def cs (l:List Int):List Int:=Go.Lib.compact (l.mergeSort fun x y=>decide (x≤y))
theorem b1b (l:List Int):(cs l).Pairwise (fun a b=>a<b):=(c7m l).1
theorem b1c (l:List Int) (x:Int):x∈cs l↔x∈l:=(c7m l).2 x
theorem f5c:∀{a b:List Int},a.Pairwise (fun x y=>x<y)→b.Pairwise (fun x y=>x<y)→(∀x,x∈a↔x∈b)→a=b:=by
 intro a
 induction a with
 |nil=>
  intro b _ _ h;cases b with
  |nil=>rfl
  |cons y b=>have:=(h y).2 (yaD ..);cases this
 |cons x a ih=>
  intro b ha hb h;cases b with
  |nil=>have:=(h x).1 (yaD ..);cases this
  |cons y b=>
   rw[List.pairwise_cons]at ha hb;have e:x=y:=by
    have h1:=(h x).1 (yaD ..);have h2:=(h y).2 (yaD ..);rcases yaC.1 h1 with e|h1
    ·exact e
    rcases yaC.1 h2 with e|h2
    ·exact e.symm
    have:=hb.1 x h1;have:=ha.1 y h2;omega
   subst e;rw[ih ha.2 hb.2 (fun z=>?_)];constructor
   ·intro hz;rcases yaC.1 ((h z).1 (yaP _ hz)) with e|h1
    ·have:=ha.1 z hz;omega
    ·exact h1
   ·intro hz;rcases yaC.1 ((h z).2 (yaP _ hz)) with e|h1
    ·have:=hb.1 z hz;omega
    ·exact h1
theorem a7n {l:List Int} (h:l.Pairwise (fun x y=>x<y)):cs l=l:=f5c (b1b l) h (b1c l)
theorem b4r (l:List Int):(cs l).length≤l.length:=by
 have q1:∀(d:Array Int) (k:Nat),(Go.Lib.compactUpTo d k).length≤k:=by
  intro d k;unfold Go.Lib.compactUpTo;rw[yaU];exact ya6 (yaw _ _) (by rw[List.length_range];exact yat _)
 unfold cs Go.Lib.compact;refine ya6 (q1 _ _) ?_;rw[List.length_mergeSort];exact yat _
theorem a5n {l:List Int} (h:l.length<1000000000):qbc l=some (l.mergeSort fun x y=>decide (x≤y)):=by
 unfold qbc;rw[show decide (l.length≤LIM)=true by rw[a3h,yae];omega,yac]
theorem a5l {l:List Int} (h:l.length<1000000000):qba (l.mergeSort fun x y=>decide (x≤y))=some (cs l):=by
 unfold qba;rw[show decide ((l.mergeSort fun x y=>decide (x≤y)).length≤LIM)=true by rw[a3h,yae,List.length_mergeSort];omega,yac];rfl
def tms (l:List Int) (n:Int):Int:=((l.filter (fun x=>x==n)).length:Int)
theorem d0g (x:Int) (l:List Int) (n:Int):tms (x::l) n=(bif x==n then 1 else 0)+tms l n:=by
 unfold tms;rw[ybh];cases x==n with
 |true=>simp only[ybB,yaB,yac];omega
 |false=>simp
theorem d7m (k n:Int) (e:MapI) (he:e.key=k):∀m:List MapI,b38 MapI.key n (c3k MapI.key k e m)=bif k==n then some e else b38 MapI.key n m:=by
 intro m
 induction m with
 |nil=>
  unfold c3k b38;rw[he];cases k==n<;>rfl
 |cons x m ih=>
  unfold c3k;cases hx:x.key==k with
  |true=>
   rw[yac];unfold b38;rw[he];have:x.key=k:=by simpa using hx
   rw[this];cases k==n<;>rfl
  |false=>
   rw[yaa];unfold b38;rw[ih];cases hn:x.key==n with
   |true=>
    have h1:x.key=n:=by simpa using hn
    have h2:(k==n)=false:=by
     rw[yaZ]at hx ⊢;intro q;exact hx (h1.trans q.symm)
    rw[h2];rfl
   |false=>cases k==n<;>rfl
def g6d (x:Int) (m:List MapI):List MapI:=c3k MapI.key x (⟨x,wr .i64 ((a4v MapI.key MapI.val m x)+1)⟩:MapI) m
theorem e5o (x n:Int) (m:List MapI):a4v MapI.key MapI.val (g6d x m) n=bif x==n then wr .i64 (a4v MapI.key MapI.val m n+1) else a4v MapI.key MapI.val m n:=by
 unfold g6d a4v;rw[d7m x n _ rfl];cases h:x==n with
 |true=>
  have e:x=n:=by simpa using h
  subst e;rfl
 |false=>rfl
theorem d7k:∀(l:List Int) (m:List MapI) (n:Int),0≤a4v MapI.key MapI.val m n→a4v MapI.key MapI.val m n+l.length<1000000000→a4v MapI.key MapI.val (l.foldl (fun s x=>g6d x s) m) n=a4v MapI.key MapI.val m n+tms l n:=by
 intro l
 induction l with
 |nil=>intro m n _ _;simp[tms]
 |cons x l ih=>
  intro m n h1 h2;have hl:((x::l).length:Int)=l.length+1:=by simp
  rw[ybj,d0g];have e:=e5o x n m;rw[a0x (by omega) (by omega)]at e;cases h:x==n with
  |true=>rw[h,yac]at e;rw[ih _ _ (by omega) (by omega),e,yac];omega
  |false=>rw[h,yaa]at e;rw[ih _ _ (by omega) (by omega),e,yaa];omega
theorem g98 {l:List Int} (hl:l.length<100000000):∃m,qax l=some (cs l,m)∧∀n,a4v MapI.key MapI.val m n=tms l n:=by
 have h:=a7w (step:=b50) (fun i m=>(l,l,(l.length:Int),(i:Int),m,())) l g6d (fun m=>(l,m,())) (by omega)
  (fun s=>by simp only[b50,dge,yaa])
  (fun i x s hx=>by
   have hi:=(zL hx)
   simp only[b50,dlt hi,d8,hx,yac,g9 (show i<9223372036854775807 by omega),g6d]) []
 refine ⟨l.foldl (fun s x=>g6d x s) [],?_,fun n=>?_⟩
 ·unfold qax;rw[show c4 b50 (l,l,(l.length:Int),0,([]:List MapI),())=_ from h];have hc:qe2 l=some l:=by
   unfold qe2;rw[show decide (([]:List Int).length+l.length≤LIM)=true by rw[a3h,yae];simp only[yaS];omega,yac];rfl
  simp only[hc,a5n (show l.length<1000000000 by omega),a5l (show l.length<1000000000 by omega)]
 ·have e:a4v MapI.key MapI.val [] n=0:=rfl;rw[d7k l [] n (by rw[e];omega) (by rw[e];omega),e,Int.zero_add]
theorem f3b {l:List Int} (hl:l.length<100000000) (n:Int):qa4 l n=some (tms l n):=by
 have h:=a7w (step:=b5h) (fun i k=>(l,n,k,(i:Int),())) l (fun x k=>bif x==n then wr .i64 (k+1) else k) (fun k=>(k,())) (by omega)
  (fun s=>by simp only[b5h,dge,yaa])
  (fun i x s hx=>by
   have hi:=(zL hx)
   simp only[b5h,dlt hi,d8,hx,yac,g9 (show i<9223372036854775807 by omega)];cases x==n<;>rfl) 0
 have key:∀(l:List Int) (k:Int),0≤k→k+l.length<1000000000→l.foldl (fun k x=>bif x==n then wr .i64 (k+1) else k) k=k+tms l n:=by
  intro l
  induction l with
  |nil=>intro k _ _;simp[tms]
  |cons x l ih=>
   intro k h1 h2;have hl:((x::l).length:Int)=l.length+1:=by simp
   rw[ybj,d0g];cases h:x==n with
   |true=>rw[yac,yac,a0x (by omega) (by omega),ih _ (by omega) (by omega)];omega
   |false=>rw[yaa,yaa,ih _ (by omega) (by omega)];omega
 unfold qa4;rw[show c4 b5h (l,n,0,0,())=_ from h];simp only;rw[key l 0 (by omega) (by omega),Int.zero_add]
def itm (c:Circ) (n:Int):Item×Bool:=match c.Items.find? (fun x=>x.ID==n) with
 |some x=>(x,true)
 |none=>((⟨0,0,0,0,0,[],⟨0,0,0,0⟩⟩:Item),false)
theorem e56 {X Y:Type} {p:X→Bool} {d:Y} {f:X→Y}:∀(l:List X) (pre:List X),(match a2t (β:=Unit⊕(Int×Unit)) p (fun i _=>.inr ((i:Int),())) (.inl ()) pre.length l with
 |.inl _=>some d
 |.inr (v,_)=>(match m9 (pre++l) v with|some x=>some (f x)|none=>none))=some (match l.find? p with|some x=>f x|none=>d):=by
 intro l
 induction l with
 |nil=>intro pre;rfl
 |cons x l ih=>
  intro pre;simp only[a2t,List.find?_cons];cases hp:p x with
  |true=>
   simp only[yac,d8];rw[yay (yat _)];simp
  |false=>
   simp only[yaa];have:=ih (pre++[x]);rw[yaM,ybl]at this;exact this
theorem f3g {c:Circ} (hc:c.Items.length<1000000000) (n:Int):qaq c n=some (itm c n):=by
 have h:=t7 (step:=b3a (fun (g:Unit×Int×Unit) x0=>qb9 x0 g.2.1)) (fun i=>(c.Items,((),(n,())),(c.Items.length:Int),(i:Int),())) c.Items (fun x=>x.ID==n) (fun i _=>.inr ((i:Int),())) (.inl ()) hc
  (by simp only[b3a,dge,yaa])
  (fun i x hx=>by
   have hi:=(zL hx)
   simp only[b3a,dlt hi,d8,hx,yac,qb9,g9 (show i<9223372036854775807 by omega)])
 unfold qaq qj;rw[show c4 (b3a (fun (g:Unit×Int×Unit) x0=>qb9 x0 g.2.1)) (c.Items,((),(n,())),(c.Items.length:Int),0,())=_ from h];have k:=e56 (p:=fun x:Item=>x.ID==n) (d:=((⟨0,0,0,0,0,[],⟨0,0,0,0⟩⟩:Item),false)) (f:=fun x=>(x,true)) c.Items [];have hpos:∀(l:List Item) (i:Nat) v,a2t (β:=Unit⊕(Int×Unit)) (fun x:Item=>x.ID==n) (fun i _=>.inr ((i:Int),())) (.inl ()) i l=.inr v→0≤v.1:=by
  intro l
  induction l with
  |nil=>intro i v h;cases h
  |cons x l ih=>
   intro i v h;simp only[a2t]at h;cases hx:x.ID==n with
   |true=>rw[hx,yac]at h;cases h;simp
   |false=>rw[hx,yaa]at h;exact ih _ _ h
 have hp:=hpos c.Items 0;simp only[yaS,ya7]at k;unfold itm;generalize a2t (β:=Unit⊕(Int×Unit)) (fun x:Item=>x.ID==n) (fun i _=>.inr ((i:Int),())) (.inl ()) 0 c.Items=r at k hp;rcases r with u|⟨v,u⟩
 ·simp only at k ⊢;rw[show decide ((-1:Int)<0)=true from rfl,yac,k];congr 1;cases c.Items.find? (fun x=>x.ID==n)<;>rfl
 ·simp only at k ⊢;have:=hp _ rfl;rw[show decide (v<0)=false by rw[yag];simp only at this;omega,yaa];cases hg:m9 c.Items v with
  |none=>rw[hg]at k;cases k
  |some x=>
   rw[hg]at k;simp only at k ⊢;rw[k];cases c.Items.find? (fun x=>x.ID==n)<;>rfl
theorem f3h {c:Circ} (hc:c.Items.length<1000000000) (n:Int):qas c n=some (itm c n):=by
 have h:=t7 (step:=b5x) (fun i=>(n,(i:Int),c,(⟨0,0,0,0,0,[],⟨0,0,0,0⟩⟩:Item),())) c.Items (fun x=>x.ID==n) (fun _ x=>.inr (true,x,())) (.inl ((⟨0,0,0,0,0,[],⟨0,0,0,0⟩⟩:Item),())) hc
  (by simp only[b5x,dge,yaa])
  (fun i x hx=>by
   have hi:=(zL hx)
   simp only[b5x,dlt hi,d8,hx,yac,g9 (show i<9223372036854775807 by omega)])
 unfold qas itm;rw[show c4 b5x (n,0,c,(⟨0,0,0,0,0,[],⟨0,0,0,0⟩⟩:Item),())=_ from h,a6x];cases c.Items.find? (fun x=>x.ID==n)<;>rfl
end
section
open Go (IntKind Lit)
def pr (k n:Int):Problem:=⟨k,n,[],0⟩
theorem a6s {α β X:Type} {f:X→α} {fin:List α→β}:∀{l:List X} {i:Nat} {s:List α},a0w (fun _ x s=>.inl (s++[f x])) fin i l s=fin (s++l.map f):=by
 intro l
 induction l with
 |nil=>intro i s;simp[a0w]
 |cons x l ih=>
  intro i s;simp only[a0w];rw[ih];simp
def kn (b:Int):Bool:=decide (1≤b)&&decide (b≤4)
theorem d9z (b:Int):qck b=some (kn b):=by
 unfold qck kn;cases decide (1≤b)<;>rfl
def b8x (c:Circ) (b:Int) (l:List Int):List Int:=(e3g c b).filter (fun n=>tms l n==0)
theorem g7v {c:Circ} {b:Int} {ids v:List Int} {m:List MapI} {l:List Int} (hm:∀n,a4v MapI.key MapI.val m n=tms l n) (hv:v.length≤1000) :
 c4 c5f (b,ids,v,(v.length:Int),0,c,m,([]:List Int),())=some (b,ids,c,m,v.filter (fun n=>tms l n==0),()):=by
 have h:=m0 (step:=c5f) (fun i (s:List Int)=>s.length≤i) (fun i s=>(b,ids,v,(v.length:Int),(i:Int),c,m,s,())) v (fun _ x s=>.inl (bif tms l x==0 then s++[(fun x=>x) x] else s)) (fun s=>(b,ids,c,m,s,())) (by rw[m5];omega)
  (fun s hs=>by simp only[c5f,dge,yaa])
  (fun i x s hx hs=>by
   have hi:=(zL hx)
   have hlim:decide (s.length+([x]:List Int).length≤LIM)=true:=by rw[a3h,yae];simp only[yaB,yaS];omega
   constructor
   ·simp only[c5f,dlt hi,d8,hx,yac,hm,g9 (show i<9223372036854775807 by omega),hlim];cases tms l x==0<;>rfl
   ·intro s' e;injection e with e;subst e;cases tms l x==0<;>simp<;>omega) [] (ybt _)
 rw[show c4 c5f (b,ids,v,(v.length:Int),0,c,m,([]:List Int),())=_ from h,a65];simp only[ya7,List.map_id']
def fnd (c:Circ) (b n:Int):Bool:=(itm c n).2&&(!kn b||!a8e b (itm c n).1)
def dup (l:List Int) (n:Int):Bool:=decide (1<tms l n)
def g9k (c:Circ) (b:Int) (l:List Int) (x:Int) (s:List Int×List Int×List Int):List Int×List Int×List Int:=
 (bif !(itm c x).2 then s.1++[x] else s.1,bif fnd c b x then s.2.1++[x] else s.2.1,bif dup l x then s.2.2++[x] else s.2.2)
theorem e6e {c:Circ} {b:Int} {l:List Int}:∀(v:List Int) (s:List Int×List Int×List Int),v.foldl (fun s x=>g9k c b l x s) s=(s.1++v.filter (fun n=>!(itm c n).2),s.2.1++v.filter (fnd c b),s.2.2++v.filter (dup l)):=by
 intro v
 induction v with
 |nil=>intro s;simp
 |cons x v ih=>
  intro s;rw[ybj,ih];simp only[g9k,ybh];cases (itm c x).2<;>cases fnd c b x<;>cases dup l x<;>simp
theorem d5h {c:Circ} {b:Int} {v:List Int} {m:List MapI} {l a:List Int} (hm:∀n,a4v MapI.key MapI.val m n=tms l n) (hv:v.length≤1000) (hc:c.Items.length<1000000000) :
 c4 a9u (b,v,(v.length:Int),0,c,m,a,([]:List Int),([]:List Int),([]:List Int),())=some (a,v.filter (fun n=>!(itm c n).2),v.filter (fnd c b),v.filter (dup l),()):=by
 have h:=m0 (step:=a9u) (fun i (s:List Int×List Int×List Int)=>s.1.length≤i∧s.2.1.length≤i∧s.2.2.length≤i) (fun i s=>(b,v,(v.length:Int),(i:Int),c,m,a,s.1,s.2.1,s.2.2,())) v (fun _ x s=>.inl (g9k c b l x s)) (fun s=>(a,s.1,s.2.1,s.2.2,())) (by rw[m5];omega)
  (fun s hs=>by simp only[a9u,dge,yaa])
  (fun i x s hx hs=>by
   have hi:=(zL hx)
   obtain ⟨h1,h2,h3⟩:=hs;obtain ⟨U,F,T⟩:=s;simp only at h1 h2 h3;have l1:decide (U.length+([x]:List Int).length≤LIM)=true:=by rw[a3h,yae];simp only[yaB,yaS];omega
   have l2:decide (F.length+([x]:List Int).length≤LIM)=true:=by rw[a3h,yae];simp only[yaB,yaS];omega
   have l3:decide (T.length+([x]:List Int).length≤LIM)=true:=by rw[a3h,yae];simp only[yaB,yaS];omega
   constructor
   ·simp -zeta only[a9u,dlt hi,d8,hx,yac,hm,f3g hc,d9z,d9w,g9 (show i<9223372036854775807 by omega),l1,l2,l3,a06];simp only[g9k,fnd,dup];rcases itm c x with ⟨y,is⟩;cases is<;>cases kn b<;>cases a8e b y<;>cases decide (1<tms l x)<;>rfl
   ·intro s' e;injection e with e;subst e;simp only[g9k];refine ⟨?_,?_,?_⟩
    ·cases !(itm c x).2<;>simp<;>omega
    ·cases fnd c b x<;>simp<;>omega
    ·cases dup l x<;>simp<;>omega) ([],[],[]) ⟨ybt _,ybt _,ybt _⟩
 rw[show c4 a9u (b,v,(v.length:Int),0,c,m,a,([]:List Int),([]:List Int),([]:List Int),())=_ from h,a1i,e6e];simp only[ya7]
theorem b90 {v:List Int} {s0:List Problem} {xa xb xc xd:List Int} (hv:v.length≤1000) (hs0:s0.length≤100000) :
 c4 qe7 ((v.length:Int),0,s0,xa,xb,xc,xd,v,())=some (s0++v.map (pr 0),xa,xb,xc,xd,()):=by
 have h:=m0 (step:=qe7) (fun i (s:List Problem)=>s.length≤s0.length+i) (fun i s=>((v.length:Int),(i:Int),s,xa,xb,xc,xd,v,())) v (fun _ x s=>.inl (s++[pr 0 x])) (fun s=>(s,xa,xb,xc,xd,())) (by rw[m5];omega)
  (fun s hs=>by simp only[qe7,dge,yaa])
  (fun i x s hx hs=>by
   have hi:=(zL hx)
   have hlim:decide (s.length+([(⟨0,x,[],0⟩:Problem)]:List Problem).length≤LIM)=true:=by rw[a3h,yae];simp only[yaB,yaS];omega
   constructor
   ·simp only[qe7,dlt hi,d8,hx,yac,yaK,g9 (show i<9223372036854775807 by omega),hlim];rfl
   ·intro s' e;injection e with e;subst e;simp;omega) s0 (yat _)
 rw[show c4 qe7 ((v.length:Int),0,s0,xa,xb,xc,xd,v,())=_ from h,a6s]
theorem b91 {v:List Int} {s0:List Problem} {xa xb xc:List Int} (hv:v.length≤1000) (hs0:s0.length≤100000) :
 c4 qe6 ((v.length:Int),0,s0,xa,xb,xc,v,())=some (s0++v.map (pr 1),xa,xb,xc,()):=by
 have h:=m0 (step:=qe6) (fun i (s:List Problem)=>s.length≤s0.length+i) (fun i s=>((v.length:Int),(i:Int),s,xa,xb,xc,v,())) v (fun _ x s=>.inl (s++[pr 1 x])) (fun s=>(s,xa,xb,xc,())) (by rw[m5];omega)
  (fun s hs=>by simp only[qe6,dge,yaa])
  (fun i x s hx hs=>by
   have hi:=(zL hx)
   have hlim:decide (s.length+([(⟨1,x,[],0⟩:Problem)]:List Problem).length≤LIM)=true:=by rw[a3h,yae];simp only[yaB,yaS];omega
   constructor
   ·simp only[qe6,dlt hi,d8,hx,yac,yaK,g9 (show i<9223372036854775807 by omega),hlim];rfl
   ·intro s' e;injection e with e;subst e;simp;omega) s0 (yat _)
 rw[show c4 qe6 ((v.length:Int),0,s0,xa,xb,xc,v,())=_ from h,a6s]
theorem b92 {v:List Int} {s0:List Problem} {xa xb:List Int} (hv:v.length≤1000) (hs0:s0.length≤100000) :
 c4 qe5 ((v.length:Int),0,s0,xa,xb,v,())=some (s0++v.map (pr 2),xa,xb,()):=by
 have h:=m0 (step:=qe5) (fun i (s:List Problem)=>s.length≤s0.length+i) (fun i s=>((v.length:Int),(i:Int),s,xa,xb,v,())) v (fun _ x s=>.inl (s++[pr 2 x])) (fun s=>(s,xa,xb,())) (by rw[m5];omega)
  (fun s hs=>by simp only[qe5,dge,yaa])
  (fun i x s hx hs=>by
   have hi:=(zL hx)
   have hlim:decide (s.length+([(⟨2,x,[],0⟩:Problem)]:List Problem).length≤LIM)=true:=by rw[a3h,yae];simp only[yaB,yaS];omega
   constructor
   ·simp only[qe5,dlt hi,d8,hx,yac,yaK,g9 (show i<9223372036854775807 by omega),hlim];rfl
   ·intro s' e;injection e with e;subst e;simp;omega) s0 (yat _)
 rw[show c4 qe5 ((v.length:Int),0,s0,xa,xb,v,())=_ from h,a6s]
theorem b93 {v:List Int} {s0:List Problem} {xa:List Int} (hv:v.length≤1000) (hs0:s0.length≤100000) :
 c4 qe4 ((v.length:Int),0,s0,xa,v,())=some (s0++v.map (pr 3),xa,()):=by
 have h:=m0 (step:=qe4) (fun i (s:List Problem)=>s.length≤s0.length+i) (fun i s=>((v.length:Int),(i:Int),s,xa,v,())) v (fun _ x s=>.inl (s++[pr 3 x])) (fun s=>(s,xa,())) (by rw[m5];omega)
  (fun s hs=>by simp only[qe4,dge,yaa])
  (fun i x s hx hs=>by
   have hi:=(zL hx)
   have hlim:decide (s.length+([(⟨3,x,[],0⟩:Problem)]:List Problem).length≤LIM)=true:=by rw[a3h,yae];simp only[yaB,yaS];omega
   constructor
   ·simp only[qe4,dlt hi,d8,hx,yac,yaK,g9 (show i<9223372036854775807 by omega),hlim];rfl
   ·intro s' e;injection e with e;subst e;simp;omega) s0 (yat _)
 rw[show c4 qe4 ((v.length:Int),0,s0,xa,v,())=_ from h,a6s]
theorem b94 {v:List Int} {s0:List Problem} (hv:v.length≤1000) (hs0:s0.length≤100000) :
 c4 qe3 ((v.length:Int),0,s0,v,())=some (s0++v.map (pr 4),()):=by
 have h:=m0 (step:=qe3) (fun i (s:List Problem)=>s.length≤s0.length+i) (fun i s=>((v.length:Int),(i:Int),s,v,())) v (fun _ x s=>.inl (s++[pr 4 x])) (fun s=>(s,())) (by rw[m5];omega)
  (fun s hs=>by simp only[qe3,dge,yaa])
  (fun i x s hx hs=>by
   have hi:=(zL hx)
   have hlim:decide (s.length+([(⟨4,x,[],0⟩:Problem)]:List Problem).length≤LIM)=true:=by rw[a3h,yae];simp only[yaB,yaS];omega
   constructor
   ·simp only[qe3,dlt hi,d8,hx,yac,yaK,g9 (show i<9223372036854775807 by omega),hlim];rfl
   ·intro s' e;injection e with e;subst e;simp;omega) s0 (yat _)
 rw[show c4 qe3 ((v.length:Int),0,s0,v,())=_ from h,a6s]
def b9z (c:Circ) (b:Int) (l:List Int):List Problem:=
 (cs (bif kn b then b8x c b l else [])).map (pr 1)++((cs l).filter (fnd c b)).map (pr 2)++((cs l).filter (fun n=>!(itm c n).2)).map (pr 3)++((cs l).filter (dup l)).map (pr 4)
theorem a6t {l:List Int} (h:l.Pairwise (fun a b=>a<b)) (p:Int→Bool):(l.filter p).Pairwise (fun a b=>a<b):=h.sublist (List.filter_sublist ..)
theorem h3b {c:Circ} {b:Int} {l:List Int} (hc:c.Items.length≤10) (hl:l.length≤60):qa c b l=some (b9z c b l):=by
 obtain ⟨m,hcnt,hm⟩:=g98 (l:=l) (by omega);have hids:=b4r l;have hex:=c7v c b;have hmiss:(b8x c b l).length≤10:=ya6 (yaw _ _) (by omega);have hU:=yaw (fun n=>!(itm c n).2) (cs l);have hF:=yaw (fnd c b) (cs l);have hT:=yaw (dup l) (cs l);have aU:=a7n (a6t (b1b l) (fun n=>!(itm c n).2));have aF:=a7n (a6t (b1b l) (fnd c b));have aT:=a7n (a6t (b1b l) (dup l));have hM:=b4r (b8x c b l);unfold qa b9z;rw[hcnt];simp only[d9z];have z0:qbc ([]:List Int)=some (([]:List Int).mergeSort fun x y=>decide (x≤y)):=a5n (by simp);have z1:qba ([]:List Int)=some []:=by
  have:=a5l (l:=[]) (by simp);rw[show (([]:List Int).mergeSort fun x y=>decide (x≤y))=[] by simp]at this;rw[this,a7n (l:=[]) List.Pairwise.nil]
 generalize hgU:(cs l).filter (fun n=>!(itm c n).2)=U at *;generalize hgF:(cs l).filter (fnd c b)=F at *;generalize hgT:(cs l).filter (dup l)=T at *;have q:∀(A:List Int),A.length≤10→A.length≤60:=fun A h=>by omega
 cases hk:kn b with
 |true=>
  simp only[yac,g9x (show c.Items.length<1000000000 by omega)];rw[g7v hm (show (e3g c b).length≤1000 by omega)];simp only;rw[d5h hm (show (cs l).length≤1000 by omega) (show c.Items.length<1000000000 by omega),hgU,hgF,hgT];simp only[z0,z1];rw[show c4 qe7 _=_ from b90 (v:=[]) (s0:=[]) (xa:=(e3g c b).filter (fun n=>tms l n==0)) (xb:=U) (xc:=F) (xd:=T) (by simp) (by simp)];simp only[ya7,ybY];show (match qbc (b8x c b l) with|some l45=>_|none=>none)=_
  rw[a5n (show (b8x c b l).length<1000000000 by omega)];simp only[a5l (show (b8x c b l).length<1000000000 by omega)];rw[b91 (show (cs (b8x c b l)).length≤1000 by omega) (by simp)];simp only[ya7];rw[a5n (show F.length<1000000000 by omega)];simp only[a5l (show F.length<1000000000 by omega),aF];rw[b92 (show F.length≤1000 by omega) (by rw[yaU];omega)];simp only;rw[a5n (show U.length<1000000000 by omega)];simp only[a5l (show U.length<1000000000 by omega),aU];rw[b93 (show U.length≤1000 by omega) (by simp only[yaM,yaU];omega)];simp only;rw[a5n (show T.length<1000000000 by omega)];simp only[a5l (show T.length<1000000000 by omega),aT];rw[b94 (show T.length≤1000 by omega) (by simp only[yaM,yaU];omega)]
 |false=>
  simp only[yaa];rw[d5h hm (show (cs l).length≤1000 by omega) (show c.Items.length<1000000000 by omega),hgU,hgF,hgT];simp only[z0,z1];rw[show c4 qe7 _=_ from b90 (v:=[]) (s0:=[]) (xa:=[]) (xb:=U) (xc:=F) (xd:=T) (by simp) (by simp)];simp only[ya7,ybY,z0];rw[show qba (([]:List Int).mergeSort fun x y=>decide (x≤y))=some [] by rw[show (([]:List Int).mergeSort fun x y=>decide (x≤y))=[] by simp];exact z1];simp only;rw[show c4 qe6 _=_ from b91 (v:=[]) (s0:=[]) (xa:=U) (xb:=F) (xc:=T) (by simp) (by simp)];simp only[ya7,ybY];rw[a5n (show F.length<1000000000 by omega)];simp only[a5l (show F.length<1000000000 by omega),aF];rw[b92 (show F.length≤1000 by omega) (by simp)];simp only;rw[a5n (show U.length<1000000000 by omega)];simp only[a5l (show U.length<1000000000 by omega),aU];rw[b93 (show U.length≤1000 by omega) (by simp only[yaM,yaU,yaS];omega)];simp only;rw[a5n (show T.length<1000000000 by omega)];simp only[a5l (show T.length<1000000000 by omega),aT];rw[b94 (show T.length≤1000 by omega) (by simp only[yaM,yaU,yaS];omega)];rw[a7n (l:=[]) List.Pairwise.nil];rfl
end
section
open Go (IntKind Lit)
def d3u (a x best:Int):Int:=bif decide (a<x)&&(best==0||decide (x<best)) then x else best
def lst (l:List Int) (a:Int):Int:=l.foldl (fun s x=>d3u a x s) 0
theorem f3j {l:List Int} (hl:l.length<100000000) (a:Int):qaz l a=some (lst l a):=by
 have h:=a7w (step:=b51) (fun i s=>(l,a,s,(i:Int),())) l (d3u a) (fun s=>(s,())) (by omega)
  (fun s=>by simp only[b51,dge,yaa])
  (fun i x s hx=>by
   have hi:=(zL hx)
   simp only[b51,dlt hi,d8,hx,yac,g9 (show i<9223372036854775807 by omega),d3u];cases decide (a<x)<;>cases s==0<;>cases decide (x<s)<;>rfl) 0
 unfold qaz;rw[show c4 b51 (l,a,0,0,())=_ from h];rfl
theorem e8h {a:Int} (ha:0≤a):∀(l:List Int) (best:Int),(∀x∈l,1≤x)→(best=0∨a<best)→
 (l.foldl (fun s x=>d3u a x s) best=best∧∀y∈l,a<y→best≠0∧best≤y)∨
 (l.foldl (fun s x=>d3u a x s) best∈l∧a<l.foldl (fun s x=>d3u a x s) best∧(best=0∨l.foldl (fun s x=>d3u a x s) best<best)∧∀y∈l,a<y→l.foldl (fun s x=>d3u a x s) best≤y):=by
 intro l
 induction l with
 |nil=>intro best _ _;exact .inl ⟨rfl,fun y hy=>by cases hy⟩
 |cons x l ih=>
  intro best hp hb;have hx:=hp x (yaD ..);have hp':∀y∈l,1≤y:=fun y hy=>hp y (yaP _ hy)
  simp only[ybj];by_cases hc:a<x∧(best=0∨x<best)
  ·have e:d3u a x best=x:=by
    unfold d3u;rw[show (decide (a<x)&&(best==0||decide (x<best)))=true by simp only[yad,yba,yae,ybb];exact hc,yac]
   rw[e];rcases ih x hp' (.inr hc.1) with ⟨h1,h2⟩|⟨h1,h2,h3,h4⟩
   ·rw[h1];refine .inr ⟨yaD ..,hc.1,hc.2,fun y hy hay=>?_⟩;rcases yaC.1 hy with e|hy
    ·omega
    ·exact (h2 y hy hay).2
   ·refine .inr ⟨yaP _ h1,h2,?_,fun y hy hay=>?_⟩
    ·rcases hc.2 with e|e
     ·exact .inl e
     ·rcases h3 with h3|h3
      ·omega
      ·exact .inr (by omega)
    ·rcases yaC.1 hy with e|hy
     ·rcases h3 with h3|h3<;>omega
     ·exact h4 y hy hay
  ·have e:d3u a x best=best:=by
    unfold d3u;rw[show (decide (a<x)&&(best==0||decide (x<best)))=false by
     rw[Bool.eq_false_iff];intro h;simp only[yad,yba,yae,ybb]at h;exact hc h,yaa]
   rw[e];have hxy:a<x→best≠0∧best≤x:=fun h=>by
    constructor
    ·intro e;exact hc ⟨h,.inl e⟩
    ·by_cases h2:x<best
     ·exact absurd ⟨h,.inr h2⟩ hc
     ·omega
   rcases ih best hp' hb with ⟨h1,h2⟩|⟨h1,h2,h3,h4⟩
   ·refine .inl ⟨h1,fun y hy hay=>?_⟩;rcases yaC.1 hy with e|hy
    ·subst e;exact hxy hay
    ·exact h2 y hy hay
   ·refine .inr ⟨yaP _ h1,h2,h3,fun y hy hay=>?_⟩;rcases yaC.1 hy with e|hy
    ·subst e;have:=hxy hay;rcases h3 with h3|h3<;>omega
    ·exact h4 y hy hay
theorem e8i {l:List Int} {a:Int} (ha:0≤a) (hp:∀x∈l,1≤x):(lst l a=0∧∀y∈l,¬a<y)∨(lst l a∈l∧a<lst l a∧∀y∈l,a<y→lst l a≤y):=by
 rcases e8h ha l 0 hp (.inl rfl) with ⟨h1,h2⟩|⟨h1,h2,h3,h4⟩
 ·exact .inl ⟨h1,fun y hy hay=>(h2 y hy hay).1 rfl⟩
 ·exact .inr ⟨h1,h2,h4⟩
def nth (l:List Int) (i:Nat):Int:=(l[i]?).getD 0
theorem d4s:∀{l:List Int},l.Pairwise (fun a b=>a<b)→∀{i j:Nat} {x y:Int},l[i]?=some x→l[j]?=some y→i<j→x<y:=by
 intro l h i j x y hx hy hij;rw[ya1]at h;obtain ⟨h1,e1⟩:=yaE.1 hx;obtain ⟨h2,e2⟩:=yaE.1 hy;have:=h i j h1 h2 hij;omega
theorem c9z {l:List Int} (hp:∀x∈l,1≤x) {a:Int} (ha:0≤a) {k:Nat} (h1:∀(j:Nat) y,(cs l)[j]?=some y→j<k→y≤a) (h2:∀(j:Nat) y,(cs l)[j]?=some y→k≤j→a<y):lst l a=nth (cs l) k:=by
 rcases e8i ha hp with ⟨e1,e2⟩|⟨e1,e2,e3⟩
 ·rw[e1];unfold nth;cases hk:(cs l)[k]? with
  |none=>rfl
  |some y=>exact absurd (h2 k y hk (yat _)) (e2 y ((b1c l y).1 (yaf hk)))
 ·obtain ⟨j,hj⟩:=yaI ((b1c l _).2 e1);have hkj:k≤j:=by
   rcases ybG j k with h|h
   ·have:=h1 j _ hj h;omega
   ·exact h
  have hlt:k<(cs l).length:=Nat.lt_of_le_of_lt hkj (zL hj);have hk:=yab hlt;unfold nth;rw[hk,Option.getD_some];have e4:=e3 _ ((b1c l _).1 (yaf hk)) (h2 k _ hk (yat _));rcases ybG k j with h|h
  ·have:=d4s (b1b l) hk hj h;omega
  ·have:j=k:=by omega
   subst this;rw[hk]at hj;exact (ybD hj).symm
theorem e8k {l:List Int} (hp:∀x∈l,1≤x):lst l 0=nth (cs l) 0:=
 c9z hp (Int.le_refl 0) (fun j y _ h=>absurd h (Nat.not_lt_zero _)) (fun j y h _=>by have:=hp y ((b1c l y).1 (yaf h));omega)
theorem e8j {l:List Int} (hp:∀x∈l,1≤x) {i:Nat} {x:Int} (hx:(cs l)[i]?=some x):lst l x=nth (cs l) (i+1):=by
 have h0:=hp x ((b1c l x).1 (yaf hx));refine c9z hp (by omega) (fun j y hy h=>?_) (fun j y hy h=>d4s (b1b l) hx hy (by omega));rcases ybG j i with h'|h'
 ·have:=d4s (b1b l) hy hx h';omega
 ·have:j=i:=by omega
  subst this;rw[hx]at hy;cases hy;exact Int.le_refl _
def pk (c:Circ) (b:Int) (l:List Int) (kind n:Int):Bool:=((kind==2&&(itm c n).2)&&!a8e b (itm c n).1)||(kind==3&&!(itm c n).2)||(kind==4&&decide (1<tms l n))
theorem g20 {c:Circ} {b:Int} {l:List Int} (hp:∀x∈l,1≤x) (hl:l.length≤60) (hc:c.Items.length<1000000000) (kind:Int) {s0:List Problem} (hs0:s0.length≤100000) :
 c4 b6a (b,l,kind,lst l 0,c,s0,())=some (b,l,kind,c,s0++((cs l).filter (pk c b l kind)).map (pr kind),()):=by
 have hcl:=b4r l;have h:=m0 (step:=b6a) (fun i (s:List Problem)=>s.length≤s0.length+i) (fun i s=>(b,l,kind,nth (cs l) i,c,s,())) (cs l) (fun _ x s=>.inl (bif pk c b l kind x then s++[pr kind x] else s)) (fun s=>(b,l,kind,c,s,())) (by rw[m5];omega)
  (fun s hs=>by
   have e:nth (cs l) (cs l).length=0:=by unfold nth;rw[List.getElem?_eq_none (yat _)];rfl
   rw[e];rfl)
  (fun i x s hx hs=>by
   have hi:=(zL hx)
   have e:nth (cs l) i=x:=by unfold nth;rw[hx];rfl
   have h0:=hp x ((b1c l x).1 (yaf hx));have e0:(!(x==0))=true:=by rw[yas,yaZ];omega
   have hlim:decide (s.length+([(⟨kind,x,[],0⟩:Problem)]:List Problem).length≤LIM)=true:=by rw[a3h,yae];simp only[yaB,yaS];omega
   constructor
   ·rw[e];simp -zeta only[b6a,e0,yac,f3h hc,d91,f3b (show l.length<100000000 by omega),f3j (show l.length<100000000 by omega),e8j hp hx,hlim];simp only[pk,pr];rcases itm c x with ⟨y,is⟩;cases kind==2<;>cases kind==3<;>cases kind==4<;>cases is<;>cases a8e b y<;>cases decide (1<tms l x)<;>rfl
   ·intro s' e;injection e with e;subst e;cases pk c b l kind x<;>simp<;>omega) s0 (yat _)
 rw[e8k hp,show c4 b6a (b,l,kind,nth (cs l) 0,c,s0,())=_ from h,a65]
def f4m (c:Circ) (b:Int) (l:List Int):List Problem:=(c.Items.filter (fun x=>a8e b x&&(tms l x.ID==0))).map (fun x=>pr 1 x.ID)
theorem h1i {c:Circ} {b:Int} {l:List Int} (hl:l.length≤60) (hc:c.Items.length≤10):c4 c5q (b,l,0,c,([]:List Problem),())=some (b,l,c,f4m c b l,()):=by
 have h:=m0 (step:=c5q) (fun i (s:List Problem)=>s.length≤i) (fun i s=>(b,l,(i:Int),c,s,())) c.Items (fun _ x s=>.inl (bif a8e b x&&(tms l x.ID==0) then s++[pr 1 x.ID] else s)) (fun s=>(b,l,c,s,())) (by rw[m5];omega)
  (fun s hs=>by simp only[c5q,dge,yaa])
  (fun i x s hx hs=>by
   have hi:=(zL hx)
   have hlim:decide (s.length+([(⟨1,x.ID,[],0⟩:Problem)]:List Problem).length≤LIM)=true:=by rw[a3h,yae];simp only[yaB,yaS];omega
   constructor
   ·simp -zeta only[c5q,dlt hi,d8,hx,yac,d91,f3b (show l.length<100000000 by omega),g9 (show i<9223372036854775807 by omega),hlim];simp only[pr];cases a8e b x<;>cases tms l x.ID==0<;>rfl
   ·intro s' e;injection e with e;subst e;cases a8e b x&&(tms l x.ID==0)<;>simp<;>omega) [] (ybt _)
 rw[show c4 c5q (b,l,0,c,([]:List Problem),())=_ from h,a65];rfl
theorem h3h {c:Circ} {b:Int} {l:List Int} (hp:∀x∈l,1≤x) (hc:c.Items.length≤10) (hl:l.length≤60) :
 qm c b l=some (f4m c b l++((cs l).filter (pk c b l 2)).map (pr 2)++((cs l).filter (pk c b l 3)).map (pr 3)++((cs l).filter (pk c b l 4)).map (pr 4)):=by
 have hcl:=b4r l;have hM:(f4m c b l).length≤10:=by unfold f4m;rw[yaU];exact ya6 (yaw _ _) hc
 have h2:=yaw (pk c b l 2) (cs l);have h3:=yaw (pk c b l 3) (cs l);have st:∀(k:Int) (s0:List Problem),k≤4→2≤k→s0.length≤100000→d98 (b,l,k,c,s0,())=some (.inl (b,l,k+1,c,s0++((cs l).filter (pk c b l k)).map (pr k),())):=fun k s0 hk hk2 hs=>by
  simp only[d98,show decide (k≤4)=true by rw[yae];exact hk,yac,f3j (show l.length<100000000 by omega)];rw[g20 hp hl (show c.Items.length<1000000000 by omega) k hs];simp only[a0x (show -9223372036854775808≤k+1 by omega) (by omega)]
 have hw:c4 d98 (b,l,2,c,f4m c b l,())=some (f4m c b l++((cs l).filter (pk c b l 2)).map (pr 2)++((cs l).filter (pk c b l 3)).map (pr 3)++((cs l).filter (pk c b l 4)).map (pr 4),()):=by
  refine o6 4 (by rw[m5];omega) ?_;rw[o4,st 2 _ (by omega) (by omega) (by omega)];simp only;rw[o4,show (2:Int)+1=3 from rfl,st 3 _ (by omega) (by omega) (by simp only[yaM,yaU];omega)];simp only;rw[o4,show (3:Int)+1=4 from rfl,st 4 _ (by omega) (by omega) (by simp only[yaM,yaU];omega)];simp only;rw[o4];rfl
 unfold qm;rw[h1i hl hc];simp only;rw[hw]
structure InvS (c:Circ):Prop where
 br:∀x∈c.Items,1≤x.Custody.Branch∧x.Custody.Branch≤4
 asc:(c.Items.map (·.ID)).Pairwise (fun a b=>a<b)
theorem h4e {c:Circ} (h:FitP c):InvS c:=by
 refine ⟨fun x hx=>?_,?_⟩
 ·have:=b40 h hx;unfold rng at this;simp only[yad,yae]at this;exact this
 ·rw[ya1];intro i j hi hj hij;rw[yaU]at hi hj;have:=a1v (key:=fun y:Item=>y.ID) (a2e h.items) j i c.Items[i] c.Items[j] hij (yab hi) (yab hj);simpa using this
theorem InvS.exp {c:Circ} (h:InvS c) {b:Int} (hk:kn b=false) {x:Item} (hx:x∈c.Items):a8e b x=false:=by
 have:=h.br x hx;unfold a8e;cases hb:x.Custody.Branch==b with
 |false=>rfl
 |true=>
  have e:x.Custody.Branch=b:=by simpa using hb
  unfold kn at hk;rw[ybc]at hk;simp only[yag]at hk;omega
theorem d7w {c:Circ} {n:Int} (h:(itm c n).2=true):(itm c n).1∈c.Items∧(itm c n).1.ID=n:=by
 unfold itm at h ⊢;cases hf:c.Items.find? (fun x=>x.ID==n) with
 |none=>rw[hf]at h;cases h
 |some x=>
  have:=ybE hf;exact ⟨ybf hf,by simpa using this⟩
theorem g2z (c:Circ) (b:Int) (l:List Int):f4m c b l=(b8x c b l).map (pr 1):=by
 unfold f4m b8x e3g;rw[List.filter_map,ybW,List.map_map];congr 1;congr 1;funext x;exact Bool.and_comm _ _
theorem g15 {c:Circ} (h:InvS c) (b:Int) (l:List Int):cs (bif kn b then b8x c b l else [])=b8x c b l:=by
 have ha:(b8x c b l).Pairwise (fun a b=>a<b):=by
  unfold b8x e3g;exact a6t (h.asc.sublist ((List.filter_sublist (l:=c.Items)).map (·.ID))) _
 cases hk:kn b with
 |true=>rw[yac,a7n ha]
 |false=>
  rw[yaa];have:b8x c b l=[]:=by
   unfold b8x e3g;have e:c.Items.filter (a8e b)=[]:=List.filter_eq_nil_iff.2 (fun x hx=>by rw[h.exp hk hx];simp);rw[e];rfl
  rw[this,a7n (l:=[]) List.Pairwise.nil]
theorem pk2 {c:Circ} (h:InvS c) (b:Int) (l:List Int):pk c b l 2=fnd c b:=by
 funext n;unfold pk fnd;have e:((2:Int)==3)=false:=rfl;have e2:((2:Int)==4)=false:=rfl;rw[e,e2,yai];simp only[yaQ,yaV,Bool.or_false];cases hi:(itm c n).2 with
 |false=>rfl
 |true=>
  cases hk:kn b with
  |true=>rfl
  |false=>rw[h.exp hk (d7w hi).1];rfl
theorem pk3 (c:Circ) (b:Int) (l:List Int):pk c b l 3=fun n=>!(itm c n).2:=by
 funext n;unfold pk;have e:((3:Int)==2)=false:=rfl;have e2:((3:Int)==4)=false:=rfl;rw[e,e2,yai];simp only[yaQ,yaV,Bool.or_false,ybu]
theorem pk4 (c:Circ) (b:Int) (l:List Int):pk c b l 4=dup l:=by
 funext n;unfold pk dup;have e:((4:Int)==2)=false:=rfl;have e2:((4:Int)==3)=false:=rfl;rw[e,e2,yai];simp only[yaQ,yaV,Bool.or_false,ybu]
theorem h01 {c:Circ} {b:Int} {l:List Int} (h:InvS c) (hp:∀x∈l,1≤x) (hc:c.Items.length≤10) (hl:l.length≤60):qm c b l=some (b9z c b l):=by
 rw[h3h hp hc hl,g2z,pk2 h,pk3,pk4];unfold b9z;rw[g15 h]
end
section
open Go (IntKind Lit)
theorem h0j (c:Circ) (l:List Int):qd1 c l=some ((b3p c&&a5c c)&&(decide ((l.length:Int)≤60)&&(g6l l==0))):=by
 unfold qd1;rw[h3c];cases hs:b3p c with
 |false=>rfl
 |true=>
  simp only[yac,h3a (f42 hs).short];cases hr:a5c c with
  |false=>rfl
  |true=>
   cases hl:decide ((l.length:Int)≤60) with
   |false=>rfl
   |true=>
    rw[yae]at hl;simp only[yac,g90 (show l.length<1000000000 by omega)];rfl
theorem e86 {l:List Int} (h:(g6l l==0)=true):∀x∈l,1≤x:=by
 rw[ybb]at h;unfold g6l at h;cases h1:decide (200<(l.length:Int)) with
 |true=>rw[h1]at h;cases h
 |false=>
  rw[h1,yaa]at h;cases h2:l.any f5d with
  |true=>rw[h2]at h;cases h
  |false=>
   intro x hx;rw[ybM]at h2;have:=h2 x hx;unfold f5d at this;simp only[yba,yae,not_or]at this;omega
theorem c7l {c:Circ} {b:Int} {l:List Int} (hc:c.Items.length≤10) (hl:l.length≤60):(b9z c b l).length≤190:=by
 have hids:=b4r l;have hex:=c7v c b;have hmiss:(b8x c b l).length≤10:=ya6 (yaw _ _) (by omega);have hU:=yaw (fun n=>!(itm c n).2) (cs l);have hF:=yaw (fnd c b) (cs l);have hT:=yaw (dup l) (cs l);have hM:=b4r (bif kn b then b8x c b l else []);have hM2:(bif kn b then b8x c b l else []).length≤10:=by cases kn b<;>simp<;>omega
 unfold b9z;simp only[yaM,yaU];omega
end
section
open Go (IntKind Lit)
def g6j (c:Custody):Prop:=1≤c.State∧c.State≤12
theorem e3u (k:Int):1≤w9 k∧w9 k≤12:=by
 unfold w9;simp only[Bool.cond_eq_ite]
 repeat' split
 all_goals omega
theorem d4q {c:Custody} {m:Move} (h:((o0 c m).2==0)=true):g6j (o0 c m).1:=by
 have ha:=e3u m.Kind;unfold o0 at h ⊢;cases e1:(!(a7s c)||!(a7t m)) with
 |true=>rw[e1]at h;cases h
 |false=>
  rw[e1]at h;simp only[yaa]at h ⊢;cases e2:!(a5x c.State m.Kind) with
  |true=>rw[e2]at h;cases h
  |false=>
   rw[e2]at h;simp only[yaa]at h ⊢;cases e3:(m.Kind==3&&c.State==5&&!(m.Who==c.Who)) with
   |true=>rw[e3]at h;cases h
   |false=>
    rw[e3]at h;simp only[yaa]at h ⊢;cases e4:!(b8g c m) with
    |true=>rw[e4]at h;cases h
    |false=>
     simp only[yaa];cases (w9 m.Kind==2) with
     |true=>exact ha
     |false=>
      simp only[yaa];cases (w9 m.Kind==4||(w9 m.Kind==5||w9 m.Kind==8)) with
      |true=>exact ha
      |false=>
       simp only[yaa];cases e5:(w9 m.Kind==6) with
       |true=>exact ha
       |false=>
        simp only[yaa];cases (w9 m.Kind==9||w9 m.Kind==10) with
        |true=>exact ha
        |false=>exact ha
theorem d28:∀{l:List Move} {i:Nat} {item:Int} {c d:Custody},g6j c→u6 i l item c=.inl d→g6j d:=by
 intro l
 induction l with
 |nil=>intro i item c d hc h;simp only[u6]at h;cases h;exact hc
 |cons x l ih=>
  intro i item c d hc h;simp only[u6]at h;cases e:x.Item==item with
  |false=>rw[e]at h;exact ih hc h
  |true=>
   rw[e]at h;simp only[yac]at h;cases e2:(o0 c x).2==0 with
   |true=>rw[e2]at h;exact ih (d4q e2) h
   |false=>rw[e2]at h;cases h
theorem c56 {c:Circ} {x:Item} (h:a07 c x=true):g6j x.Custody:=by
 unfold a07 at h;simp only[yas,yal,yaL,ybb]at h;obtain ⟨h1,h2⟩:=h;have e:=a1a.1 h2;rw[←e];unfold a0q at h1 ⊢;cases hb:(decide (x.Branch<1)||decide (4<x.Branch)) with
 |true=>rw[hb]at h1;cases h1
 |false=>
  rw[hb]at h1;simp only[yaa]at h1 ⊢;have hb2:g6j (b26 x.Branch):=⟨by show (1:Int)≤1;decide,by show (1:Int)≤12;decide⟩
  cases hr:u6 0 c.Moves x.ID (b26 x.Branch) with
  |inl d=>exact d28 hb2 hr
  |inr p=>
   rw[hr]at h1;exfalso;obtain ⟨i,e⟩:=p;simp only at h1;have key:∀(l:List Move) (i:Nat) (c:Custody) (p:Int×Int),u6 i l x.ID c=.inr p→p.2≠0:=by
    intro l
    induction l with
    |nil=>intro i c p h;simp only[u6]at h;cases h
    |cons y l ih=>
     intro i c p h;simp only[u6]at h;cases e:y.Item==x.ID with
     |false=>rw[e]at h;exact ih _ _ _ h
     |true=>
      rw[e]at h;simp only[yac]at h;cases e2:(o0 c y).2==0 with
      |true=>rw[e2]at h;exact ih _ _ _ h
      |false=>rw[e2]at h;cases h;simpa using e2
   exact key _ _ _ _ hr h1
theorem g89 {c:Circ} (h:FitP c) {x:Item} (hx:x∈c.Items):g6j x.Custody:=c56 (a6l h.items hx)
def e3b (a b:Option (Circ×Int)):Prop:=∃d e,a=some (d,e)∧b=some (d,e)∧(e=0→Inv d)∧Short d
theorem b2c {c:Circ} (I:Inv c) (item:Int):e3b (qc6 c item) (qdn c item):=by
 obtain ⟨d,e,h1,h2,h3⟩:=d19 I.mid (item:=item);exact ⟨d,e,h1,h2,fun q=>by subst q;have R:=e8g I.val I.mid h2;exact I.of R.val R.stp,h3⟩
theorem c2q {c:Circ} (I:Inv c) (item branch:Int):e3b (qb6 c item branch) (qeq c item branch):=by
 obtain ⟨d,e,h1,h2,h3⟩:=b8i I.mid (item:=item) (branch:=branch);exact ⟨d,e,h1,h2,fun q=>by subst q;have R:=c54 I.val I.mid h2;exact I.of R.val R.stp,h3⟩
def c3u (c:Circ) (item branch:Int):Option (Circ×Int):=match qew c item branch with
 |some (d,_,e)=>some (d,e)
 |none=>none
theorem b9c {c:Circ} (I:Inv c) (item branch:Int):e3b (qdb c item branch) (c3u c item branch):=by
 have hl:=(b13.1 I.val.loans).1;obtain ⟨d,n,e,h1,h2,h3⟩:=d0v I.mid I.fit (by omega) (item:=item) (branch:=branch);refine ⟨d,e,?_,?_,fun q=>by subst q;have R:=e34 I h2;exact I.of R.val R.stp,h3⟩
 ·unfold qdb;rw[h1]
 ·unfold c3u;rw[h2]
def lbR (c:Circ) (item branch:Int):Option (Circ×Int):=match qdn c item with
 |some (d,e)=>bif !(e==0) then some (o5,e) else c3u d item branch
 |none=>none
def g0q (c:Circ) (x:Item) (b:Int):Option (Circ×Int):=
 bif x.Custody.State==12 then some (c,0)
 else bif x.Custody.State==1 then qeq c x.ID b
 else bif ((((x.Custody.State==6&&!(x.Custody.To==b))||x.Custody.State==2)||x.Custody.State==3)||x.Custody.State==5)||x.Custody.State==7 then lbR c x.ID b
 else c3u c x.ID b
theorem h0s (c:Circ) (x:Item) (b:Int):qee c x b=g0q c x b:=by
 have eb:∀(d:Circ),(match qew d x.ID b with|some (r12,r13,r14)=>some (r12,r14)|none=>none)=c3u d x.ID b:=fun d=>rfl
 unfold qee g0q;cases x.Custody.State==12 with
 |true=>rfl
 |false=>
  cases x.Custody.State==1 with
  |true=>
   simp only[yaa,yac];rcases qeq c x.ID b with _|⟨d,e⟩<;>rfl
  |false=>
   simp only[yaa];cases x.Custody.State==6<;>cases x.Custody.To==b<;>cases x.Custody.State==2<;>cases x.Custody.State==3<;>cases x.Custody.State==5<;>cases x.Custody.State==7<;>rfl
theorem b6t:∀{o r:Option (Circ×Int)},e3b o r→e3b (match o with|some (r7,r8)=>some (r7,r8)|none=>none) r:=by
 intro o r h;rcases o with _|⟨d,e⟩<;>exact h
theorem g04 {c:Circ} (I:Inv c) (item b:Int):e3b (match qc6 c item with
 |some (r20,r21)=>bif !(r21==0) then some (ZN,r21) else (match qdb r20 item b with|some (r23,r24)=>some (r23,r24)|none=>none)
 |none=>none) (lbR c item b):=by
 obtain ⟨d,e,h1,h2,h3,h4⟩:=b2c I item;unfold lbR;rw[h1,h2];simp only;by_cases he:e=0
 ·subst he;simp only[yai,yam,yaa];exact b6t (b9c (h3 rfl) item b)
 ·rw[show (e==0)=false by simpa using he];exact ⟨o5,e,rfl,rfl,fun q=>absurd q he,a2f⟩
theorem b95 {c:Circ} (I:Inv c) {x:Item} (hx:x∈c.Items) (b:Int):e3b (qc0 c x b) (g0q c x b):=by
 obtain ⟨s1,s2⟩:=g89 I.fit hx;have lb:=g04 I x.ID b;have bk:=b6t (b9c I x.ID b);unfold qc0 g0q;have hs:x.Custody.State=1∨x.Custody.State=2∨x.Custody.State=3∨x.Custody.State=4∨x.Custody.State=5∨x.Custody.State=6∨x.Custody.State=7∨x.Custody.State=8∨x.Custody.State=9∨x.Custody.State=10∨x.Custody.State=11∨x.Custody.State=12:=by omega
 rcases hs with h|h|h|h|h|h|h|h|h|h|h|h<;>rw[h]
 ·exact b6t (c2q I x.ID b)
 ·exact lb
 ·exact lb
 ·exact bk
 ·exact lb
 ·cases ht:x.Custody.To==b with
  |true=>exact bk
  |false=>exact lb
 ·exact lb
 ·exact bk
 ·exact bk
 ·exact bk
 ·exact bk
 ·exact ⟨c,0,rfl,rfl,fun _=>I,I.short⟩
theorem g2c {c:Circ} (I:Inv c):qe c 0=some (-1):=by
 rcases a25 I.mid 0 with ⟨-,h,-⟩|⟨i,x,-,-,hx,h0,-⟩
 ·exact h
 ·have:=a1p I.val.items (yaf hx);omega
theorem b96 {c:Circ} (I:Inv c) (b:Int):e3b (qc0 c (⟨0,0,0,0,0,[],⟨0,0,0,0⟩⟩:Item) b) (g0q c (⟨0,0,0,0,0,[],⟨0,0,0,0⟩⟩:Item) b):=by
 have h0:=g2c I;have l:qdn c 0=some (o5,9):=by unfold qdn;rw[h0];rfl
 have k:c3u c 0 b=some (o5,9):=by unfold c3u qew;rw[h0];rfl
 obtain ⟨d,e,h1,h2,h3,h4⟩:=b2c I 0;rw[l]at h2;cases h2
 refine ⟨o5,9,?_,k,fun q=>(by cases q),a2f⟩;show (match qc6 c 0 with
  |some (r20,r21)=>bif !(r21==0) then some (ZN,r21) else (match qdb r20 0 b with|some (r23,r24)=>some (r23,r24)|none=>none)
  |none=>none)=_
 rw[h1];rfl
theorem d1k {c:Circ} (I:Inv c) (n b:Int):e3b (qc0 c (itm c n).1 b) (g0q c (itm c n).1 b):=by
 cases h:(itm c n).2 with
 |true=>exact b95 I (d7w h).1 b
 |false=>
  have e:(itm c n).1=(⟨0,0,0,0,0,[],⟨0,0,0,0⟩⟩:Item):=by
   unfold itm at h ⊢;cases hf:c.Items.find? (fun x=>x.ID==n) with
   |none=>rfl
   |some x=>rw[hf]at h;cases h
  rw[e];exact b96 I b
def h2j (b:Int) (p:Problem) (c:Circ):Option (Circ×Int):=
 bif p.Kind==1&&a8e b (itm c p.Index).1 then qdn c (itm c p.Index).1.ID
 else bif p.Kind==2&&!a8e b (itm c p.Index).1 then g0q c (itm c p.Index).1 b
 else some (c,0)
def h3q (b:Int) (p:Problem) (c:Circ):Option (Circ×Int):=
 bif p.Kind==1&&a8e b (itm c p.Index).1 then qc6 c (itm c p.Index).1.ID
 else bif p.Kind==2&&!a8e b (itm c p.Index).1 then qc0 c (itm c p.Index).1 b
 else some (c,0)
theorem b0n {c:Circ} (I:Inv c) (b:Int) (p:Problem):e3b (h3q b p c) (h2j b p c):=by
 unfold h3q h2j;cases p.Kind==1&&a8e b (itm c p.Index).1 with
 |true=>exact b2c I _
 |false=>
  cases p.Kind==2&&!a8e b (itm c p.Index).1 with
  |true=>exact d1k I _ b
  |false=>exact ⟨c,0,rfl,rfl,fun _=>I,I.short⟩
abbrev h2b:=(Circ×Circ×Unit)⊕(Int×Circ×Unit)
def e3k (b:Int) (p:Problem) (c:Circ):Circ⊕h2b:=match h2j b p c with
 |some (d,e)=>bif e==0 then .inl d else .inr (.inr (e,o5,()))
 |none=>.inl c
def g6m (b:Int) (ps:List Problem) (c:Circ):h2b:=a0w (fun _ p s=>e3k b p s) (fun s=>.inl (s,o5,())) 0 ps c
theorem d0d {c:Circ} (I:Inv c) {b:Int} {p:Problem} {d:Circ} (h:e3k b p c=.inl d):Inv d:=by
 obtain ⟨d',e,-,h2,h3,-⟩:=b0n I b p;unfold e3k at h;rw[h2]at h;simp only at h;by_cases he:e=0
 ·subst he;cases h;exact h3 rfl
 ·rw[show (e==0)=false by simpa using he]at h;cases h
theorem b7u {c:Circ} (I:Inv c) {b:Int} {ps:List Problem} (hp:ps.length≤1000):c4 b52 (b,ps,(ps.length:Int),0,c,o5,())=some (g6m b ps c):=by
 have h:=m0 (step:=b52) (fun _ s=>Inv s) (fun i s=>(b,ps,(ps.length:Int),(i:Int),s,o5,())) ps (fun _ p s=>e3k b p s) (fun s=>.inl (s,o5,())) (by rw[m5];omega)
  (fun s hs=>by simp only[b52,dge,yaa])
  (fun i p s hx hs=>by
   have hi:=(zL hx)
   refine ⟨?_,fun s' e=>d0d hs e⟩;have hsi:=hs.short.items;obtain ⟨d,e,h1,h2,h3,-⟩:=b0n hs b p;simp -zeta only[b52,dlt hi,d8,hx,yac,f3g hsi,d9w,g9 (show i<9223372036854775807 by omega)];unfold e3k;rw[h2];unfold h3q at h1;cases k1:p.Kind==1 with
   |true=>
    have k2:(p.Kind==2)=false:=by
     have:p.Kind=1:=by simpa using k1
     rw[this];rfl
    rw[k1,k2]at h1;rw[k2];cases hb:a8e b (itm s p.Index).1 with
    |true=>rw[hb]at h1;simp only[yac,yaa,yaQ,yaV,yam,yap]at h1 ⊢;rw[h1];simp only;cases e==0<;>rfl
    |false=>rw[hb]at h1;simp only[yac,yaa,yaQ,yaV,yam,yap]at h1 ⊢;cases h1;rfl
   |false=>
    rw[k1]at h1;cases k2:p.Kind==2 with
    |true=>
     rw[k2]at h1;cases hb:a8e b (itm s p.Index).1 with
     |true=>rw[hb]at h1;simp only[yac,yaa,yaQ,yaV,yam,yap]at h1 ⊢;cases h1;rfl
     |false=>rw[hb]at h1;simp only[yac,yaa,yaQ,yaV,yam,yap]at h1 ⊢;rw[h1];simp only;cases e==0<;>rfl
    |false=>rw[k2]at h1;simp only[yac,yaa,yaQ,yaV,yam,yap]at h1 ⊢;cases h1;rfl) c I
 exact h
theorem b8j {c:Circ} (I:Inv c) {b:Int} {ps:List Problem} (hp:ps.length≤1000) (hk:∀p∈ps,p.Kind≤4):c4 b53 (b,ps,0,c,o5,())=some (g6m b ps c):=by
 have h:=m0 (step:=b53) (fun _ s=>Inv s) (fun i s=>(b,ps,(i:Int),s,o5,())) ps (fun _ p s=>e3k b p s) (fun s=>.inl (s,o5,())) (by rw[m5];omega)
  (fun s hs=>by simp only[b53,dge,yaa])
  (fun i p s hx hs=>by
   have hi:=(zL hx)
   refine ⟨?_,fun s' e=>d0d hs e⟩;have hsi:=hs.short.items;obtain ⟨d,e,-,h2,h3,-⟩:=b0n hs b p;simp -zeta only[b53,dlt hi,d8,hx,yac,f3h hsi,d91,h0s,g9 (show i<9223372036854775807 by omega)];unfold e3k;rw[h2];unfold h2j at h2;cases k1:p.Kind==1 with
   |true=>
    have e1:p.Kind=1:=by simpa using k1
    have k2:(p.Kind==2)=false:=by rw[e1];rfl
    have k3:decide (2<p.Kind)=false:=by rw[e1];rfl
    rw[k1,k2]at h2;rw[k2,k3];cases hb:a8e b (itm s p.Index).1 with
    |true=>rw[hb]at h2;simp only[yac,yaa,yaQ,yaV,yam,yap]at h2 ⊢;rw[h2];simp only;cases e==0<;>rfl
    |false=>rw[hb]at h2;simp only[yac,yaa,yaQ,yaV,yam,yap]at h2 ⊢;cases h2;rfl
   |false=>
    rw[k1]at h2;cases k2:p.Kind==2 with
    |true=>
     have e1:p.Kind=2:=by simpa using k2
     have k3:decide (2<p.Kind)=false:=by rw[e1];rfl
     rw[k2]at h2;rw[k3];cases hb:a8e b (itm s p.Index).1 with
     |true=>rw[hb]at h2;simp only[yac,yaa,yaQ,yaV,yam,yap]at h2 ⊢;cases h2;rfl
     |false=>rw[hb]at h2;simp only[yac,yaa,yaQ,yaV,yam,yap]at h2 ⊢;rw[h2];simp only;cases e==0<;>rfl
    |false=>
     rw[k2]at h2;cases h2
     cases decide (2<p.Kind)<;>rfl) c I
 exact h
end
section
open Go (IntKind Lit)
theorem d5g {c:Circ} {b:Int} {l:List Int}:∀p∈b9z c b l,p.Kind≤4:=by
 intro p hp;unfold b9z at hp;simp only[yau,ybd]at hp;rcases hp with ((⟨n,-,rfl⟩|⟨n,-,rfl⟩)|⟨n,-,rfl⟩)|⟨n,-,rfl⟩
 ·show (1:Int)≤4;decide
 ·show (2:Int)≤4;decide
 ·show (3:Int)≤4;decide
 ·show (4:Int)≤4;decide
def e3l (b:Int) (ps:List Problem) (c:Circ):Circ×Int:=match g6m b ps c with
 |.inl (d,_)=>(d,0)
 |.inr (e,d,_)=>(d,e)
theorem h0b {c:Circ} (I:Inv c) {b:Int} {l:List Int} (hc:c.Items.length≤10) (hl:l.length≤60):qbb c b l=some (bif kn b then e3l b (b9z c b l) c else (o5,2)):=by
 have hp:=c7l (b:=b) hc hl;unfold qbb;simp only[d9z,h3b hc hl];have hw:=b7u I (b:=b) (ps:=b9z c b l) (by omega);unfold o5 at hw;rw[hw];unfold e3l;cases kn b with
 |false=>rfl
 |true=>rcases g6m b (b9z c b l) c with ⟨d,v,u⟩|⟨e,d,u⟩<;>rfl
theorem h0c {c:Circ} (I:Inv c) {b:Int} {l:List Int} (hp:∀x∈l,1≤x) (hc:c.Items.length≤10) (hl:l.length≤60):qbf c b l=some (bif kn b then e3l b (b9z c b l) c else (o5,2)):=by
 have hlen:=c7l (b:=b) hc hl;unfold qbf;simp -zeta only[a06];simp only[h01 (h4e I.fit) hp hc hl];have hw:=b8j I (b:=b) (ps:=b9z c b l) (by omega) d5g;unfold o5 at hw;rw[hw];have e:(decide (b<1)||decide (4<b))=!kn b:=by
  unfold kn;by_cases h1:b<1
  ·rw[decide_eq_true h1,ybX (show ¬1≤b by omega)];rfl
  ·rw[ybX h1,decide_eq_true (show 1≤b by omega)];by_cases h2:4<b
   ·rw[decide_eq_true h2,ybX (show ¬b≤4 by omega)];rfl
   ·rw[ybX h2,decide_eq_true (show b≤4 by omega)];rfl
 rw[e];unfold e3l;cases kn b with
 |false=>rfl
 |true=>rcases g6m b (b9z c b l) c with ⟨d,v,u⟩|⟨e,d,u⟩<;>rfl
theorem e9d {b:Int}:∀(ps:List Problem) (i:Nat) (c:Circ),Inv c→(∃d,a0w (fun (_:Nat) p s=>e3k b p s) (fun s=>(.inl (s,o5,()):h2b)) i ps c=.inl (d,o5,())∧Inv d)∨(∃e,a0w (fun (_:Nat) p s=>e3k b p s) (fun s=>(.inl (s,o5,()):h2b)) i ps c=.inr (e,o5,())∧e≠0):=by
 intro ps
 induction ps with
 |nil=>intro i c I;exact .inl ⟨c,rfl,I⟩
 |cons p ps ih=>
  intro i c I;obtain ⟨d,e,-,h2,h3,-⟩:=b0n I b p;simp only[a0w];unfold e3k;rw[h2];simp only;by_cases he:e=0
  ·subst he;exact ih (i+1) d (h3 rfl)
  ·rw[show (e==0)=false by simpa using he];exact .inr ⟨e,rfl,he⟩
theorem e9e {b:Int} {ps:List Problem} {c:Circ} (I:Inv c):Short (e3l b ps c).1∧((e3l b ps c).2=0→Inv (e3l b ps c).1):=by
 unfold e3l g6m;rcases e9d (b:=b) ps 0 c I with ⟨d,h1,h2⟩|⟨e,h1,h2⟩
 ·rw[h1];exact ⟨h2.short,fun _=>h2⟩
 ·rw[h1];exact ⟨a2f,fun q=>absurd q h2⟩
theorem a6q (c:Circ) (branch:Int) (l:List Int):qcz c branch l=some true:=by
 unfold qcz;simp only[qcs,h0j];cases hb:(b3p c&&a5c c)&&(decide ((l.length:Int)≤60)&&(g6l l==0)) with
 |false=>rfl
 |true=>
  rw[yad,yad,yad]at hb;obtain ⟨⟨h1,h2⟩,h3,h4⟩:=hb;rw[yae]at h3;have hs:=f42 h1;have hl:l.length≤60:=by omega
  have I:=e2q hs h2;have hv:=(e9e (b:=branch) (ps:=b9z c branch l) I).1;simp only[yam,yaa,yac,h0b I hs.items hl,h0c I (e86 h4) hs.items hl];have hsh:Short (bif kn branch then e3l branch (b9z c branch l) c else (o5,2)).1:=by
   cases kn branch with
   |true=>exact hv
   |false=>exact a2f
  generalize (bif kn branch then e3l branch (b9z c branch l) c else (o5,2))=r at hsh;obtain ⟨d,e⟩:=r;simp only at hsh ⊢;rw[g2t hsh];simp only[yac,yai]
end
end Go.Proofs.YteaknldbhmocpaaGreatDoor
