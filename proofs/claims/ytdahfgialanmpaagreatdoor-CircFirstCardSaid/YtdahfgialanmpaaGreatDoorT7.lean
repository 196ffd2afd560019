/- CircFirst: a part of the proof of the given statement, which is proved without conditions. -/
import Derived.Test.YtdahfgialanmpaaGreatDoorT6
set_option linter.all false
namespace Go.Proofs.YtdahfgialanmpaaGreatDoor
open Ev
open Go (IntKind)
theorem za1v {α:Type} (a b:Bool) (x y:α):(bif a then (bif b then x else y) else y)=bif a&&b then x else y:=by cases a<;>rfl
def okS (state u:Int):Bool:=(state==3&&rng 1 109572 u)||(state==2&&u==0)
def gotH (x:Hold) (item state u:Int):Hold:=⟨x.ID,x.Patron,x.Record,x.Item,x.Pickup,x.Placed,state,item,u,x.Asleep,x.Rank⟩
def zew (l:List Hold) (id item state u:Int):List Hold×Int:=
 match l.find? (fun h=>h.ID==id) with
 |none=>([],9)
 |some x=>bif !(rng 1 9999 item)||!(okS state u) then ([],1)
  else bif !(x.State==1)&&((!(x.State==2)||!(x.Got==item))||!(state==3)) then ([],12)
  else bif l.any (fun o=>o.Got==item&&!(o.ID==id)) then ([],7)
  else (l.set (fIdx (fun h=>h.ID==id) l).toNat (gotH x item state u),0)
theorem z0q {l:List Hold} (hl:l.length<1000000000):qdt l=some l:=by
 unfold qdt;rw[zi5 hl];rfl
theorem za23 {l:List Hold} {i:Nat} {x y:Hold} (hl:l.length<1000000000) (hx:l[i]?=some x):qe7 l (i:Int) y=some (l.set i y):=by
 unfold qe7
 simp only[z0q hl,zai,hx,Int.toNat_natCast]
theorem zaut (state u:Int):(!(okS state u))=(!(state==3&&rng 1 109572 u)&&(!(state==2)||!(u==0))):=by
 unfold okS
 cases (state==3&&rng 1 109572 u)<;>cases state==2<;>cases u==0<;>rfl
theorem zal2 {l:List Hold} {id item state u:Int} (hl:l.length<1000000000):qar l id item state u=some (zew l id item state u):=by
 unfold qar qbg zew
 rw[zzo (p:=fun (g:Unit×Int×Unit) x0=>qen x0 g.2.1) (g:=((),(id,()))) (fun x=>x.ID==id) hl (fun x _=>rfl)]
 have hc:=zau9 (p:=fun (g:Unit×Int×Int×Unit) x0=>qcv x0 g.2.1 g.2.2.1) (g:=((),(item,id,()))) (fun o=>o.Got==item&&!(o.ID==id)) hl (fun o _=>by
  simp -zeta only[qcv,za7];rfl)
 rcases zbb (fun x:Hold=>x.ID==id) l with ⟨h1,h2⟩|⟨i,x,h1,h2,h3,h4⟩
 ·simp only[h1,h2,zpn,cond_true]
 ·simp -zeta only[h1,h4,ziz,cond_false,zai,h2,za2x,k_or,za7,zh0,Int.toNat_natCast]
  dsimp only
  rw[zaut]
  cases (!(rng 1 9999 item)||(!(state==3&&rng 1 109572 u)&&(!(state==2)||!(u==0)))) with
  |true=>rfl
  |false=>
   simp only[cond_false,za1v]
   cases (!(x.State==1)&&((!(x.State==2)||!(x.Got==item))||!(state==3))) with
   |true=>rfl
   |false=>
    simp only[cond_false,hc]
    cases l.any (fun o=>o.Got==item&&!(o.ID==id)) with
    |true=>rfl
    |false=>simp only[cond_false,za23 hl h2];rfl
theorem zau7 {l:List Hold} {y:Hold} (hl:l.length<1000000000):qbr l y=some (l.map (fun x=>bif x.ID==y.ID then y else x)):=by
 have h:=zbg (step:=zog) (fun (i:Nat) (s:List Hold)=>s.length≤i) (fun i s=>(l,(i:Int),y,s,())) l
  (fun i x s=>.inl (s++[bif x.ID==y.ID then y else x])) (fun s=>(s,())) (by rw[za6];omega)
  (fun s _=>by simp only[zog,dge,cond_false])
  (fun i x s hx hi=>by
   have hlt:=(List.getElem?_eq_some_iff.1 hx).1
   have l1:∀z:Hold,decide (s.length+([z]:List Hold).length≤LIM)=true:=fun z=>zeb (by simp;omega)
   refine ⟨?_,fun s' hs'=>?_⟩
   ·simp only[zog,dlt hlt,zai,hx,cond_true,l1,zap (show i<9223372036854775807 by omega)]
    cases x.ID==y.ID<;>rfl
   ·cases hs'
    simp
    omega) [] (by simp)
 rw[zdk]at h
 unfold qbr
 rw[show zae zog (l,0,y,([]:List Hold),())=_ from h]
 simp only
 congr 1
 have key:∀(l o:List Hold),l.foldl (fun s x=>s++[bif x.ID==y.ID then y else x]) o=o++l.map (fun x=>bif x.ID==y.ID then y else x):=by
  intro l
  induction l with
  |nil=>intro o;simp
  |cons x l ih=>intro o;rw[List.foldl_cons,ih];simp
 rw[key,List.nil_append]
theorem z1t {l:List Hold} (hsort:∀i x,l[i]?=some x→zbp l i (fun y=>decide (x.ID≤y.ID))=false) {i:Nat} {x y:Hold} (hx:l[i]?=some x) (hy:y.ID=x.ID):l.map (fun z=>bif z.ID==y.ID then y else z)=l.set i y:=by
 apply List.ext_getElem?
 intro j
 rw[List.getElem?_map,List.getElem?_set]
 have hlt:=(List.getElem?_eq_some_iff.1 hx).1
 split
 ·rename_i e
  subst e
  simp only[hx,Option.map_some,hlt,if_true,hy,beq_self_eq_true,cond_true]
 ·rename_i e
  cases hj:l[j]? with
  |none=>rfl
  |some z=>
   have hne:¬z.ID=y.ID:=by
    rw[hy]
    rcases Nat.lt_or_gt_of_ne e with h|h
    ·have:=zed (key:=fun y:Hold=>y.ID) hsort j i x z h hx hj;omega
    ·have:=zed (key:=fun y:Hold=>y.ID) hsort i j z x h hj hx;omega
   have hb:(z.ID==y.ID)=false:=by simpa using hne
   simp only[Option.map_some,hb,cond_false]
theorem zaus (state u:Int):((!(state==2)&&!(state==3))||(state==3&&(decide (u<1)||!(rng 0 109572 u)))||(state==2&&!(u==0)))=!(okS state u):=by
 unfold okS
 by_cases h3:state=3
 ·subst h3
  unfold rng
  by_cases h1:u<1
  ·have:¬1≤u:=by omega
   simp[h1,this]
  ·have a:1≤u:=by omega
   have b:0≤u:=by omega
   simp[h1,a,b]
 ·have e3:(state==3)=false:=by simpa using h3
  rw[e3]
  cases state==2<;>cases u==0<;>rfl
theorem zama {l:List Hold} {id item state u:Int} (hl:l.length<1000000000) (hsort:∀i x,l[i]?=some x→zbp l i (fun y=>decide (x.ID≤y.ID))=false):qbm l id item state u=some (zew l id item state u):=by
 unfold qbm zew
 rw[z87 hl]
 unfold getH
 rcases zbb (fun x:Hold=>x.ID==id) l with ⟨h1,h2⟩|⟨i,x,h1,h2,h3,h4⟩
 ·rw[h2];rfl
 ·have hxid:x.ID=id:=by simpa using h3
  have hw:=zba (step:=zoe) (fun i=>(l,id,item,state,u,(i:Int),x,())) l (fun o=>!(o.ID==id)&&o.Got==item) (fun _ _=>(.inr ([],7,()):(List Hold×Int×Int×Int×Hold×Unit)⊕(List Hold×Int×Unit))) (.inl (l,item,state,u,x,())) hl
   (by simp only[zoe,dge,cond_false])
   (fun j y hy=>by
    have hlt:=(List.getElem?_eq_some_iff.1 hy).1
    simp -zeta only[zoe,dlt hlt,zai,hy,cond_true,za7,zap (show j<9223372036854775807 by omega)]
    rfl)
  rw[ze3]at hw
  rw[h4]
  simp -zeta only[Bool.not_true,cond_false,zami,zamv,k_or,za7,zh0,h1,Int.toNat_natCast]
  dsimp only
  rw[←zaus]
  have eb:∀a b c d:Bool,((a||b||c)||d)=(a||(b||c||d)):=by decide
  cases hq:(!(rng 1 9999 item)||(!(state==2)&&!(state==3)||(state==3&&(decide (u<1)||!(rng 0 109572 u)))||(state==2&&!(u==0)))) with
  |true=>
   rw[←eb]at hq
   rw[hq]
   try rfl
  |false=>
   rw[←eb]at hq
   rw[hq]
   simp only[cond_false,za1v]
   cases (!(x.State==1)&&((!(x.State==2)||!(x.Got==item))||!(state==3))) with
   |true=>rfl
   |false=>
    simp only[cond_false]
    rw[show zae zoe (l,id,item,state,u,0,x,())=_ from hw]
    have ea:l.any (fun o=>o.Got==item&&!(o.ID==id))=(l.find? (fun o=>!(o.ID==id)&&o.Got==item)).isSome:=by
     rw[Bool.eq_iff_iff,List.find?_isSome,List.any_eq_true]
     constructor
     ·rintro ⟨o,ho,hp⟩;exact ⟨o,ho,by rw[Bool.and_comm];exact hp⟩
     ·rintro ⟨o,ho,hp⟩;exact ⟨o,ho,by rw[Bool.and_comm];exact hp⟩
    rw[ea]
    cases l.find? (fun o=>!(o.ID==id)&&o.Got==item) with
    |some o=>rfl
    |none=>
     simp only[Option.isSome_none,cond_false]
     have:=zau7 (l:=l) (y:=gotH x item state u) hl
     rw[z1t hsort h2 (y:=gotH x item state u) rfl]at this
     rw[show qbr l (⟨x.ID,x.Patron,x.Record,x.Item,x.Pickup,x.Placed,state,item,u,x.Asleep,x.Rank⟩:Hold)=_ from this]
def zcw (o:Hold):Int×Int×Int:=(o.ID,o.Rank,o.Record)
theorem zro {c:Circ} (h:MidP c) {l:List Hold} (e:l.map zcw=c.Holds.map zcw):MidP (ze2 c l):=by
 have hlen:l.length=c.Holds.length:=by have:=congrArg List.length e;simpa using this
 have key:∀(i:Nat) (x:Hold),l[i]?=some x→∃x',c.Holds[i]?=some x'∧zcw x'=zcw x:=by
  intro i x hx
  have h1:(l.map zcw)[i]?=some (zcw x):=by rw[List.getElem?_map,hx];rfl
  rw[e,List.getElem?_map]at h1
  cases hl:c.Holds[i]? with
  |none=>rw[hl]at h1;cases h1
  |some x'=>rw[hl]at h1;exact ⟨x',rfl,by simpa using h1⟩
 refine ⟨zkd h.short (by rw[hlen];exact h.short.holds),h.moves,?_,?_,?_,?_,h.cal,h.rules,h.branch,h.ids,h.chN⟩
 ·show l.length<_;rw[hlen];exact h.holdsN
 ·intro i x hx
  obtain ⟨x',hx',ek⟩:=key i x hx
  have hs:=h.sorted i x' hx'
  cases i with
  |zero=>rfl
  |succ j=>
   show zbp l (j+1) _=false
   unfold zbp at hs ⊢
   simp only at hs ⊢
   cases hj:l[j]? with
   |none=>rfl
   |some y=>
    obtain ⟨y',hy',ey⟩:=key j y hj
    rw[hy']at hs
    unfold zcw at ek ey
    simp only[Prod.mk.injEq]at ek ey
    simp only at hs;rw[ek.1,ey.1]at hs
    exact hs
 ·intro o ho
  obtain ⟨i,hi⟩:=List.getElem?_of_mem ho
  obtain ⟨x',hx',ek⟩:=key i o hi
  have:=h.rank x' (List.mem_of_getElem? hx')
  unfold zcw at ek
  simp only[Prod.mk.injEq]at ek
  rw[←ek.1,←ek.2.1]
  exact this
 ·intro r
  have e1:∀m:List Hold,(m.filter (fun o=>o.Record==r)).length=((m.map zcw).filter (fun k=>k.2.2==r)).length:=by
   intro m
   rw[List.filter_map,List.length_map]
   try rfl
  show (l.filter (fun o=>o.Record==r)).length<20
  rw[e1,e,←e1]
  exact h.few r
theorem zm7 {l:List Hold} {id item state u:Int} (h:(zew l id item state u).2=0):(zew l id item state u).1.map zcw=l.map zcw:=by
 unfold zew at h ⊢
 rcases zbb (fun x:Hold=>x.ID==id) l with ⟨h1,h2⟩|⟨i,x,h1,h2,h3,h4⟩
 ·rw[h2]at h;cases h
 ·rw[h4]at h ⊢
  simp only at h ⊢
  cases hq:(!(rng 1 9999 item)||!(okS state u)) with
  |true=>rw[hq]at h;cases h
  |false=>
   rw[hq]at h
   simp only[cond_false]at h ⊢
   cases hq2:(!(x.State==1)&&((!(x.State==2)||!(x.Got==item))||!(state==3))) with
   |true=>rw[hq2]at h;cases h
   |false=>
    rw[hq2]at h
    simp only[cond_false]at h ⊢
    cases hq3:l.any (fun o=>o.Got==item&&!(o.ID==id)) with
    |true=>rw[hq3]at h;cases h
    |false=>
     simp only[cond_false,h1,Int.toNat_natCast]
     exact zdv h2 rfl
end Go.Proofs.YtdahfgialanmpaaGreatDoor
namespace Go.Proofs.YtdahfgialanmpaaGreatDoor
open Ev
open Go (IntKind)
structure Frame (c d:Circ):Prop where
 ids:d.Items.map (fun x=>x.ID)=c.Items.map (fun x=>x.ID)
 holds:d.Holds.map zcw=c.Holds.map zcw
 patrons:d.Patrons=c.Patrons
 loans:d.Loans=c.Loans
 charges:d.Charges=c.Charges
 rules:d.Rules=c.Rules
 cals:d.Cals=c.Cals
 today:d.Today=c.Today
 here:d.Local=c.Local
 nh:d.NextHold=c.NextHold
 nc:d.NextCharge=c.NextCharge
 br:d.Items.map (fun x=>x.Custody.Branch)=c.Items.map (fun x=>x.Custody.Branch)
 recs:d.Items.map (fun x=>x.Record)=c.Items.map (fun x=>x.Record)
theorem Frame.refl (c:Circ):Frame c c:=⟨rfl,rfl,rfl,rfl,rfl,rfl,rfl,rfl,rfl,rfl,rfl,rfl,rfl⟩
theorem Frame.trans {a b c:Circ} (h:Frame a b) (k:Frame b c):Frame a c:=
 ⟨k.ids.trans h.ids,k.holds.trans h.holds,k.patrons.trans h.patrons,k.loans.trans h.loans,k.charges.trans h.charges,k.rules.trans h.rules,k.cals.trans h.cals,k.today.trans h.today,k.here.trans h.here,k.nh.trans h.nh,k.nc.trans h.nc,k.br.trans h.br,k.recs.trans h.recs⟩
theorem zla {c:Circ} {i:Nat} {x:Item} (hx:c.Items[i]?=some x) (m:Move) {u:Custody} (hu:u.Branch=x.Custody.Branch):Frame c (zco c i x m u):=
 ⟨zdv hx rfl,rfl,rfl,rfl,rfl,rfl,rfl,rfl,rfl,rfl,rfl,zdv hx hu,zdv hx rfl⟩
theorem zjr {c:Custody} {m:Move} {u:Custody} (h:za8 c m=(u,0)) (hk:(zcy m.Kind==2)=false):u.Branch=c.Branch:=by
 unfold za8 at h
 cases e1:(!(zh9 c)||!(zia m)) with
 |true=>rw[e1]at h;cases h
 |false=>
  rw[e1]at h
  simp only[cond_false]at h
  cases e2:!(zif c.State m.Kind) with
  |true=>rw[e2]at h;cases h
  |false=>
   rw[e2]at h
   simp only[cond_false]at h
   cases e3:(m.Kind==3&&c.State==5&&!(m.Who==c.Who)) with
   |true=>rw[e3]at h;cases h
   |false=>
    rw[e3]at h
    simp only[cond_false]at h
    cases e4:!(z2h c m) with
    |true=>rw[e4]at h;cases h
    |false=>
     rw[e4]at h
     simp only[cond_false,hk]at h
     cases e5:(zcy m.Kind==4||(zcy m.Kind==5||zcy m.Kind==8)) with
     |true=>rw[e5]at h;cases h;rfl
     |false=>
      rw[e5]at h
      simp only[cond_false]at h
      cases e6:(zcy m.Kind==6) with
      |true=>rw[e6]at h;cases h;rfl
      |false=>
       rw[e6]at h
       simp only[cond_false]at h
       cases e7:(zcy m.Kind==9||zcy m.Kind==10) with
       |true=>rw[e7]at h;cases h;rfl
       |false=>rw[e7]at h;cases h;rfl
theorem zft {c:Circ} {l:List Hold} (e:l.map zcw=c.Holds.map zcw):Frame c (ze2 c l):=⟨rfl,e,rfl,rfl,rfl,rfl,rfl,rfl,rfl,rfl,rfl,rfl,rfl⟩
def SimD (a:Option (Unit×Circ_desk)) (b:Option (Circ×Int)) (Q:Circ→Prop):Prop:=
 (∃c,a=some ((),⟨c,0⟩)∧b=some (c,0)∧Q c)∨∃c e,e≠0∧a=some ((),⟨c,e⟩)∧b=some (zhg,e)∧Short c
theorem zpl {c:Circ} (h:MidP c) {b n:Int} (hb:rng 1 4 b=true):∃d e,qev b n ⟨c,0⟩=some (d,⟨c,e⟩)∧qby (calS c b) c.Today n=some (d,e):=by
 obtain ⟨d,e,hq⟩:=znk (h.cal b) c.Today n
 refine ⟨d,e,?_,hq⟩
 unfold qev
 simp only[z9c hb,z88 (h.cal b),hq]
 by_cases he:e=0
 ·subst he;rfl
 ·have he2:(e==0)=false:=by simpa using he
  simp only[he2,Bool.not_false,cond_true,qt,beq_self_eq_true]
theorem zmo {c:Circ} (h:MidP c) {b n e0:Int} (hb:rng 1 4 b=true) (h0:e0≠0):∃d,qev b n ⟨c,e0⟩=some (d,⟨c,e0⟩):=by
 obtain ⟨d,e,hq⟩:=znk (h.cal b) c.Today n
 have h2:(e0==0)=false:=by simpa using h0
 refine ⟨d,?_⟩
 unfold qev
 simp only[z9c hb,z88 (h.cal b),hq]
 cases e==0<;>simp only[Bool.not_false,Bool.not_true,cond_true,cond_false,qt,h2]
theorem zol {c:Circ} (h:MidP c) {i:Nat} {x:Item} (hx:c.Items[i]?=some x) (o:Hold):SimD (qdv (i:Int) o ⟨c,0⟩) (qd2 c x.ID o) (fun d=>(MidP d∧Frame c d)∧(∃u,d.Items=c.Items.set i (zfk u x))∧∃st u,zew c.Holds o.ID x.ID st u=(d.Holds,0)):=by
 obtain ⟨r,b,hr,_⟩:=z9w (p:=o.Patron) (x:=x) h.short
 have hb:=h.branch x (List.mem_of_getElem? hx)
 unfold qdv qd2
 simp -zeta only[beq_self_eq_true,Bool.not_true,cond_false,znx h hx,zai,hx,z9b h.short,hr]
 rcases zjh h hx 5 x.Custody.Branch o.Patron with ⟨u,ha,m1,m2,hm2⟩|⟨e,he,m1,m2⟩
 ·have hf:=zla hx ⟨c.Today,x.ID,5,x.Custody.Branch,o.Patron⟩ (zjr ha rfl)
  rw[m1,m2]
  have hh:(zco c i x ⟨c.Today,x.ID,5,x.Custody.Branch,o.Patron⟩ u).Holds=c.Holds:=rfl
  have hI:(zco c i x ⟨c.Today,x.ID,5,x.Custody.Branch,o.Patron⟩ u).Items=c.Items.set i (zfk u x):=rfl
  generalize zco c i x ⟨c.Today,x.ID,5,x.Custody.Branch,o.Patron⟩ u=c2 at hm2 hf hh hI
  dsimp only
  have core:∀days:Int,∃d e,qev x.Custody.Branch days ⟨c2,0⟩=some (d,⟨c2,e⟩)∧qby (calS c2 x.Custody.Branch) c2.Today days=some (d,e):=fun days=>zpl hm2 hb
  cases b
  all_goals
   simp only[cond_true,cond_false,beq_self_eq_true,Bool.not_true,za3k hb]
   obtain ⟨d,e,l1,l2⟩:=core _
   rw[l1,l2]
   by_cases he:e=0
   ·subst he
    simp only[beq_self_eq_true,Bool.not_true,cond_true,cond_false,zal2 hm2.short.holds,zama hm2.short.holds hm2.sorted]
    have ck:=zm7 (l:=c2.Holds) (id:=o.ID) (item:=x.ID) (state:=3) (u:=d)
    generalize hcq:zew c2.Holds o.ID x.ID 3 d=q at ck
    obtain ⟨l,e⟩:=q
    by_cases he:e=0
    ·subst he
     exact .inl ⟨ze2 c2 l,rfl,rfl,⟨zro hm2 (ck rfl),hf.trans (zft (ck rfl))⟩,⟨u,hI⟩,3,d,by rw[←hh];exact hcq⟩
    ·have he2:(e==0)=false:=by simpa using he
     simp only[zgj c2 l e he,he2,Bool.not_false,cond_true]
     exact .inr ⟨_,e,he,rfl,rfl,hm2.short⟩
   ·have he2:(e==0)=false:=by simpa using he
    simp only[he2,Bool.not_false,cond_true,cond_false]
    exact .inr ⟨_,e,he,rfl,rfl,hm2.short⟩
 ·have he2:(e==0)=false:=by simpa using he
  rw[m1,m2]
  dsimp only
  cases b
  all_goals
   simp only[cond_true,cond_false,he2,Bool.not_false]
   obtain ⟨d,l1⟩:=zmo (n:=_) h hb he
   rw[l1]
   simp only[he2,cond_false]
   exact .inr ⟨_,e,he,rfl,rfl,h.short⟩
theorem zrg {c:Circ} {i:Nat} {x:Item} (hx:c.Items[i]?=some x) (kind:Int):qdz (i:Int) kind ⟨c,0⟩=qbj (i:Int) kind x.Custody.Branch 0 ⟨c,0⟩:=by
 unfold qdz
 simp only[beq_self_eq_true,cond_true,zai,hx]
 cases qbj (i:Int) kind x.Custody.Branch 0 ⟨c,0⟩ with
 |none=>rfl
 |some p=>rfl
theorem zpk (c:Circ) (i e0:Int) (h0:e0≠0):qc9 i ⟨c,e0⟩=some ((),⟨c,e0⟩):=by
 have h:(e0==0)=false:=by simpa using h0
 unfold qc9
 simp only[h,Bool.not_false,cond_true]
theorem zmp (c:Circ) (i e0:Int) (o:Hold) (h0:e0≠0):qdv i o ⟨c,e0⟩=some ((),⟨c,e0⟩):=by
 have h:(e0==0)=false:=by simpa using h0
 unfold qdv
 simp only[h,Bool.not_false,cond_true]
theorem zah5 {X:Type} {l:List X} {i:Nat} {x:X} (h:l[i]?=some x):l.set i x=l:=by
 obtain ⟨h1,h2⟩:=List.getElem?_eq_some_iff.1 h
 rw[←h2,List.set_getElem_self]
theorem zafm {l:List Hold} (hs:∀i x,l[i]?=some x→zbp l i (fun y=>decide (x.ID≤y.ID))=false) {o p:Hold} (ho:o∈l) (hp:p∈l) (e:o.ID=p.ID):o=p:=by
 have h1:=zg7 hs ho
 have h2:=zg7 hs hp
 rw[e,h2]at h1
 cases h1
 try rfl
def Put (c d:Circ) (i:Nat) (x:Item):Prop:=(∃u,d.Items=c.Items.set i (zfk u x))∧∃v,qdo c x=some v∧((v=0∧d.Holds=c.Holds)∨∃st u,zew c.Holds v x.ID st u=(d.Holds,0)∧(st=3→∀o∈c.Holds,o.ID=v→o.Pickup=x.Custody.Branch))
theorem z3z {c:Circ} (h:MidP c) {i:Nat} {x:Item} (hx:c.Items[i]?=some x):SimD (qc9 (i:Int) ⟨c,0⟩) (qfz c x.ID) (fun d=>(MidP d∧Frame c d)∧Put c d i x):=by
 obtain ⟨v,p1,p2,g1,g2⟩:=zahq h hx
 have mv:∀kind branch who:Int,(zcy kind==2)=false→SimD (qbj (i:Int) kind branch who ⟨c,0⟩) (qaj c x.ID kind branch who) (fun d=>(MidP d∧Frame c d)∧d.Holds=c.Holds∧∃u,d.Items=c.Items.set i (zfk u x)):=by
  intro kind branch who hk
  rcases zjh h hx kind branch who with ⟨u,ha,m1,m2,hm2⟩|⟨e,he,m1,m2⟩
  ·exact .inl ⟨_,m1,m2,⟨hm2,zla hx _ (zjr ha hk)⟩,rfl,u,rfl⟩
  ·exact .inr ⟨_,e,he,m1,m2,h.short⟩
 unfold qc9 qfz
 simp -zeta only[beq_self_eq_true,Bool.not_true,cond_false,znx h hx,zai,hx,p1,p2,za21 h.short.holds,z87 h.short.holds,zrg hx,za7]
 by_cases hv:v=0
 ·subst hv
  generalize getH c.Holds 0=q at g1 ⊢
  obtain ⟨o,ok⟩:=q
  simp only[beq_self_eq_true,Bool.not_true]at g1
  subst g1
  dsimp only
  simp only[Bool.not_false,Bool.true_and,beq_self_eq_true,cond_true]
  cases x.Branch==x.Custody.Branch with
  |false=>
   simp only[Bool.not_false,cond_true]
   rcases mv 6 x.Branch 0 rfl with ⟨d,m1,m2,hQ,hH,hI⟩|⟨d,e,he,m1,m2,hsd⟩
   ·rw[m1,m2];exact .inl ⟨d,rfl,rfl,hQ,hI,0,p1,.inl ⟨rfl,hH⟩⟩
   ·rw[m1,m2];exact .inr ⟨d,e,he,rfl,rfl,hsd⟩
  |true=>
   simp only[Bool.not_true,cond_false]
   cases x.Custody.State==3 with
   |true=>exact .inl ⟨c,rfl,rfl,⟨h,Frame.refl c⟩,⟨x.Custody,(zah5 hx).symm⟩,0,p1,.inl ⟨rfl,rfl⟩⟩
   |false=>
    simp only[Bool.not_false,cond_true,cond_false]
    rcases mv 2 x.Custody.Branch 0 rfl with ⟨d,m1,m2,hQ,hH,hI⟩|⟨d,e,he,m1,m2,hsd⟩
    ·rw[m1,m2];exact .inl ⟨d,rfl,rfl,hQ,hI,0,p1,.inl ⟨rfl,hH⟩⟩
    ·rw[m1,m2];exact .inr ⟨d,e,he,rfl,rfl,hsd⟩
 ·have hv2:(v==0)=false:=by simpa using hv
  obtain ⟨o,ho,hoi,hg,hw⟩:=g2 hv
  rw[hg,hv2]
  dsimp only
  simp only[Bool.not_true,Bool.false_and,cond_false]
  cases hpk:o.Pickup==x.Custody.Branch with
  |true=>
   simp only[cond_true]
   rcases zol h hx o with ⟨d,m1,m2,hQ,hI,st,u,hH⟩|⟨d,e,he,m1,m2,hsd⟩
   ·rw[m1,m2];exact .inl ⟨d,rfl,rfl,hQ,hI,v,p1,.inr ⟨st,u,by rw[←hoi];exact hH,fun _ o2 ho2 hv2=>by rw[zafm h.sorted ho2 ho (hv2.trans hoi.symm)];simpa using hpk⟩⟩
   ·rw[m1,m2];exact .inr ⟨d,e,he,rfl,rfl,hsd⟩
  |false=>
   simp only[cond_false]
   rcases mv 6 o.Pickup o.Patron rfl with ⟨d,m1,m2,⟨hm2,hf⟩,hH,hI⟩|⟨d,e,he,m1,m2,hsd⟩
   ·rw[m1,m2]
    simp only[beq_self_eq_true,Bool.not_true,cond_true,cond_false,zal2 hm2.short.holds,zama hm2.short.holds hm2.sorted]
    have ck:=zm7 (l:=d.Holds) (id:=v) (item:=x.ID) (state:=2) (u:=0)
    generalize hcq:zew d.Holds v x.ID 2 0=q at ck
    obtain ⟨l,e⟩:=q
    by_cases he:e=0
    ·subst he
     exact .inl ⟨ze2 d l,rfl,rfl,⟨zro hm2 (ck rfl),hf.trans (zft (ck rfl))⟩,hI,v,p1,.inr ⟨2,0,by rw[←hH];exact hcq,fun h=>absurd h (by decide)⟩⟩
    ·have he2:(e==0)=false:=by simpa using he
     simp only[zgj d l e he,he2,Bool.not_false,cond_true]
     exact .inr ⟨_,e,he,rfl,rfl,hm2.short⟩
   ·have he2:(e==0)=false:=by simpa using he
    rw[m1,m2]
    simp only[he2,cond_false,Bool.not_false,cond_true]
    exact .inr ⟨d,e,he,rfl,rfl,hsd⟩
end Go.Proofs.YtdahfgialanmpaaGreatDoor
namespace Go.Proofs.YtdahfgialanmpaaGreatDoor
open Ev
open Go (IntKind)
theorem zjg {c:Circ} {i:Nat} {x:Item} (hx:c.Items[i]?=some x) (m:Move) (u:Custody):(zco c i x m u).Items[i]?=some (zfk u x):=by
 show (c.Items.set i (zfk u x))[i]?=_
 rw[List.getElem?_set_self (List.getElem?_eq_some_iff.1 hx).1]
theorem z1f {c:Circ} (h:MidP c) (item:Int):(fIdx (fun x=>x.ID==item) c.Items = -1∧qi c item=some (-1)∧c.Items.find? (fun x=>x.ID==item)=none)∨
 ∃(i:Nat) (x:Item),fIdx (fun x=>x.ID==item) c.Items=(i:Int)∧qi c item=some (i:Int)∧c.Items[i]?=some x∧x.ID=item∧c.Items.find? (fun x=>x.ID==item)=some x:=by
 rcases zbb (fun x:Item=>x.ID==item) c.Items with ⟨h1,h2⟩|⟨i,x,h1,h2,h3,h4⟩
 ·exact .inl ⟨h1,by rw[zahu h.short.items,h1],h2⟩
 ·exact .inr ⟨i,x,h1,by rw[zahu h.short.items,h1],h2,by simpa using h3,h4⟩
end Go.Proofs.YtdahfgialanmpaaGreatDoor
namespace Go.Proofs.YtdahfgialanmpaaGreatDoor
open Ev
open Go (IntKind)
def Rest (r:Int) (c d:Circ):Prop:=d.Items.map (fun x=>x.Record)=c.Items.map (fun x=>x.Record)∧∀(j:Nat) (y:Item),c.Items[j]?=some y→¬y.Record=r→d.Items[j]?=some y
theorem Rest.refl (r:Int) (c:Circ):Rest r c c:=⟨rfl,fun _ _ h _=>h⟩
theorem Rest.trans {r:Int} {a b c:Circ} (h:Rest r a b) (k:Rest r b c):Rest r a c:=⟨k.1.trans h.1,fun j y hy hr=>k.2 j y (h.2 j y hy hr) hr⟩
end Go.Proofs.YtdahfgialanmpaaGreatDoor
namespace Go.Proofs.YtdahfgialanmpaaGreatDoor
open Ev
open Go (IntKind)
end Go.Proofs.YtdahfgialanmpaaGreatDoor
namespace Go.Proofs.YtdahfgialanmpaaGreatDoor
open Ev
open Go (IntKind)
end Go.Proofs.YtdahfgialanmpaaGreatDoor
namespace Go.Proofs.YtdahfgialanmpaaGreatDoor
open Ev
open Go (IntKind)
def zqo (l:List Charge) (c:Charge):List Charge×Int:=bif !(za2 (l++[c])==0) then ([],za2 (l++[c])) else (l++[c],0)
theorem za2z {l:List Charge} {c:Charge} (hl:l.length<1000000):qcr l c=some (zqo l c):=by
 have l1:decide (l.length+([c]:List Charge).length≤LIM)=true:=zeb (by simp;omega)
 have l0:decide (l.length≤LIM)=true:=by rw[decide_eq_true_eq];unfold LIM;omega
 unfold qcr zqo
 simp only[l0,l1,cond_true,za2p (show (l++[c]).length<1000000000 by simp;omega)]
 cases !(za2 (l++[c])==0)<;>rfl
theorem z07 {X:Type}:∀(l o:List X),l.foldl (fun s x=>s++[x]) o=o++l:=by
 intro l
 induction l with
 |nil=>intro o;simp
 |cons x l ih=>intro o;rw[List.foldl_cons,ih];simp
theorem za2o {l:List Charge} {c:Charge} (hl:l.length<1000000):qb2 l c=some (zqo l c):=by
 have hw:=zbg (step:=zoc) (fun (i:Nat) (s:List Charge)=>s.length≤i) (fun i s=>(l,(i:Int),c,s,())) l
  (fun i x s=>.inl (s++[x])) (fun s=>(c,s,())) (by rw[za6];omega)
  (fun s _=>by simp only[zoc,dge,cond_false])
  (fun i x s hx hi=>by
   have hlt:=(List.getElem?_eq_some_iff.1 hx).1
   have l1:∀z:Charge,decide (s.length+([z]:List Charge).length≤LIM)=true:=fun z=>zeb (by simp;omega)
   refine ⟨?_,fun s' hs'=>?_⟩
   ·simp only[zoc,dlt hlt,zai,hx,cond_true,l1,zap (show i<9223372036854775807 by omega)]
   ·cases hs'
    simp
    omega) [] (by simp)
 rw[zdk,z07,List.nil_append]at hw
 have l1:decide (l.length+([c]:List Charge).length≤LIM)=true:=zeb (by simp;omega)
 unfold qb2 zqo
 rw[show zae zoc (l,0,c,([]:List Charge),())=_ from hw]
 simp only[l1,cond_true,zal3 (show (l++[c]).length<1000000000 by simp;omega)]
 cases !(za2 (l++[c])==0)<;>rfl
def zhr (c:Circ) (l:List Charge) (n:Int):Circ:=⟨c.Today,c.Items,c.Patrons,c.Loans,c.Holds,l,c.Rules,c.Cals,c.Moves,c.NextHold,n,c.Local⟩
theorem zaj6 {c:Circ} (h:MidP c) {l:List Charge} (hl:l.length<1000000) (n:Int):MidP (zhr c l n):=by
 obtain ⟨⟨a1,a2,a3,a4,a5,a6,a7,a8,a9,a10,a11,a12,a13⟩,h2,h3,h4,h5,h6,h7,h8,h9,h10,h11⟩:=h
 exact ⟨⟨a1,a2,a3,a4,by show l.length<_;omega,a6,a7,a8,a9,a10,a11,a12,a13⟩,h2,h3,h4,h5,h6,h7,h8,h9,h10,hl⟩
theorem zacy {l:List Charge} {x:Charge} (h:(zqo l x).2=0):(zqo l x).1=l++[x]∧za2 (l++[x])=0:=by
 unfold zqo at h ⊢
 by_cases he:za2 (l++[x])=0
 ·simp only[he,beq_self_eq_true,Bool.not_true,cond_false,and_self]
 ·have he2:(za2 (l++[x])==0)=false:=by simpa using he
  rw[he2]at h
  exact absurd h he
theorem z0m {c:Circ} (h:MidP c) (vid item kind amount:Int):SimD (qfl vid item kind amount ⟨c,0⟩) (qfr c vid item kind amount)
 (fun d=>d=zhr c (c.Charges++[⟨c.NextCharge,vid,item,c.Today,kind,amount,0⟩]) (wr .i64 (c.NextCharge+1))∧za2 (c.Charges++[⟨c.NextCharge,vid,item,c.Today,kind,amount,0⟩])=0∧c.NextCharge≤99999):=by
 unfold qfl qfr
 simp only[beq_self_eq_true,Bool.not_true,cond_false,za2z h.chN,za2o h.chN]
 cases hq:decide (99999<c.NextCharge) with
 |true=>exact .inr ⟨c,13,by decide,rfl,rfl,h.short⟩
 |false=>
  have hq:¬99999<c.NextCharge:=by simpa using hq
  simp only[cond_false]
  have ho:=zacy (l:=c.Charges) (x:=⟨c.NextCharge,vid,item,c.Today,kind,amount,0⟩)
  generalize zqo c.Charges ⟨c.NextCharge,vid,item,c.Today,kind,amount,0⟩=q at ho ⊢
  obtain ⟨l,e⟩:=q
  by_cases he:e=0
  ·subst he
   have:=ho rfl
   exact .inl ⟨zhr c l (wr .i64 (c.NextCharge+1)),rfl,rfl,by rw[←this.1],this.2,by omega⟩
  ·have he2:(e==0)=false:=by simpa using he
   simp only[he2,Bool.not_false,cond_true]
   exact .inr ⟨c,e,he,by simp only[qt,beq_self_eq_true,cond_true],rfl,h.short⟩
theorem zue {l:List Charge} (h:za2 l=0):l.length<1000000:=by have:=(z0n h).1;omega
end Go.Proofs.YtdahfgialanmpaaGreatDoor
namespace Go.Proofs.YtdahfgialanmpaaGreatDoor
open Ev
open Go (IntKind)
def zix (l:List Loan) (item:Int):List Loan×Loan×Int:=
 match l.find? (fun n=>n.Item==item) with
 |some n=>(l.take (fIdx (fun n=>n.Item==item) l).toNat++l.drop ((fIdx (fun n=>n.Item==item) l).toNat+1),n,0)
 |none=>([],za14,9)
theorem za27 {l:List Loan} {item:Int} (hl:l.length<100000000):qer l item=some (zix l item):=by
 have hl2:l.length<1000000000:=by omega
 unfold qer zix qac
 dsimp only
 rw[zpx hl2]
 rcases zbb (fun x:Loan=>x.Item==item) l with ⟨h1,h2⟩|⟨i,x,h1,h2,h3,h4⟩
 ·rw[h2];rfl
 ·have hlt:=(List.getElem?_eq_some_iff.1 h2).1
  have hc:qds l=some l:=by unfold qds;rw[zi5 hl2];rfl
  have hd:qeg l (i:Int) ((i+1:Nat):Int)=some (l.take i++l.drop (i+1)):=by
   show zhx l (i:Int) ((i+1:Nat):Int)=_
   unfold zhx
   have d1:decide ((0:Int)≤(i:Int))=true:=by rw[decide_eq_true_eq];omega
   have d2:decide ((i:Int)≤((i+1:Nat):Int))=true:=by rw[decide_eq_true_eq];omega
   have d3:decide (((i+1:Nat):Int)≤(l.length:Int))=true:=by rw[decide_eq_true_eq];omega
   have d4:decide (l.length≤1073741824)=true:=by rw[decide_eq_true_eq];omega
   simp only[d1,d2,d3,d4,Bool.and_self,cond_true,Int.toNat_natCast]
  rw[h4,h1]
  unfold qfk
  simp only[ziz,cond_false,hc,zap (show i<9223372036854775807 by omega),hd,Int.toNat_natCast]
theorem za3a {l:List Loan} {item:Int} (hl:l.length<100000000):qf1 l item=some (zix l item):=by
 have hl2:l.length<1000000000:=by omega
 unfold qf1 zix
 rw[zal0 hl2]
 rcases zbb (fun x:Loan=>x.Item==item) l with ⟨h1,h2⟩|⟨i,x,h1,h2,h3,h4⟩
 ·rw[h1,h2];rfl
 ·have hlt:=(List.getElem?_eq_some_iff.1 h2).1
  have d1:decide ((0:Int)≤(i:Int))=true:=by rw[decide_eq_true_eq];omega
  have d2:decide ((i:Int)≤(l.length:Int))=true:=by rw[decide_eq_true_eq];omega
  have d3:decide (((i+1:Nat):Int)≤(l.length:Int))=true:=by rw[decide_eq_true_eq];omega
  have d4:decide ((0:Int)≤((i+1:Nat):Int))=true:=by rw[decide_eq_true_eq];omega
  have d5:decide ((0:Int)≤0)=true:=rfl
  have d6:decide ((l.length:Int)≤(l.length:Int))=true:=by simp
  have t0:((l.take i).drop (0:Int).toNat)=l.take i:=by simp
  have t1:(l.take (l.length:Int).toNat)=l:=by simp
  have l1:decide (([]:List Loan).length+(l.take i).length≤LIM)=true:=zeb (by rw[List.length_take];simp;omega)
  have l2:decide (([]++l.take i).length+(l.drop (i+1)).length≤LIM)=true:=zeb (by rw[List.nil_append,List.length_take,List.length_drop];omega)
  rw[h1,h4]
  simp only[ziz,cond_false,d1,d2,d3,d4,d5,d6,Bool.and_self,cond_true,zap (show i<9223372036854775807 by omega),Int.toNat_natCast,t0,t1,l1,l2,zai,h2,List.nil_append,List.take_length]
  have l3:decide ((l.take i).length+(l.drop (i+1)).length≤LIM)=true:=zeb (by rw[List.length_take,List.length_drop];omega)
  rw[l3]
  try rfl
theorem zac5 {l:List Loan} {item:Int} (hl:l.length<1000000000):(zix l item).1.length<1000000000:=by
 unfold zix
 cases l.find? (fun n=>n.Item==item) with
 |none=>simp
 |some n=>
  simp only[List.length_append,List.length_take,List.length_drop]
  omega
theorem z8l {c:Circ} (h:MidP c) {l:List Loan} (hl:l.length<1000000000):MidP (zcr c l):=by
 obtain ⟨⟨a1,a2,a3,a4,a5,a6,a7,a8,a9,a10,a11,a12,a13⟩,h2,h3,h4,h5,h6,h7,h8,h9,h10,h11⟩:=h
 exact ⟨⟨a1,a2,hl,a4,a5,a6,a7,a8,a9,a10,a11,a12,a13⟩,h2,h3,h4,h5,h6,h7,h8,h9,h10,h11⟩
end Go.Proofs.YtdahfgialanmpaaGreatDoor
namespace Go.Proofs.YtdahfgialanmpaaGreatDoor
open Ev
open Go (IntKind)
def cntD (p:Int→Bool) (f:Int):Nat→Int
 |0=>0
 |k+1=>cntD p f k+(bif p (f+k) then 1 else 0)
theorem zuf {p:Int→Bool} {f:Int}:∀k:Nat,0≤cntD p f k∧cntD p f k≤k:=by
 intro k
 induction k with
 |zero=>exact ⟨by simp[cntD],by simp[cntD]⟩
 |succ k ih=>
  simp only[cntD]
  cases p (f+k)<;>simp only[cond_true,cond_false]<;>omega
theorem zj4 {p:Int→Bool} {f:Int} {k:Nat}:cntD p f (k+1)=cntD p f k+(bif p (f+k) then 1 else 0):=rfl
theorem z4o {p:Int→Bool}:∀(k:Nat) (f:Int),cntD p f (k+1)=(bif p f then 1 else 0)+cntD p (f+1) k:=by
 intro k
 induction k with
 |zero=>intro f;simp[cntD]
 |succ k ih=>
  intro f
  rw[zj4,ih f,zj4]
  rw[show f+((k+1:Nat):Int)=f+1+(k:Int) by omega]
  omega
theorem zau8 {c:Calendar} (hc:CalOk c) {t:Int}:∀(k:Nat) (d n:Int),0≤d→d+k=(if 109572<t then 109572 else t)+1→0≤n→n+k<1000000000→za1 zlr (k+1) (t,n,d,c,())=some (n+cntD (zhi c) d k,()):=by
 intro k
 induction k with
 |zero=>
  intro d n h0 h1 h2 h3
  have:decide (d≤(if 109572<t then 109572 else t))=false:=by rw[decide_eq_false_iff_not];omega
  simp only[za1,zlr,this,cond_false,cntD,Int.add_zero]
 |succ k ih=>
  intro d n h0 h1 h2 h3
  have hd:decide (d≤(if 109572<t then 109572 else t))=true:=by rw[decide_eq_true_eq];omega
  have hb:d<200000:=by split at h1<;>omega
  rw[za1]
  simp only[zlr,hd,cond_true,zau4 hc]
  rw[z4o,zcn (n:=d+1) (by omega) (by omega),zcn (n:=n+1) (by omega) (by omega)]
  cases zhi c d with
  |true=>
   simp only[cond_true]
   rw[ih (d+1) (n+1) (by omega) (by omega) (by omega) (by omega)]
   rw[Int.add_assoc]
  |false=>
   simp only[cond_false]
   rw[ih (d+1) n (by omega) (by omega) (by omega) (by omega),Int.zero_add]
theorem za2t {c:Calendar} (hc:CalOk c) (f t:Int):qbz c f t=some (cntD (zhi c) (if f<0 then 0 else f) ((if 109572<t then 109572 else t)+1-(if f<0 then 0 else f)).toNat):=by
 unfold qbz
 generalize hF:(if f<0 then 0 else f)=F
 have hF0:0≤F:=by rw[←hF];split<;>omega
 have hT:(if 109572<t then 109572 else t)≤109572:=by split<;>omega
 by_cases hk:F≤(if 109572<t then 109572 else t)+1
 ·have:=zau8 hc (t:=t) ((if 109572<t then 109572 else t)+1-F).toNat F 0 hF0 (by omega) (by omega) (by omega)
  rw[zbf _ (by rw[za6];omega) this,Int.zero_add]
 ·have h0:((if 109572<t then 109572 else t)+1-F).toNat=0:=by omega
  have hd:decide (F≤(if 109572<t then 109572 else t))=false:=by rw[decide_eq_false_iff_not];omega
  have:za1 zlr 1 (t,0,F,c,())=some (0,()):=by simp only[za1,zlr,hd,cond_false]
  rw[zbf _ (by rw[za6];omega) this,h0]
  try rfl
def upS (d w:Int):Int:=if d<w then 0 else (d-w) / 7+1
theorem zoq {d:Int} (h:rng 0 109572 d=true):qdh d=some (d.tmod 7):=by
 have e:qfv d=some (rng 0 109572 d):=by
  unfold qfv
  simp -zeta only[za7]
  try rfl
 unfold qdh
 rw[e,h]
 try rfl
theorem zacm {d w:Int} (h0 : -1≤d) (h1:d≤109572) (h2:0≤w) (h3:w<7):qex d w=some (upS d w):=by
 unfold qex upS
 rw[zoq rfl]
 have e0:(0:Int).tmod 7=0:=rfl
 simp only[e0]
 rw[zcn (n:=w-0) (by omega) (by omega),zcn (n:=w-0+7) (by omega) (by omega)]
 have e1:(w-0+7).tmod 7=w:=by rw[Int.tmod_eq_emod_of_nonneg (by omega)];omega
 rw[e1]
 by_cases hd:d<w
 ·simp only[hd,decide_true,cond_true,if_true]
 ·simp only[hd,decide_false,cond_false,if_false]
  rw[zcn (n:=d-w) (by omega) (by omega),Int.tdiv_eq_ediv_of_nonneg (by omega),zcn (n:=(d-w) / 7) (by omega) (by omega),zcn (by omega) (by omega)]
theorem zaib {d w:Int} (h0:0≤d) (h2:0≤w) (h3:w<7):upS d w=upS (d-1) w+(if d % 7=w then 1 else 0):=by
 unfold upS
 split<;>split<;>split<;>omega
theorem zge {d w:Int} (h0 : -1≤d) (h1:d≤109572) (h2:0≤w) (h3:w<7):0≤upS d w∧upS d w≤20000:=by
 unfold upS
 split<;>omega
def wk (c:Calendar):V7 Bool:=⟨zbm c.Week 0,zbm c.Week 1,zbm c.Week 2,zbm c.Week 3,zbm c.Week 4,zbm c.Week 5,zbm c.Week 6⟩
def za9 (c:Calendar) (f t:Int) (w:Nat):Int:=bif zbm c.Week w then upS t w-upS (f-1) w else 0
theorem zacz {b:Bool} {n a:Int} (hn : -1000000≤n) (hn2:n≤1000000) (ha : -100000≤a) (ha2:a≤100000) {α:Type} (k:Int→α):(bif b then k (wr .i64 (n+wr .i64 a)) else k n)=k (n+(bif b then a else 0)):=by
 cases b with
 |true=>simp only[cond_true];rw[zcn (n:=a) (by omega) (by omega),zcn (by omega) (by omega)]
 |false=>simp only[cond_false,Int.add_zero]
theorem za0 {c:Calendar} {f t:Int} {w:Nat} (hf:0≤f) (hf2:f≤109573) (ht : -1≤t) (ht2:t≤109572) (hw:w<7) : -20000≤za9 c f t w∧za9 c f t w≤20000:=by
 unfold za9
 have a:=zge ht ht2 (show 0≤(w:Int) by omega) (by omega)
 have b:=zge (d:=f-1) (by omega) (by omega) (show 0≤(w:Int) by omega) (by omega)
 cases zbm c.Week w<;>simp only[cond_true,cond_false]<;>omega
theorem zrb {c:Calendar} {f t:Int} (hf:0≤f) (hf2:f≤109573) (ht : -1≤t) (ht2:t≤109572):zae zlk (f,t,0,wk c,0,c,wk c,()) =
 some (f,t,za9 c f t 0+za9 c f t 1+za9 c f t 2+za9 c f t 3+za9 c f t 4+za9 c f t 5+za9 c f t 6,c,wk c,()):=by
 have st:∀(w:Nat) (n:Int),w<7→-200000≤n→n≤200000→zlk (f,t,n,wk c,(w:Int),c,wk c,())=some (.inl (f,t,n+za9 c f t w,wk c,((w+1:Nat):Int),c,wk c,())):=by
  intro w n hw h1 h2
  have u1:=zacm ht ht2 (show 0≤(w:Int) by omega) (by omega)
  have u2:=zacm (d:=f-1) (by omega) (by omega) (show 0≤(w:Int) by omega) (by omega)
  have b1:=zge ht ht2 (show 0≤(w:Int) by omega) (by omega)
  have b2:=zge (d:=f-1) (by omega) (by omega) (show 0≤(w:Int) by omega) (by omega)
  have hd:decide ((w:Int)<7)=true:=by rw[decide_eq_true_eq];omega
  have hw1:wr .i64 (f-1)=f-1:=zcn (by omega) (by omega)
  have hw2:=zap (show w<9223372036854775807 by omega)
  unfold za9
  simp -zeta only[zlk,hd,cond_true,u1,hw1,u2,hw2]
  dsimp only
  have ap:=fun b=>zacz (b:=b) (n:=n) (a:=upS t w-upS (f-1) w) (by omega) (by omega) (by omega) (by omega) (fun n7=>(some (.inl (f,t,n7,wk c,((w+1:Nat):Int),c,wk c,())):Option ((Int×Int×Int×(V7 Bool)×Int×Calendar×(V7 Bool)×Unit)⊕((Int×Int×Int×Calendar×(V7 Bool)×Unit)))))
  have hcs:w=0∨w=1∨w=2∨w=3∨w=4∨w=5∨w=6:=by omega
  rcases hcs with h|h|h|h|h|h|h<;>subst h<;>exact ap _
 have p0:=za0 (c:=c) hf hf2 ht ht2 (show 0<7 by omega)
 have p1:=za0 (c:=c) hf hf2 ht ht2 (show 1<7 by omega)
 have p2:=za0 (c:=c) hf hf2 ht ht2 (show 2<7 by omega)
 have p3:=za0 (c:=c) hf hf2 ht ht2 (show 3<7 by omega)
 have p4:=za0 (c:=c) hf hf2 ht ht2 (show 4<7 by omega)
 have p5:=za0 (c:=c) hf hf2 ht ht2 (show 5<7 by omega)
 have p6:=za0 (c:=c) hf hf2 ht ht2 (show 6<7 by omega)
 refine zbf 8 (by rw[za6];omega) ?_
 have s0:=st 0 0 (by omega) (by omega) (by omega)
 have s1:=st 1 (0+za9 c f t 0) (by omega) (by omega) (by omega)
 have s2:=st 2 (0+za9 c f t 0+za9 c f t 1) (by omega) (by omega) (by omega)
 have s3:=st 3 (0+za9 c f t 0+za9 c f t 1+za9 c f t 2) (by omega) (by omega) (by omega)
 have s4:=st 4 (0+za9 c f t 0+za9 c f t 1+za9 c f t 2+za9 c f t 3) (by omega) (by omega) (by omega)
 have s5:=st 5 (0+za9 c f t 0+za9 c f t 1+za9 c f t 2+za9 c f t 3+za9 c f t 4) (by omega) (by omega) (by omega)
 have s6:=st 6 (0+za9 c f t 0+za9 c f t 1+za9 c f t 2+za9 c f t 3+za9 c f t 4+za9 c f t 5) (by omega) (by omega) (by omega)
 rw[za1,show zlk (f,t,0,wk c,0,c,wk c,())=_ from s0]
 simp only
 rw[za1,s1]
 simp only
 rw[za1,s2]
 simp only
 rw[za1,s3]
 simp only
 rw[za1,s4]
 simp only
 rw[za1,s5]
 simp only
 rw[za1,s6]
 simp only
 rw[za1]
 rw[Int.zero_add]
 try rfl
def zhq (c:Calendar) (f t:Int) (x:Int):Bool:=decide (f≤x)&&decide (x≤t)&&zbm c.Week (x.tmod 7).toNat
theorem za5c (c:Calendar) {α:Type} (k:Bool→α) (d:α) {r:Int} (h0:0≤r) (h1:r<7):(bif r==0 then k (wk c).x0 else bif r==1 then k (wk c).x1 else bif r==2 then k (wk c).x2 else bif r==3 then k (wk c).x3 else bif r==4 then k (wk c).x4 else bif r==5 then k (wk c).x5 else bif r==6 then k (wk c).x6 else d)=k (zbm c.Week r.toNat):=by
 have hcs:r=0∨r=1∨r=2∨r=3∨r=4∨r=5∨r=6:=by omega
 rcases hcs with h|h|h|h|h|h|h<;>subst h<;>rfl
theorem zpe {c:Calendar} {f t n:Int} {l:List Int} (hl:l.length<1000000000) (hf:0≤f) (ht:t≤109572) (hn : -1000000≤n) (hn2:n≤1000000) :
 zae zh8 (f,t,n,l,(l.length:Int),0,wk c,())=some (n-(l.filter (zhq c f t)).length,()):=by
 have h:=zbg (step:=zh8) (fun (i:Nat) (s:Int)=>-1000000-(i:Int)≤s∧s≤1000000) (fun i s=>(f,t,s,l,(l.length:Int),(i:Int),wk c,())) l
  (fun i x s=>.inl (bif zhq c f t x then s-1 else s)) (fun s=>(s,())) (by rw[za6];omega)
  (fun s _=>by simp only[zh8,dge,cond_false])
  (fun i x s hx hi=>by
   have hlt:=(List.getElem?_eq_some_iff.1 hx).1
   obtain ⟨b1,b2⟩:=hi
   have hw:wr .i64 (s-1)=s-1:=zcn (by omega) (by omega)
   refine ⟨?_,fun s' hs'=>?_⟩
   ·simp -zeta only[zh8,dlt hlt,zai,hx,cond_true,za7,zap (show i<9223372036854775807 by omega),hw]
    unfold zhq
    cases hq:(decide (f≤x)&&decide (x≤t)) with
    |false=>rfl
    |true=>
     simp only[Bool.and_eq_true,decide_eq_true_eq]at hq
     have hr:rng 0 109572 x=true:=by rw[zbw];omega
     have hm:=zayx (d:=x) (by omega)
     dsimp only
     rw[zoq hr]
     simp only[cond_true,Bool.true_and]
     rw[za5c c (fun v17=>(bif v17 then some (.inl (f,t,s-1,l,(l.length:Int),((i+1:Nat):Int),wk c,())) else some (.inl (f,t,s,l,(l.length:Int),((i+1:Nat):Int),wk c,())):Option ((Int×Int×Int×(List Int)×Int×Int×(V7 Bool)×Unit)⊕((Int×Unit))))) none hm.1 hm.2]
     cases zbm c.Week (x.tmod 7).toNat<;>rfl
   ·cases hs'
    cases zhq c f t x<;>simp only[cond_true,cond_false]<;>omega) n (by omega)
 rw[zdk]at h
 have key:∀(m:List Int) (s:Int),m.foldl (fun s x=>bif zhq c f t x then s-1 else s) s=s-(m.filter (zhq c f t)).length:=by
  intro m
  induction m with
  |nil=>intro s;simp
  |cons x m ih=>
   intro s
   rw[List.foldl_cons,ih,List.filter_cons]
   cases zhq c f t x with
   |true=>simp only[cond_true,if_true,List.length_cons];omega
   |false=>simp
 rw[key]at h
 exact h
theorem zuy (p r:Int→Bool):∀(l:List Int),(∀x∈l,¬(p x=true∧r x=true))→(l.filter (fun x=>p x||r x)).length=(l.filter p).length+(l.filter r).length:=by
 intro l
 induction l with
 |nil=>intro _;rfl
 |cons x l ih=>
  intro h
  have hx:=h x (List.mem_cons_self ..)
  have:=ih (fun y hy=>h y (List.mem_cons_of_mem _ hy))
  simp only[List.filter_cons]
  cases hp:p x<;>cases hr:r x<;>simp_all<;>omega
theorem z6f {d:Int} {q:Int→Bool}:∀{l:List Int},(∀(j i:Nat) (x y:Int),i<j→l[i]?=some x→l[j]?=some y→x<y)→(l.filter (fun x=>x==d&&q x)).length=if (l.any (fun x=>x==d)&&q d)=true then 1 else 0:=by
 intro l
 induction l with
 |nil=>intro _;rfl
 |cons x l ih=>
  intro h
  have h2:∀(j i:Nat) (x y:Int),i<j→l[i]?=some x→l[j]?=some y→x<y:=fun j i a b hij ha hb=>h (j+1) (i+1) a b (by omega) (by simpa using ha) (by simpa using hb)
  have ih:=ih h2
  rw[List.filter_cons,List.any_cons]
  by_cases e:x=d
  ·subst e
   have hn:l.any (fun y=>y==x)=false:=by
    rw[List.any_eq_false]
    intro y hy he
    obtain ⟨j,hj⟩:=List.getElem?_of_mem hy
    have:=h (j+1) 0 x y (by omega) (by simp) (by simpa using hj)
    have:y=x:=by simpa using he
    omega
   rw[hn]at ih
   simp only[beq_self_eq_true,Bool.true_and,Bool.true_or,Bool.false_and]at ih ⊢
   cases q x with
   |true=>simp only[if_true,List.length_cons];rw[ih];rfl
   |false=>simp only[Bool.false_eq_true,if_false];exact ih
  ·have e2:(x==d)=false:=by simpa using e
   simp only[e2,Bool.false_and,Bool.false_or,Bool.false_eq_true,if_false]
   exact ih
theorem zah9 (c:Calendar) (f d:Int) (h0:0≤d):za9 c f d 0+za9 c f d 1+za9 c f d 2+za9 c f d 3+za9 c f d 4+za9 c f d 5+za9 c f d 6 =
 (za9 c f (d-1) 0+za9 c f (d-1) 1+za9 c f (d-1) 2+za9 c f (d-1) 3+za9 c f (d-1) 4+za9 c f (d-1) 5+za9 c f (d-1) 6)+(bif zbm c.Week (d.tmod 7).toNat then 1 else 0):=by
 have st:∀w:Nat,w<7→za9 c f d w=za9 c f (d-1) w+(bif zbm c.Week w then (if d % 7=w then 1 else 0) else 0):=by
  intro w hw
  unfold za9
  have:=zaib (d:=d) (w:=w) h0 (by omega) (by omega)
  cases zbm c.Week w<;>simp only[cond_true,cond_false]<;>omega
 rw[st 0 (by omega),st 1 (by omega),st 2 (by omega),st 3 (by omega),st 4 (by omega),st 5 (by omega),st 6 (by omega)]
 have e:(d.tmod 7).toNat=(d % 7).toNat:=by rw[Int.tmod_eq_emod_of_nonneg h0]
 rw[e]
 have hcs:d % 7=0∨d % 7=1∨d % 7=2∨d % 7=3∨d % 7=4∨d % 7=5∨d % 7=6:=by omega
 have z:∀b:Bool,(bif b then (0:Int) else 0)=0:=by intro b;cases b<;>rfl
 rcases hcs with h|h|h|h|h|h|h<;>rw[h]<;>simp[z]<;>omega
theorem z6e {c:Calendar} (hc:CalOk c) {f:Int} (hf:0≤f):∀k:Nat,f+k≤109573→
 za9 c f (f+k-1) 0+za9 c f (f+k-1) 1+za9 c f (f+k-1) 2+za9 c f (f+k-1) 3+za9 c f (f+k-1) 4+za9 c f (f+k-1) 5+za9 c f (f+k-1) 6-(c.Closed.filter (zhq c f (f+k-1))).length=cntD (zhi c) f k:=by
 intro k
 induction k with
 |zero=>
  intro _
  have z:∀w:Nat,za9 c f (f+((0:Nat):Int)-1) w=0:=by
   intro w
   unfold za9
   rw[show f+((0:Nat):Int)-1=f-1 by omega]
   cases zbm c.Week w<;>simp
  have e:c.Closed.filter (zhq c f (f+((0:Nat):Int)-1))=[]:=by
   rw[List.filter_eq_nil_iff]
   intro x _
   unfold zhq
   simp only[Bool.and_eq_true,decide_eq_true_eq]
   omega
  rw[z,z,z,z,z,z,z,e]
  try rfl
 |succ k ih=>
  intro hk
  have ih:=ih (by omega)
  rw[zj4,←ih]
  have ed:f+((k+1:Nat):Int)-1=f+(k:Int):=by omega
  rw[ed]
  rw[zah9 c f (f+k) (by omega)]
  have e1:(c.Closed.filter (zhq c f (f+k))).length=(c.Closed.filter (zhq c f (f+k-1))).length+(c.Closed.filter (fun x=>x==f+k&&zbm c.Week (x.tmod 7).toNat)).length:=by
   rw[←zuy]
   ·congr 1
    apply List.filter_congr
    intro x _
    unfold zhq
    by_cases h1:f≤x
    ·by_cases h2:x=f+k
     ·subst h2
      have a:decide (f≤f+(k:Int))=true:=by rw[decide_eq_true_eq];omega
      have b:decide (f+(k:Int)≤f+(k:Int))=true:=by rw[decide_eq_true_eq];omega
      simp only[a,b,beq_self_eq_true,Bool.true_and]
      cases decide (f+(k:Int)≤f+(k:Int)-1)<;>simp
     ·have a:(x==f+(k:Int))=false:=by simpa using h2
      have b:decide (x≤f+(k:Int))=decide (x≤f+(k:Int)-1):=by rw[decide_eq_decide];omega
      rw[a,b]
      simp
    ·have a:decide (f≤x)=false:=by rw[decide_eq_false_iff_not];exact h1
     have b:(x==f+(k:Int))=false:=by
      have:¬x=f+(k:Int):=by omega
      simpa using this
     rw[a,b]
     try rfl
   ·intro x _
    unfold zhq
    simp only[Bool.and_eq_true,decide_eq_true_eq,beq_iff_eq]
    omega
  rw[e1,z6f (zkm hc.inc)]
  have hr:rng 0 109572 (f+(k:Int))=true:=by rw[zbw];omega
  unfold zhi
  rw[hr]
  cases c.Closed.any (fun x=>x==f+(k:Int))<;>cases zbm c.Week ((f+(k:Int)).tmod 7).toNat<;>simp<;>omega
theorem za2f {c:Calendar} (hc:CalOk c) (f t:Int):qai c f t=some (cntD (zhi c) (if f<0 then 0 else f) ((if 109572<t then 109572 else t)+1-(if f<0 then 0 else f)).toNat):=by
 unfold qai
 generalize hF:(if f<0 then 0 else f)=F
 generalize hT:(if 109572<t then 109572 else t)=T
 have hF0:0≤F:=by rw[←hF];split<;>omega
 have hT0:T≤109572:=by rw[←hT];split<;>omega
 by_cases hk:T<F
 ·have h0:(T+1-F).toNat=0:=by omega
  simp only[hk,decide_true,cond_true,h0,cntD]
 ·simp only[hk,decide_false,cond_false,zal5]
  rw[show zae zlk (F,T,0,(⟨zbm c.Week 0,zbm c.Week 1,zbm c.Week 2,zbm c.Week 3,zbm c.Week 4,zbm c.Week 5,zbm c.Week 6⟩:V7 Bool),0,c,(⟨zbm c.Week 0,zbm c.Week 1,zbm c.Week 2,zbm c.Week 3,zbm c.Week 4,zbm c.Week 5,zbm c.Week 6⟩:V7 Bool),())=_ from zrb (c:=c) hF0 (by omega) (by omega) hT0]
  simp only
  have p0:=za0 (c:=c) (f:=F) (t:=T) hF0 (by omega) (by omega) hT0 (show 0<7 by omega)
  have p1:=za0 (c:=c) (f:=F) (t:=T) hF0 (by omega) (by omega) hT0 (show 1<7 by omega)
  have p2:=za0 (c:=c) (f:=F) (t:=T) hF0 (by omega) (by omega) hT0 (show 2<7 by omega)
  have p3:=za0 (c:=c) (f:=F) (t:=T) hF0 (by omega) (by omega) hT0 (show 3<7 by omega)
  have p4:=za0 (c:=c) (f:=F) (t:=T) hF0 (by omega) (by omega) hT0 (show 4<7 by omega)
  have p5:=za0 (c:=c) (f:=F) (t:=T) hF0 (by omega) (by omega) hT0 (show 5<7 by omega)
  have p6:=za0 (c:=c) (f:=F) (t:=T) hF0 (by omega) (by omega) hT0 (show 6<7 by omega)
  rw[zpe hc.len hF0 hT0 (by omega) (by omega)]
  simp only
  have:=z6e hc hF0 (T+1-F).toNat (by omega)
  rw[show F+((T+1-F).toNat:Int)-1=T by omega]at this
  rw[this]
end Go.Proofs.YtdahfgialanmpaaGreatDoor
namespace Go.Proofs.YtdahfgialanmpaaGreatDoor
open Ev
open Go (IntKind)
theorem zatq {c:Calendar} (hc:CalOk c) {r:Rule} (hr:zir r=true) (due back:Int):∃v,qfx r c due back=some v∧qf2 r c due back=some v∧0≤v:=by
 have ec:∀n:Int,qeq n=some (rng 0 109572 n):=fun n=>by
  unfold qeq
  simp -zeta only[za7]
  try rfl
 unfold qfx qf2
 simp -zeta only[za41 hc.len,z9l hc.len,za2f hc,za2t hc,ec,z9g,k_or]
 dsimp only
 cases (!(zci c==0)||!(rng 0 109572 due))||!(rng 0 109572 back) with
 |true=>exact ⟨0,rfl,rfl,by omega⟩
 |false=>
  simp only[cond_false]
  have hb:=zuf (p:=zhi c) (f:=if wr .i64 (due+1)<0 then 0 else wr .i64 (due+1)) ((if 109572<back then 109572 else back)+1-(if wr .i64 (due+1)<0 then 0 else wr .i64 (due+1))).toNat
  have hk:((if 109572<back then 109572 else back)+1-(if wr .i64 (due+1)<0 then 0 else wr .i64 (due+1))).toNat≤109573:=by
   have h1:(if 109572<back then 109572 else back)≤109572:=by split<;>omega
   have h2:0≤(if wr .i64 (due+1)<0 then 0 else wr .i64 (due+1)):=by split<;>omega
   omega
  generalize cntD (zhi c) _ _=n at hb ⊢
  generalize ((if 109572<back then 109572 else back)+1-(if wr .i64 (due+1)<0 then 0 else wr .i64 (due+1))).toNat=k at hb hk
  cases decide (n≤r.Grace) with
  |true=>exact ⟨0,rfl,rfl,by omega⟩
  |false=>
   simp only[cond_false]
   refine ⟨_,rfl,rfl,?_⟩
   unfold zir at hr
   simp only[Bool.and_eq_true,zbw]at hr
   obtain ⟨⟨⟨⟨⟨_,⟨hf,_⟩,hm⟩,_⟩,_⟩,_⟩,_⟩:=hr
   have hp:0≤n*r.Fine:=Int.mul_nonneg hb.1 hf.1
   have hq:n*r.Fine≤109573*1000:=Int.mul_le_mul (by omega) hf.2 hf.1 (by omega)
   rw[zcn (by omega) (by omega)]
   split<;>omega
def refQ (p item kind:Int) (x:Charge):Bool:=(x.Patron==p&&x.Item==item)&&(kind==0||x.Kind==kind)
theorem zal6 {l:List Charge} {p item kind:Int} (hl:l.length<1000000000):∃v,qb4 l p item kind=some (l.filter (fun x=>!(refQ p item kind x)),v):=by
 have hq:∀x:Charge,qdf x p item kind=some (refQ p item kind x):=fun x=>by
  unfold qdf refQ
  simp -zeta only[za7,k_or]
  try rfl
 have h:=zbg (step:=zn1 (fun (g:Unit×Int×Int×Int×Unit) x0=>qdf x0 g.2.1 g.2.2.1 g.2.2.2.1)) (fun (i:Nat) (s:Int×Int×List Charge)=>s.2.2.length≤i)
  (fun i s=>(((),(p,item,kind,())),s.1,s.2.1,l,(l.length:Int),(i:Int),s.2.2,())) l
  (fun i x s=>.inl (bif refQ p item kind x then (wr .i64 (s.1+x.Paid),wr .i64 (s.2.1+1),s.2.2) else (s.1,s.2.1,s.2.2++[x]))) (fun s=>(s.1,s.2.1,s.2.2,())) (by rw[za6];omega)
  (fun s _=>by simp only[zn1,dge,cond_false])
  (fun i x s hx hi=>by
   have hlt:=(List.getElem?_eq_some_iff.1 hx).1
   have l1:∀z:Charge,decide (s.2.2.length+([z]:List Charge).length≤LIM)=true:=fun z=>zeb (by simp;omega)
   refine ⟨?_,fun s' hs'=>?_⟩
   ·simp only[zn1,dlt hlt,zai,hx,cond_true,hq,l1,zap (show i<9223372036854775807 by omega)]
    cases refQ p item kind x<;>rfl
   ·cases hs'
    cases refQ p item kind x<;>simp<;>omega) (0,0,[]) (by simp)
 rw[zdk]at h
 have key:∀(m:List Charge) (s:Int×Int×List Charge),∃a b,m.foldl (fun s x=>bif refQ p item kind x then (wr .i64 (s.1+x.Paid),wr .i64 (s.2.1+1),s.2.2) else (s.1,s.2.1,s.2.2++[x])) s=(a,b,s.2.2++m.filter (fun x=>!(refQ p item kind x))):=by
  intro m
  induction m with
  |nil=>intro s;exact ⟨s.1,s.2.1,by simp⟩
  |cons x m ih=>
   intro s
   rw[List.foldl_cons,List.filter_cons]
   cases refQ p item kind x with
   |true=>
    obtain ⟨a,b,e⟩:=ih (wr .i64 (s.1+x.Paid),wr .i64 (s.2.1+1),s.2.2)
    exact ⟨a,b,by simp only[cond_true];rw[e];simp⟩
   |false=>
    obtain ⟨a,b,e⟩:=ih (s.1,s.2.1,s.2.2++[x])
    exact ⟨a,b,by simp only[cond_false];rw[e];simp⟩
 obtain ⟨a,b,e⟩:=key l (0,0,[])
 rw[e]at h
 refine ⟨a,?_⟩
 unfold qb4 qa6
 rw[show zae (zn1 (fun (g:Unit×Int×Int×Int×Unit) x0=>qdf x0 g.2.1 g.2.2.1 g.2.2.2.1)) (((),(p,item,kind,())),0,0,l,(l.length:Int),0,([]:List Charge),())=_ from h]
 try rfl
theorem za2s {l:List Charge} {p item kind:Int} (hl:l.length<1000000):∃v,qbw l p item kind=some (l.filter (fun x=>!(refQ p item kind x)),v):=by
 have h:=zbg (step:=zoh) (fun (i:Nat) (s:Int×List Charge)=>s.2.length≤i)
  (fun i s=>(l,p,item,kind,s.1,(i:Int),s.2,())) l
  (fun i x s=>.inl (bif refQ p item kind x then (wr .i64 (s.1+x.Paid),s.2) else (s.1,s.2++[x]))) (fun s=>(s.1,s.2,())) (by rw[za6];omega)
  (fun s _=>by simp only[zoh,dge,cond_false])
  (fun i x s hx hi=>by
   have hlt:=(List.getElem?_eq_some_iff.1 hx).1
   have l1:∀z:Charge,decide (s.2.length+([z]:List Charge).length≤LIM)=true:=fun z=>zeb (by simp;omega)
   refine ⟨?_,fun s' hs'=>?_⟩
   ·simp -zeta only[zoh,dlt hlt,zai,hx,cond_true,za7,k_or,l1,zap (show i<9223372036854775807 by omega)]
    dsimp only
    unfold refQ
    cases ((x.Patron==p&&x.Item==item)&&(kind==0||x.Kind==kind))<;>rfl
   ·cases hs'
    cases refQ p item kind x<;>simp<;>omega) (0,[]) (by simp)
 rw[zdk]at h
 have key:∀(m:List Charge) (s:Int×List Charge),∃a,m.foldl (fun s x=>bif refQ p item kind x then (wr .i64 (s.1+x.Paid),s.2) else (s.1,s.2++[x])) s=(a,s.2++m.filter (fun x=>!(refQ p item kind x))):=by
  intro m
  induction m with
  |nil=>intro s;exact ⟨s.1,by simp⟩
  |cons x m ih=>
   intro s
   rw[List.foldl_cons,List.filter_cons]
   cases refQ p item kind x with
   |true=>
    obtain ⟨a,e⟩:=ih (wr .i64 (s.1+x.Paid),s.2)
    exact ⟨a,by simp only[cond_true];rw[e];simp⟩
   |false=>
    obtain ⟨a,e⟩:=ih (s.1,s.2++[x])
    exact ⟨a,by simp only[cond_false];rw[e];simp⟩
 obtain ⟨a,e⟩:=key l (0,[])
 rw[e]at h
 refine ⟨a,?_⟩
 unfold qbw
 rw[show zae zoh (l,p,item,kind,0,0,([]:List Charge),())=_ from h]
 try rfl
theorem zaev {c:Circ} (h:Short c) {l:List Charge} (hl:l.length<1000000000) (n:Int):Short (zhr c l n):=by
 obtain ⟨a1,a2,a3,a4,a5,a6,a7,a8,a9,a10,a11,a12,a13⟩:=h
 exact ⟨a1,a2,a3,a4,hl,a6,a7,a8,a9,a10,a11,a12,a13⟩
def zg3 (c:Circ) (i:Nat) (x:Item) (branch:Int) (u:Custody) (l:List Loan):Circ:=zcr (zco c i x ⟨c.Today,x.ID,4,branch,0⟩ u) l
theorem zt1 {c:Circ} (h:MidP c) (hln:c.Loans.length<100000000) {i:Nat} {x:Item} (hx:c.Items[i]?=some x) {n:Loan} (hn:c.Loans.find? (fun n=>n.Item==x.ID)=some n) {branch:Int} (hb:rng 1 4 branch=true) :
 SimD (qfj (i:Int) branch ⟨c,0⟩) (qfo c x.ID branch) (fun d=>MidP d∧∃u ch nc,za8 x.Custody ⟨c.Today,x.ID,4,branch,0⟩=(u,0)∧d=zhr (zg3 c i x branch u (zix c.Loans x.ID).1) ch nc):=by
 unfold qfj qfo
 simp only[zai,hx]
 rcases zjh h hx 4 branch 0 with ⟨u,ha,m1,m2,hm2⟩|⟨e,he,m1,m2⟩
 ·rw[m1,m2]
  have hat:=znx hm2 (zjg hx ⟨c.Today,x.ID,4,branch,0⟩ u)
  have hx2:=zjg hx ⟨c.Today,x.ID,4,branch,0⟩ u
  have hbk:zix c.Loans x.ID=((zix c.Loans x.ID).1,n,0):=by unfold zix;rw[hn]
  have bl:=zac5 (item:=x.ID) h.short.loans
  have hL:(zco c i x ⟨c.Today,x.ID,4,branch,0⟩ u).Loans=c.Loans:=rfl
  simp only[beq_self_eq_true,Bool.not_true,cond_false,hL,za27 hln,za3a hln]
  rw[hbk]
  simp only[beq_self_eq_true,Bool.not_true,cond_false,zpm]
  have hm3:=z8l hm2 bl
  show SimD _ _ (fun d=>MidP d∧∃u ch nc,za8 x.Custody ⟨c.Today,x.ID,4,branch,0⟩=(u,0)∧d=zhr (zg3 c i x branch u (zix c.Loans x.ID).1) ch nc)
  generalize hl:(zix c.Loans x.ID).1=l at hm3 bl
  have hat3:qi (zcr (zco c i x ⟨c.Today,x.ID,4,branch,0⟩ u) l) x.ID=some (i:Int):=znx (x:=zfk u x) hm3 hx2
  have hc3:zg3 c i x branch u l=zcr (zco c i x ⟨c.Today,x.ID,4,branch,0⟩ u) l:=rfl
  rw[show (⟨(zco c i x ⟨c.Today,x.ID,4,branch,0⟩ u).Today,(zco c i x ⟨c.Today,x.ID,4,branch,0⟩ u).Items,(zco c i x ⟨c.Today,x.ID,4,branch,0⟩ u).Patrons,l,(zco c i x ⟨c.Today,x.ID,4,branch,0⟩ u).Holds,(zco c i x ⟨c.Today,x.ID,4,branch,0⟩ u).Charges,(zco c i x ⟨c.Today,x.ID,4,branch,0⟩ u).Rules,(zco c i x ⟨c.Today,x.ID,4,branch,0⟩ u).Cals,(zco c i x ⟨c.Today,x.ID,4,branch,0⟩ u).Moves,(zco c i x ⟨c.Today,x.ID,4,branch,0⟩ u).NextHold,(zco c i x ⟨c.Today,x.ID,4,branch,0⟩ u).NextCharge,(zco c i x ⟨c.Today,x.ID,4,branch,0⟩ u).Local⟩:Circ)=zcr (zco c i x ⟨c.Today,x.ID,4,branch,0⟩ u) l from rfl]
  rw[hat3]
  simp only[zai,hx2]
  have hru:qe6 (zcr (zco c i x ⟨c.Today,x.ID,4,branch,0⟩ u) l) n.Patron (zfk u x)=qe6 (zcr (zco c i x ⟨c.Today,x.ID,4,branch,0⟩ u) l) n.Patron x:=rfl
  rw[hru,z9b hm3.short]
  obtain ⟨r,b,hr,hrm⟩:=z9w (c:=zcr (zco c i x ⟨c.Today,x.ID,4,branch,0⟩ u) l) (p:=n.Patron) (x:=x) hm3.short
  have hT:(zco c i x ⟨c.Today,x.ID,4,branch,0⟩ u).Today=(zcr (zco c i x ⟨c.Today,x.ID,4,branch,0⟩ u) l).Today:=rfl
  rw[hr,hT]
  rw[←hc3]at hm3 hrm ⊢
  have fin:∀d:Circ,MidP d→(∃ch nc,d=zhr (zg3 c i x branch u l) ch nc)→SimD (match qb4 d.Charges n.Patron x.ID 2 with
   |some (r19,r20)=>some ((),(⟨⟨d.Today,d.Items,d.Patrons,d.Loans,d.Holds,r19,d.Rules,d.Cals,d.Moves,d.NextHold,d.NextCharge,d.Local⟩,0⟩:Circ_desk))
   |none=>none) (match qbw d.Charges n.Patron x.ID 2 with
   |some (r21,r22)=>some ((⟨d.Today,d.Items,d.Patrons,d.Loans,d.Holds,r21,d.Rules,d.Cals,d.Moves,d.NextHold,d.NextCharge,d.Local⟩:Circ),0)
   |none=>none) (fun d=>MidP d∧∃u ch nc,za8 x.Custody ⟨c.Today,x.ID,4,branch,0⟩=(u,0)∧d=zhr (zg3 c i x branch u l) ch nc):=by
   intro d hd hw
   obtain ⟨v1,f1⟩:=zal6 (p:=n.Patron) (item:=x.ID) (kind:=2) hd.short.charges
   obtain ⟨v2,f2⟩:=za2s (p:=n.Patron) (item:=x.ID) (kind:=2) hd.chN
   have hfl:=List.length_filter_le (fun y=>!(refQ n.Patron x.ID 2 y)) d.Charges
   have:=hd.chN
   rw[f1,f2]
   obtain ⟨ch,nc,rfl⟩:=hw
   exact .inl ⟨_,rfl,rfl,zaj6 hd (by omega) nc,u,_,nc,ha,rfl⟩
  have f0:=fin (zg3 c i x branch u l) hm3 ⟨(zg3 c i x branch u l).Charges,(zg3 c i x branch u l).NextCharge,rfl⟩
  cases b with
  |false=>exact f0
  |true=>
   obtain ⟨v,lv1,lv2,lv0⟩:=zatq (hm3.cal branch) (hm3.rules r (hrm rfl)) n.Due (zg3 c i x branch u l).Today
   simp only[cond_true,z9c hb,za3k hb,lv1,lv2]
   by_cases hv:v=0
   ·subst hv
    exact f0
   ·have hv2:(v==0)=false:=by simpa using hv
    have hv3:decide (0<v)=true:=by rw[decide_eq_true_eq];omega
    simp only[hv2,hv3,Bool.not_false,cond_true]
    rcases z0m hm3 n.Patron x.ID 1 v with ⟨d,q1,q2,hd,hd2,-⟩|⟨d,e,he,q1,q2,hsd⟩
    ·rw[q1,q2]
     have hmd:MidP d:=by rw[hd];exact zaj6 hm3 (zue hd2) _
     exact fin d hmd ⟨_,_,hd⟩
    ·obtain ⟨v1,f1⟩:=zal6 (p:=n.Patron) (item:=x.ID) (kind:=2) hsd.charges
     have hfl:=List.length_filter_le (fun y=>!(refQ n.Patron x.ID 2 y)) d.Charges
     have:=hsd.charges
     have he2:(e==0)=false:=by simpa using he
     rw[q1,q2]
     simp only[he2,Bool.not_false,cond_true,f1]
     exact .inr ⟨zhr d (d.Charges.filter (fun y=>!(refQ n.Patron x.ID 2 y))) d.NextCharge,e,he,rfl,rfl,zaev hsd (by omega) _⟩
 ·have he2:(e==0)=false:=by simpa using he
  rw[m1,m2]
  simp only[he2,Bool.not_false,cond_true]
  exact .inr ⟨c,e,he,rfl,rfl,h.short⟩
end Go.Proofs.YtdahfgialanmpaaGreatDoor
namespace Go.Proofs.YtdahfgialanmpaaGreatDoor
open Ev
open Go (IntKind)
def zmn (i item:Int) (d:Circ_desk):Option (Circ×Int×Int):=
 match qbc d.c item with
 |some (o,ok)=>
  match (bif ok&&o.State==2 then qdv i o d else qc9 i d) with
  |some (_,v)=>(match qbc v.c item with
   |some (r,_)=>(match qbh r.ID v with
    |some ((a,b,e),_)=>some (a,b,e)
    |none=>none)
   |none=>none)
  |none=>none
 |none=>none
def bndC (i item:Int) (a:Option (Unit×Circ_desk)):Option (Circ×Int×Int):=match a with|some (_,v)=>zmn i item v|none=>none
theorem zj3 {c:Circ} (hs:Short c) (i item e:Int) (he:e≠0):zmn i item ⟨c,e⟩=some (zhg,0,e):=by
 unfold zmn
 simp only[zip hs.holds,zmp c i e _ he,zpk c i e he]
 cases ((zb1 c item).2&&(zb1 c item).1.State==2)<;>
  simp only[cond_true,cond_false,zip hs.holds,zpo c _ e he]
theorem zf5 (u:Custody):zhk u=(u.State==4||u.State==9||u.State==10):=by
 unfold zhk
 cases u.State==4<;>cases u.State==9<;>rfl
theorem za2v {c:Circ} (hs:Short c) {i:Nat} {x:Item} (hf:fIdx (fun y=>y.ID==x.ID) c.Items=(i:Int)) (hx:c.Items[i]?=some x) (branch:Int) :
 qc6 c x.ID branch=(bif zhk x.Custody then bndC i x.ID (qfj i branch ⟨c,0⟩) else bif x.Custody.State==8 then bndC i x.ID (qbj i 4 branch 0 ⟨c,0⟩)
  else bif x.Custody.State==11 then bndC i x.ID (qbj i 14 branch 0 ⟨c,0⟩) else bif x.Custody.State==6 then bndC i x.ID (qbj i 7 branch 0 ⟨c,0⟩) else zmn i x.ID ⟨c,12⟩):=by
 have leaf:∀v23:Circ_desk,(match qbc v23.c x.ID with
  |some (r25,r26)=>
   let k41:Bool→Option (Circ×Int×Int):=fun v27=>
    let k:Circ_desk→Option (Circ×Int×Int):=fun v32=>
     match qbc v32.c x.ID with
     |some (r34,r35)=>(match qbh r34.ID v32 with
      |some ((r37,r38,r39),v40)=>some (r37,r38,r39)
      |none=>none)
     |none=>none
    bif v27 then (match qdv (i:Int) r25 v23 with|some (_,v29)=>k v29|none=>none)
    else (match qc9 (i:Int) v23 with|some (_,v31)=>k v31|none=>none)
   bif r26 then k41 (r25.State==2) else k41 false
  |none=>none)=zmn i x.ID v23:=by
  intro v
  unfold zmn
  cases qbc v.c x.ID with
  |none=>rfl
  |some q=>
   obtain ⟨o,ok⟩:=q
   dsimp only
   cases ok with
   |false=>rfl
   |true=>cases o.State==2<;>rfl
 have leaf2:∀a:Option (Unit×Circ_desk),bndC i x.ID a=bndC i x.ID a:=fun _=>rfl
 unfold qc6
 simp -zeta only[qce,zii hs,hf,ziz,cond_false,zai,hx]
 rw[zf5]
 have tb:∀(a:Option (Unit×Circ_desk)) (K:Circ_desk→Option (Circ×Int×Int)),(∀v,K v=zmn i x.ID v)→(match a with|some (_,v)=>K v|none=>none)=bndC i x.ID a:=by
  intro a K hK
  unfold bndC
  cases a with
  |none=>rfl
  |some p=>exact hK _
 cases x.Custody.State==4 with
 |true=>exact tb _ _ leaf
 |false=>
  cases x.Custody.State==9 with
  |true=>exact tb _ _ leaf
  |false=>
   cases x.Custody.State==10 with
   |true=>exact tb _ _ leaf
   |false=>
    cases x.Custody.State==8 with
    |true=>exact tb _ _ leaf
    |false=>
     cases x.Custody.State==11 with
     |true=>exact tb _ _ leaf
     |false=>
      cases x.Custody.State==6 with
      |true=>exact tb _ _ leaf
      |false=>exact leaf _
theorem zz5 {u:Custody} {day item kind branch who:Int} (h:(decide (branch<1)||decide (4<branch))=true):za8 u ⟨day,item,kind,branch,who⟩=(⟨0,0,0,0⟩,1):=by
 have hw:zia ⟨day,item,kind,branch,who⟩=false:=by
  unfold zia
  simp only[Bool.or_eq_true,decide_eq_true_eq]at h
  rcases h with h|h
  ·have:decide (1≤branch)=false:=by rw[decide_eq_false_iff_not];omega
   simp[this]
  ·have:decide (branch≤4)=false:=by rw[decide_eq_false_iff_not];omega
   simp[this]
 unfold za8
 rw[hw]
 simp
theorem z0l {c:Circ} (h:FitP c) {x:Item} (hx:x∈c.Items) (hs:¬x.Custody.State=5) {o:Hold} (ho:o∈c.Holds) (hg:o.Got=x.ID):o.State=2∧x.Custody.State=6:=by
 have hsh:=zni h.holds ho
 have hid:=zatj h hx
 have h1:¬o.State=1:=by
  intro e
  unfold zbl at hsh
  have h2:=zb4 hsh (by decide)
  rw[h2]at hsh
  simp only[cond_false]at hsh
  have h3:=zb4 hsh (by decide)
  rw[h3]at hsh
  simp only[cond_false]at hsh
  have h4:=zb4 hsh (by decide)
  simp only[Bool.or_eq_false_iff]at h4
  have e1:(o.State==1)=true:=by simpa using e
  have e2:decide (0<o.Got)=true:=by rw[decide_eq_true_eq,hg];omega
  rw[e1,e2]at h4
  exact absurd h4.1 (by decide)
 have hG:=h.holdG o ho
 unfold zf9 at hG
 have hfind:c.Items.find? (fun y=>y.ID==o.Got)=some x:=by
  rw[hg]
  exact zma (key:=fun y:Item=>y.ID) (zil h.items) hx
 rw[hfind]at hG
 have e1:(o.State==1)=false:=by simpa using h1
 rw[e1]at hG
 simp only[Bool.and_eq_true,Bool.false_or,Bool.not_eq_true',Bool.and_eq_false_iff,Bool.or_eq_false_iff,Bool.not_eq_false',beq_iff_eq,beq_eq_false_iff_ne,ne_eq]at hG
 obtain ⟨_,⟨_,q3⟩,q2⟩:=hG
 rcases z1a hsh with e|e|e
 ·exact absurd e h1
 ·refine ⟨e,?_⟩
  rcases q2 with q2|q2
  ·exact absurd e q2
  ·exact q2.1.1
 ·rcases q3 with q3|q3
  ·exact absurd e q3
  ·exact absurd q3.1.1 hs
end Go.Proofs.YtdahfgialanmpaaGreatDoor
namespace Go.Proofs.YtdahfgialanmpaaGreatDoor
open Ev
open Go (IntKind)
theorem zjy {l m:List Hold} {v item st u:Int} (h:zew l v item st u=(m,0)):m.length=l.length∧∃o,m.find? (fun h=>h.Got==item)=some o∧o.ID=v:=by
 unfold zew at h
 rcases zbb (fun x:Hold=>x.ID==v) l with ⟨h1,h2⟩|⟨i,x,h1,h2,h3,h4⟩
 ·rw[h2]at h;cases h
 ·rw[h4]at h
  simp only at h
  cases hq:(!(rng 1 9999 item)||!(okS st u)) with
  |true=>rw[hq]at h;cases h
  |false=>
   rw[hq]at h
   simp only[cond_false]at h
   cases hq2:(!(x.State==1)&&((!(x.State==2)||!(x.Got==item))||!(st==3))) with
   |true=>rw[hq2]at h;cases h
   |false=>
    rw[hq2]at h
    simp only[cond_false]at h
    cases hq3:l.any (fun o=>o.Got==item&&!(o.ID==v)) with
    |true=>rw[hq3]at h;cases h
    |false=>
     rw[hq3]at h
     simp only[cond_false,h1,Int.toNat_natCast,Prod.mk.injEq,and_true]at h
     subst h
     have hx:x.ID=v:=by simpa using h3
     have hlt:=(List.getElem?_eq_some_iff.1 h2).1
     refine ⟨by simp,?_⟩
     cases hf:(l.set i (gotH x item st u)).find? (fun h=>h.Got==item) with
     |none=>
      have:=List.find?_eq_none.1 hf (gotH x item st u) (List.mem_of_getElem? (i:=i) (by rw[List.getElem?_set_self hlt]))
      exact absurd (by show (item==item)=true;simp) this
     |some o=>
      refine ⟨o,rfl,?_⟩
      have hm:=List.mem_of_find?_eq_some hf
      have hg:o.Got=item:=by have:=List.find?_some hf;simpa using this
      rcases List.mem_or_eq_of_mem_set hm with hm|hm
      ·have:=List.any_eq_false.1 hq3 o hm
       rw[hg]at this
       simpa using this
      ·rw[hm];exact hx
theorem zau1 {u:Custody} {x:Item} {b:Int} {v:Bool}:∀(q:List Hold) (f:Int),zhj b v (zfk u x) q f=zhj b v x q f:=by
 intro q
 induction q with
 |nil=>intro f;rfl
 |cons h q ih=>
  intro f
  show (match zqb b v x h f with | .inl f=>zhj b v (zfk u x) q f | .inr r=>r)=(match zqb b v x h f with | .inl f=>zhj b v x q f | .inr r=>r)
  cases zqb b v x h f with
  |inl f=>exact ih f
  |inr r=>rfl
theorem zauq {c:Circ} (h:MidP c) (r:Int):(c.Holds.filter (zbq r c.Today)).length<20:=by
 have e:c.Holds.filter (zbq r c.Today)=(c.Holds.filter (fun o=>o.Record==r)).filter (zbq r c.Today):=by
  rw[List.filter_filter]
  apply List.filter_congr
  intro o _
  unfold zbq
  cases o.Record==r<;>simp
 rw[e]
 have:=List.length_filter_le (zbq r c.Today) (c.Holds.filter (fun o=>o.Record==r))
 have:=h.few r
 omega
theorem zjf {c:Circ} (h:MidP c) (x:Item) (branch:Int):qaw c.Holds x branch c.Today c.Local=some (zhj branch c.Local x (zaz (c.Holds.filter (zbq x.Record c.Today))) 0):=
 zal4 h.holdsN (zauq h x.Record) (fun o ho=>(h.rank o ho).1)
theorem zalu {c d:Circ} (h:MidP c) (x:Item) {u:Custody} {branch:Int} (hb:u.Branch=branch) (hH:d.Holds=c.Holds) (hT:d.Today=c.Today) (hL:d.Local=c.Local) :
 qdo d (zfk u x)=qaw c.Holds x branch c.Today c.Local:=by
 unfold qdo
 rw[hH,hT,hL,show (zfk u x).Custody.Branch=branch from hb,zjf h (zfk u x) branch,zjf h x branch,zau1]
 try rfl
theorem zqt {c:Custody} {m:Move} {u:Custody} (h:za8 c m=(u,0)) (hk:(zcy m.Kind==2)=true):u.Branch=m.Branch:=by
 unfold za8 at h
 cases e1:(!(zh9 c)||!(zia m)) with
 |true=>rw[e1]at h;cases h
 |false=>
  rw[e1]at h
  simp only[cond_false]at h
  cases e2:!(zif c.State m.Kind) with
  |true=>rw[e2]at h;cases h
  |false=>
   rw[e2]at h
   simp only[cond_false]at h
   cases e3:(m.Kind==3&&c.State==5&&!(m.Who==c.Who)) with
   |true=>rw[e3]at h;cases h
   |false=>
    rw[e3]at h
    simp only[cond_false]at h
    cases e4:!(z2h c m) with
    |true=>rw[e4]at h;cases h
    |false=>
     rw[e4]at h
     simp only[cond_false,hk,cond_true]at h
     cases h
     try rfl
def FstP (c d:Circ) (x:Item) (branch n:Int):Prop:=match c.Holds.find? (fun h=>h.Got==x.ID) with
 |some o=>n=o.ID∧o.State=2
 |none=>qaw c.Holds x branch c.Today c.Local=some n∧d.Holds.length=c.Holds.length
theorem zqy {c:Circ} {x:Item} {branch:Int} {i:Nat} {a:Option (Unit×Circ_desk)} {b:Option (Circ×Int)} {Q:Circ→Prop} (hs:SimD a b Q) (hC:∀o∈c.Holds,o.Got=x.ID→o.State=2)
 (hQ:∀d,Q d→MidP d∧d.Holds=c.Holds∧∃y,d.Items[i]?=some y∧y.ID=x.ID∧qdo d y=qaw c.Holds x branch c.Today c.Local) :
 ∃d n e,bndC i x.ID a=some (d,n,e)∧(e≠0→n=0)∧(e=0→FstP c d x branch n):=by
 rcases hs with ⟨d,rfl,rfl,hq⟩|⟨d,e,he,rfl,rfl,hsd⟩
 ·obtain ⟨hd,hH,y,hy,hid,hp⟩:=hQ d hq
  rw[←hid]
  unfold bndC zmn
  simp only[zip hd.short.holds]
  unfold FstP
  rw[←hH]at hp
  rw[←hH,←hid]
  cases hf:d.Holds.find? (fun h=>h.Got==y.ID) with
  |some o=>
   have ec:zb1 d y.ID=(o,true):=by unfold zb1;rw[hf]
   have h2:o.State=2:=hC o (by rw[←hH];exact List.mem_of_find?_eq_some hf) (by rw[←hid];have:=List.find?_some hf;simpa using this)
   have h3:(o.State==2)=true:=by simpa using h2
   rw[ec]
   simp only[h3,Bool.and_self,cond_true]
   rcases zol hd hy o with ⟨d2,a1,a2,⟨hd2,-⟩,-,st,u,hg⟩|⟨d2,e,he,a1,a2,hsd⟩
   ·obtain ⟨-,o2,q1,q2⟩:=zjy hg
    have ec2:zb1 d2 y.ID=(o2,true):=by unfold zb1;rw[q1]
    rw[a1]
    simp only[zip hd2.short.holds,ec2,zu2]
    exact ⟨_,_,_,rfl,fun h=>absurd rfl h,fun _=>⟨q2,h2⟩⟩
   ·rw[a1]
    simp only[zip hsd.holds,zpo d2 _ e he]
    exact ⟨_,_,_,rfl,fun _=>rfl,fun h=>absurd h he⟩
  |none=>
   have ec:zb1 d y.ID=(zim,false):=by unfold zb1;rw[hf]
   rw[ec]
   simp only[Bool.false_and,cond_false]
   rcases z3z hd hy with ⟨d2,a1,a2,⟨hd2,-⟩,-,v,hv,hg⟩|⟨d2,e,he,a1,a2,hsd⟩
   ·rw[a1]
    rcases hg with ⟨rfl,hg⟩|⟨st,u,hg,-⟩
    ·have ec2:zb1 d2 y.ID=(zim,false):=by unfold zb1;rw[hg,hf]
     simp only[zip hd2.short.holds,ec2,zu2]
     exact ⟨_,_,_,rfl,fun h=>absurd rfl h,fun _=>⟨by rw[←hp,hv];rfl,by rw[hg]⟩⟩
    ·obtain ⟨q0,o2,q1,q2⟩:=zjy hg
     have ec2:zb1 d2 y.ID=(o2,true):=by unfold zb1;rw[q1]
     simp only[zip hd2.short.holds,ec2,zu2]
     exact ⟨_,_,_,rfl,fun h=>absurd rfl h,fun _=>⟨by rw[←hp,hv,q2],q0⟩⟩
   ·rw[a1]
    simp only[zip hsd.holds,zpo d2 _ e he]
    exact ⟨_,_,_,rfl,fun _=>rfl,fun h=>absurd h he⟩
 ·unfold bndC
  simp only[zj3 hsd _ _ e he]
  exact ⟨_,_,_,rfl,fun _=>rfl,fun h=>absurd h he⟩
theorem zz6 {c:Circ} (m:MidP c) (h:FitP c) (hln:c.Loans.length<100000000) {item branch:Int} :
 ∃d n e,qc6 c item branch=some (d,n,e)∧(e≠0→n=0)∧(e=0→∃x,c.Items.find? (fun x=>x.ID==item)=some x∧x.ID=item∧FstP c d x branch n):=by
 rcases z1f m item with ⟨h1,h2,-⟩|⟨i,x,h1,h2,hx,hid,hfind⟩
 ·unfold qc6
  simp -zeta only[qce,zii m.short]
  rw[h1]
  exact ⟨_,_,_,rfl,fun _=>rfl,fun h=>by cases h⟩
 ·subst hid
  rw[za2v m.short h1 hx]
  have hmem:=List.mem_of_getElem? hx
  have wrap:(∃d n e,(bif zhk x.Custody then bndC i x.ID (qfj i branch ⟨c,0⟩) else bif x.Custody.State==8 then bndC i x.ID (qbj i 4 branch 0 ⟨c,0⟩)
   else bif x.Custody.State==11 then bndC i x.ID (qbj i 14 branch 0 ⟨c,0⟩) else bif x.Custody.State==6 then bndC i x.ID (qbj i 7 branch 0 ⟨c,0⟩) else zmn i x.ID ⟨c,12⟩)=some (d,n,e)∧(e≠0→n=0)∧(e=0→FstP c d x branch n))→
    ∃d n e,(bif zhk x.Custody then bndC i x.ID (qfj i branch ⟨c,0⟩) else bif x.Custody.State==8 then bndC i x.ID (qbj i 4 branch 0 ⟨c,0⟩)
   else bif x.Custody.State==11 then bndC i x.ID (qbj i 14 branch 0 ⟨c,0⟩) else bif x.Custody.State==6 then bndC i x.ID (qbj i 7 branch 0 ⟨c,0⟩) else zmn i x.ID ⟨c,12⟩)=some (d,n,e)∧(e≠0→n=0)∧(e=0→∃y,c.Items.find? (fun y=>y.ID==x.ID)=some y∧y.ID=x.ID∧FstP c d y branch n):=by
   rintro ⟨d,n,e,q1,q2,q3⟩
   exact ⟨d,n,e,q1,q2,fun he=>⟨x,hfind,rfl,q3 he⟩⟩
  apply wrap
  have hC:¬x.Custody.State=5→∀o∈c.Holds,o.Got=x.ID→o.State=2:=fun h5 o ho hg=>(z0l h hmem h5 ho hg).1
  have mv:∀kind:Int,¬x.Custody.State=5→(zcy kind==2)=true→∃d n e,bndC i x.ID (qbj i kind branch 0 ⟨c,0⟩)=some (d,n,e)∧(e≠0→n=0)∧(e=0→FstP c d x branch n):=by
   intro kind h5 hk
   refine zqy (b:=qaj c x.ID kind branch 0) (Q:=fun d=>∃u,d=zco c i x ⟨c.Today,x.ID,kind,branch,0⟩ u∧u.Branch=branch∧MidP d) ?_ (hC h5) ?_
   ·rcases zjh m hx kind branch 0 with ⟨u,ha,m1,m2,hm2⟩|⟨e,he,m1,m2⟩
    ·exact .inl ⟨_,m1,m2,u,rfl,zqt ha hk,hm2⟩
    ·exact .inr ⟨c,e,he,m1,m2,m.short⟩
   ·rintro d ⟨u,rfl,hu,hd⟩
    exact ⟨hd,rfl,zfk u x,zjg hx _ u,rfl,zalu m x hu rfl rfl rfl⟩
  cases hp:zhk x.Custody with
  |true=>
   simp only[cond_true]
   have h5:¬x.Custody.State=5:=by
    intro e
    rw[zf5,e]at hp
    cases hp
   have hl:=h.itemG x hmem
   rw[hp]at hl
   unfold zrm at hl
   cases hb:(decide (branch<1)||decide (4<branch)) with
   |true=>
    have dm:=zij (kind:=4) (branch:=branch) (who:=0) m.short (by have:=m.moves;omega) hx
    rw[zz5 hb]at dm
    have e1:qfj (i:Int) branch ⟨c,0⟩=some ((),⟨c,1⟩):=by
     unfold qfj
     simp only[zai,hx]
     rw[dm]
     try rfl
    rw[e1]
    refine ⟨_,_,_,zj3 m.short _ _ 1 (by decide),fun _=>rfl,fun h=>by cases h⟩
   |false=>
    have hbr:rng 1 4 branch=true:=by
     rw[zbw]
     simp only[Bool.or_eq_false_iff,decide_eq_false_iff_not]at hb
     omega
    cases hn:c.Loans.find? (fun n=>n.Item==x.ID) with
    |none=>rw[hn]at hl;cases hl
    |some n=>
     refine zqy (zt1 m hln hx hn hbr) (hC h5) ?_
     rintro d ⟨hd,u,ch,nc,ha,rfl⟩
     exact ⟨hd,rfl,zfk u x,zjg hx ⟨c.Today,x.ID,4,branch,0⟩ u,rfl,zalu m x (zqt ha rfl) rfl rfl rfl⟩
  |false=>
   simp only[cond_false]
   cases h8:x.Custody.State==8 with
   |true=>exact mv 4 (by have:x.Custody.State=8:=(by simpa using h8);omega) rfl
   |false=>
    simp only[cond_false]
    cases h11:x.Custody.State==11 with
    |true=>exact mv 14 (by have:x.Custody.State=11:=(by simpa using h11);omega) rfl
    |false=>
     simp only[cond_false]
     cases h6:x.Custody.State==6 with
     |true=>exact mv 7 (by have:x.Custody.State=6:=(by simpa using h6);omega) rfl
     |false=>
      simp only[cond_false]
      rw[zj3 m.short _ _ 12 (by decide)]
      exact ⟨_,_,_,rfl,fun _=>rfl,fun h=>by cases h⟩
theorem zafi {c d:Circ} {item branch n:Int} (hl:c.Holds.length<1000000000):zae z2r (item,branch,n,0,c,d,()) =
 some (match c.Holds.find? (fun h=>h.Got==item) with|some o=>.inr (n==o.ID&&o.State==2,())|none=>.inl (item,branch,n,c,d,())):=by
 have h:=zba (step:=z2r) (fun i=>(item,branch,n,(i:Int),c,d,())) c.Holds (fun h=>h.Got==item) (fun _ o=>(.inr (n==o.ID&&o.State==2,()):(Int×Int×Int×Circ×Circ×Unit)⊕(Bool×Unit))) (.inl (item,branch,n,c,d,())) hl
  (by simp only[z2r,dge,cond_false])
  (fun i o ho=>by
   have hi:=(List.getElem?_eq_some_iff.1 ho).1
   simp -zeta only[z2r,dlt hi,zai,ho,cond_true,zov,zap (show i<9223372036854775807 by omega)]
   dsimp only
   cases o.Got==item with
   |false=>rfl
   |true=>cases n==o.ID<;>rfl)
 rw[ze3]at h
 refine Eq.trans h ?_
 cases c.Holds.find? (fun h=>h.Got==item)<;>rfl
theorem z6q {c d:Circ} {item branch n:Int} (m:MidP c):zae zok (item,branch,n,0,c,d,()) =
 some (match c.Items.find? (fun x=>x.ID==item) with|some x=>.inr (n==zhj branch c.Local x (zaz (c.Holds.filter (zbq x.Record c.Today))) 0&&(d.Holds.length:Int)==(c.Holds.length:Int),())|none=>.inl ()):=by
 have h:=zba (step:=zok) (fun i=>(item,branch,n,(i:Int),c,d,())) c.Items (fun x=>x.ID==item) (fun _ x=>(.inr (n==zhj branch c.Local x (zaz (c.Holds.filter (zbq x.Record c.Today))) 0&&(d.Holds.length:Int)==(c.Holds.length:Int),()):Unit⊕(Bool×Unit))) (.inl ()) m.short.items
  (by simp only[zok,dge,cond_false])
  (fun i x hx=>by
   have hi:=(List.getElem?_eq_some_iff.1 hx).1
   have hlen:=m.short.items
   simp -zeta only[zok,dlt hi,zai,hx,cond_true,zov,zjf m,zap (show i<9223372036854775807 by omega)]
   dsimp only
   cases x.ID==item with
   |false=>rfl
   |true=>cases n==zhj branch c.Local x (zaz (c.Holds.filter (zbq x.Record c.Today))) 0<;>rfl)
 rw[ze3]at h
 refine Eq.trans h ?_
 cases c.Items.find? (fun x=>x.ID==item)<;>rfl
theorem zmy (c:Circ) (item branch:Int):qz c item branch=some true:=by
 unfold qz
 simp only[za28,zov]
 cases hb:zl9 c&&zon c with
 |false=>rfl
 |true=>
  simp only[Bool.and_eq_true]at hb
  have hm:=zany hb.1
  have hf:=fitP hb.2
  have h:=zatf hm hf
  obtain ⟨d,n,e,q1,q2,q3⟩:=zz6 h hf (by have:=hm.loans;omega) (item:=item) (branch:=branch)
  rw[q1]
  simp only[Bool.not_true,cond_false]
  by_cases he:e=0
  ·subst he
   obtain ⟨x,hx,hid,hF⟩:=q3 rfl
   unfold FstP at hF
   rw[hid]at hF
   simp only[beq_self_eq_true,Bool.not_true,cond_false,zafi h.short.holds]
   cases ho:c.Holds.find? (fun h=>h.Got==item) with
   |some o=>
    rw[ho]at hF
    obtain ⟨rfl,h2⟩:=hF
    simp[h2]
   |none=>
    rw[ho]at hF
    obtain ⟨hp,hl⟩:=hF
    rw[zjf h]at hp
    cases hp
    simp only[z6q h,hx]
    simp[hl]
  ·have he2:(e==0)=false:=by simpa using he
   have:=q2 he
   subst this
   simp only[he2,Bool.not_false,cond_true]
   try rfl
end Go.Proofs.YtdahfgialanmpaaGreatDoor
