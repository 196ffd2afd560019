/- CircLoses: a part of the proof of the given statement, which is proved without conditions. -/
import Derived.Test.YtdahfgialanmpaaGreatDoorW6
set_option linter.all false
namespace Go.Proofs.YtdahfgialanmpaaGreatDoor
open Ev
open Go (IntKind)
structure MidP (c:Circ):Prop where
 short:Short c
 moves:c.Moves.length<10000000
 holdsN:c.Holds.length<1000000
 sorted:∀(i:Nat) (x:Hold),c.Holds[i]?=some x→zbp c.Holds i (fun y=>decide (x.ID≤y.ID))=false
 rank:∀o∈c.Holds,rng 0 9 o.Rank=true∧o.ID≠0
 few:∀r,(c.Holds.filter (fun o=>o.Record==r)).length<20
 cal:∀b,CalOk (calS c b)
 rules:∀r∈c.Rules,zo1 r=true
 branch:∀x∈c.Items,rng 1 4 x.Custody.Branch=true
 ids:∀(i:Nat) (x:Item) (j:Nat) (y:Item),c.Items[i]?=some x→c.Items[j]?=some y→x.ID=y.ID→i=j
 chN:c.Charges.length<1000000
theorem zau6 {c:Circ} (hm:SmallP c) (h:FitP c):MidP c:=by
 refine ⟨hm.short,by have:=hm.moves;omega,by have:=hm.holds;omega,zsd h.holds,fun o ho=>z2i h ho,fun r=>?_,zapw h,fun r hr=>zawx h hr,fun x hx=>z2f h hx,fun i x j y hx hy e=>?_,by have:=hm.charges;omega⟩
 ·have:=List.length_filter_le (fun o:Hold=>o.Record==r) c.Holds
  have:=hm.holds
  omega
 ·have hs:=zsm h.items
  rcases Nat.lt_trichotomy i j with hl|hl|hl
  ·have:=zec (key:=fun y:Item=>y.ID) hs j i x y hl hx hy;omega
  ·exact hl
  ·have:=zec (key:=fun y:Item=>y.ID) hs i j y x hl hy hx;omega
theorem z0x {c:Circ} (h:MidP c) {i:Nat} {x:Item} (hx:c.Items[i]?=some x):qg c x.ID=some (i:Int):=by
 rw[zaja h.short.items]
 rcases za3 (fun y:Item=>y.ID==x.ID) c.Items with ⟨h1,h2⟩|⟨j,y,h1,h2,h3,h4⟩
 ·have:=List.find?_eq_none.1 h2 x (List.mem_of_getElem? hx)
  simp at this
 ·rw[h1,h.ids i x j y hx h2 (by simpa using (by simpa using h3:y.ID=x.ID).symm)]
theorem zcj {X Y:Type} {f:X→Y} {l:List X} {j:Nat} {x y:X} (hx:l[j]?=some x) (hf:f y=f x):(l.set j y).map f=l.map f:=by
 rw[List.map_set,hf]
 apply List.ext_getElem?
 intro k
 rw[List.getElem?_set]
 split
 ·rename_i e
  subst e
  split
  ·rw[List.getElem?_map,hx];rfl
  ·rename_i hk
   have:=(List.getElem?_eq_some_iff.1 hx).1
   exact absurd (by simpa using this) hk
 ·rfl
theorem zau7 {l m:List Item} (e:m.map (fun x=>x.ID)=l.map (fun x=>x.ID)) (h:∀(i:Nat) (x:Item) (j:Nat) (y:Item),l[i]?=some x→l[j]?=some y→x.ID=y.ID→i=j) :
 ∀(i:Nat) (x:Item) (j:Nat) (y:Item),m[i]?=some x→m[j]?=some y→x.ID=y.ID→i=j:=by
 have key:∀(i:Nat) (x:Item),m[i]?=some x→∃x',l[i]?=some x'∧x'.ID=x.ID:=by
  intro i x hx
  have h1:(m.map (fun x=>x.ID))[i]?=some x.ID:=by rw[List.getElem?_map,hx];rfl
  rw[e,List.getElem?_map]at h1
  cases hl:l[i]? with
  |none=>rw[hl]at h1;cases h1
  |some x'=>rw[hl]at h1;exact ⟨x',rfl,by simpa using h1⟩
 intro i x j y hx hy hxy
 obtain ⟨x',hx',ex⟩:=key i x hx
 obtain ⟨y',hy',ey⟩:=key j y hy
 exact h i x' j y' hx' hy' (by rw[ex,ey,hxy])
theorem zaae {c:Circ} (h:MidP c) {i:Nat} {x:Item} (hx:c.Items[i]?=some x) {m:Move} {u:Custody} (hu:rng 1 4 u.Branch=true) (hl:c.Moves.length<5000000):MidP (zg5 c i x m u):=by
 refine ⟨zv9 h.short (by omega) hx,?_,h.holdsN,h.sorted,h.rank,h.few,h.cal,h.rules,fun y hy=>?_,?_,h.chN⟩
 ·show (c.Moves++[m]).length<_
  simp;omega
 ·rcases List.mem_or_eq_of_mem_set hy with hy|hy
  ·exact h.branch y hy
  ·rw[hy];exact hu
 ·exact zau7 (zcj hx rfl) h.ids
theorem zmu {c:Custody} {m:Move} {u:Custody} (h:zbl c m=(u,0)):rng 1 4 u.Branch=true:=by
 have:=zhf (c:=c) (m:=m) (by rw[h];rfl)
 rw[h]at this
 exact this
theorem zfn {c:Circ} (h:MidP c) {i:Nat} {x:Item} (hx:c.Items[i]?=some x) (kind branch who:Int) :
 (∃u,zbl x.Custody ⟨c.Today,x.ID,kind,branch,who⟩=(u,0)∧qa6 (i:Int) kind branch who ⟨c,0⟩=some ((),⟨zg5 c i x ⟨c.Today,x.ID,kind,branch,who⟩ u,0⟩)∧
  q9 c x.ID kind branch who=some (zg5 c i x ⟨c.Today,x.ID,kind,branch,who⟩ u,0)∧MidP (zg5 c i x ⟨c.Today,x.ID,kind,branch,who⟩ u))∨
 (∃e,e≠0∧qa6 (i:Int) kind branch who ⟨c,0⟩=some ((),⟨c,e⟩)∧q9 c x.ID kind branch who=some (zdx,e)):=by
 have hmv:=h.moves
 have dm:=zr5 (kind:=kind) (branch:=branch) (who:=who) h.short (by omega) hx
 have rm:=za6d (kind:=kind) (branch:=branch) (who:=who) h.short (by omega) (z0x h hx) hx rfl
 rw[dm,rm]
 cases ha:zbl x.Custody ⟨c.Today,x.ID,kind,branch,who⟩ with
 |mk u e=>
  by_cases hE:zm6 c e=0
  ·left
   simp only[hE,beq_self_eq_true,cond_true]
   have he:e=0∧c.Moves.length<2000:=by
    unfold zm6 at hE
    cases hb:(e==0&&decide (2000≤(c.Moves.length:Int))) with
    |true=>rw[hb]at hE;cases hE
    |false=>
     rw[hb]at hE
     simp only[cond_false]at hE
     subst hE
     simp only[beq_self_eq_true,Bool.true_and,decide_eq_false_iff_not]at hb
     exact ⟨rfl,by omega⟩
   obtain ⟨rfl,hlen⟩:=he
   exact ⟨u,rfl,rfl,rfl,zaae h hx (zmu ha) (by omega)⟩
  ·right
   have hE2:(zm6 c e==0)=false:=by simpa using hE
   simp only[hE2,cond_false]
   exact ⟨zm6 c e,hE,rfl,rfl⟩
theorem zpz (c:Circ) (i kind branch who e0:Int) (h0:e0≠0):qa6 i kind branch who ⟨c,e0⟩=some ((),⟨c,e0⟩):=by
 have h:(e0==0)=false:=by simpa using h0
 unfold qa6
 simp only[h,Bool.not_false,cond_true]
theorem zqs {c:Circ} (h:MidP c) {i:Nat} {x:Item} (hx:c.Items[i]?=some x):∃v,qc5 c x=some v∧qdv c x.ID=some v∧(getH c.Holds v).2=!(v==0)∧(v≠0→∃o∈c.Holds,o.ID=v∧getH c.Holds v=(o,true)∧zcc x.Record c.Today o=true):=by
 have hf:(c.Holds.filter (zcc x.Record c.Today)).length<20:=by
  have e:c.Holds.filter (zcc x.Record c.Today)=(c.Holds.filter (fun o=>o.Record==x.Record)).filter (zcc x.Record c.Today):=by
   rw[List.filter_filter]
   apply List.filter_congr
   intro o _
   unfold zcc
   cases o.Record==x.Record<;>simp
  rw[e]
  have:=List.length_filter_le (zcc x.Record c.Today) (c.Holds.filter (fun o=>o.Record==x.Record))
  have:=h.few x.Record
  omega
 have q1:=za4c (l:=c.Holds) (x:=x) (branch:=x.Custody.Branch) (day:=c.Today) (vlocal:=c.Local) h.holdsN hf (fun o ho=>(h.rank o ho).1)
 have q2:=za37 (l:=c.Holds) (x:=x) (branch:=x.Custody.Branch) (day:=c.Today) (vlocal:=c.Local) h.holdsN h.sorted
 rw[zaak (fun o ho=>(h.rank o (List.mem_filter.1 (zgi ho)).1).2) (fun _=>rfl)]at q1
 refine ⟨_,by unfold qc5;rw[q1],by unfold qdv;rw[z0x h hx];simp only[zag,hx,q2],?_,?_⟩
 ·rcases zud (branch:=x.Custody.Branch) (vlocal:=c.Local) (x:=x) (q:=zbc (c.Holds.filter (zcc x.Record c.Today))) (f:=0) with e|⟨o,ho,e⟩
  ·rw[e]
   unfold getH
   have:c.Holds.find? (fun h=>h.ID==0)=none:=by
    rw[List.find?_eq_none]
    intro o ho
    have:=(h.rank o ho).2
    simpa using this
   rw[this]
   try rfl
  ·rw[e]
   have hm:=(List.mem_filter.1 (zgi ho)).1
   rw[zhn h.sorted hm]
   have:=(h.rank o hm).2
   simp[this]
 ·intro hv
  rcases zud (branch:=x.Custody.Branch) (vlocal:=c.Local) (x:=x) (q:=zbc (c.Holds.filter (zcc x.Record c.Today))) (f:=0) with e|⟨o,ho,e⟩
  ·exact absurd e hv
  ·have hm:=List.mem_filter.1 (zgi ho)
   exact ⟨o,hm.1,e.symm,by rw[e];exact zhn h.sorted hm.1,hm.2⟩
end Go.Proofs.YtdahfgialanmpaaGreatDoor
namespace Go.Proofs.YtdahfgialanmpaaGreatDoor
open Ev
open Go (IntKind)
theorem za3h {α:Type} (a b:Bool) (x y:α):(bif a then (bif b then x else y) else y)=bif a&&b then x else y:=by cases a<;>rfl
def okS (state u:Int):Bool:=(state==3&&rng 1 109572 u)||(state==2&&u==0)
def gotH (x:Hold) (item state u:Int):Hold:=⟨x.ID,x.Patron,x.Record,x.Item,x.Pickup,x.Placed,state,item,u,x.Asleep,x.Rank⟩
def zfw (l:List Hold) (id item state u:Int):List Hold×Int:=
 match l.find? (fun h=>h.ID==id) with
 |none=>([],9)
 |some x=>bif !(rng 1 9999 item)||!(okS state u) then ([],1)
  else bif !(x.State==1)&&((!(x.State==2)||!(x.Got==item))||!(state==3)) then ([],12)
  else bif l.any (fun o=>o.Got==item&&!(o.ID==id)) then ([],7)
  else (l.set (fIdx (fun h=>h.ID==id) l).toNat (gotH x item state u),0)
theorem z1y {l:List Hold} (hl:l.length<1000000000):qd0 l=some l:=by
 unfold qd0;rw[zi7 hl];rfl
theorem zaob {l:List Hold} {i:Nat} {x y:Hold} (hl:l.length<1000000000) (hx:l[i]?=some x):qec l (i:Int) y=some (l.set i y):=by
 unfold qec
 simp only[z1y hl,zag,hx,Int.toNat_natCast]
theorem zawe (state u:Int):(!(okS state u))=(!(state==3&&rng 1 109572 u)&&(!(state==2)||!(u==0))):=by
 unfold okS
 cases (state==3&&rng 1 109572 u)<;>cases state==2<;>cases u==0<;>rfl
theorem zani {l:List Hold} {id item state u:Int} (hl:l.length<1000000000):qap l id item state u=some (zfw l id item state u):=by
 unfold qap qa2 zfw
 rw[zuf (p:=fun (g:Unit×Int×Unit) x0=>qeq x0 g.2.1) (g:=((),(id,()))) (fun x=>x.ID==id) hl (fun x _=>rfl)]
 have hc:=zaav (p:=fun (g:Unit×Int×Int×Unit) x0=>qc1 x0 g.2.1 g.2.2.1) (g:=((),(item,id,()))) (fun o=>o.Got==item&&!(o.ID==id)) hl (fun o _=>by
  simp -zeta only[qc1,za4];rfl)
 rcases za3 (fun x:Hold=>x.ID==id) l with ⟨h1,h2⟩|⟨i,x,h1,h2,h3,h4⟩
 ·simp only[h1,h2,ziy,cond_true]
 ·simp -zeta only[h1,h4,zf2,cond_false,zag,h2,za4h,k_or,za4,zib,Int.toNat_natCast]
  dsimp only
  rw[zawe]
  cases (!(rng 1 9999 item)||(!(state==3&&rng 1 109572 u)&&(!(state==2)||!(u==0)))) with
  |true=>rfl
  |false=>
   simp only[cond_false,za3h]
   cases (!(x.State==1)&&((!(x.State==2)||!(x.Got==item))||!(state==3))) with
   |true=>rfl
   |false=>
    simp only[cond_false,hc]
    cases l.any (fun o=>o.Got==item&&!(o.ID==id)) with
    |true=>rfl
    |false=>simp only[cond_false,zaob hl h2];rfl
theorem zaat {l:List Hold} {y:Hold} (hl:l.length<1000000000):qbd l y=some (l.map (fun x=>bif x.ID==y.ID then y else x)):=by
 have h:=zb4 (step:=zor) (fun (i:Nat) (s:List Hold)=>s.length≤i) (fun i s=>(l,(i:Int),y,s,())) l
  (fun i x s=>.inl (s++[bif x.ID==y.ID then y else x])) (fun s=>(s,())) (by rw[za6];omega)
  (fun s _=>by simp only[zor,dge,cond_false])
  (fun i x s hx hi=>by
   have hlt:=(List.getElem?_eq_some_iff.1 hx).1
   have l1:∀z:Hold,decide (s.length+([z]:List Hold).length≤LIM)=true:=fun z=>ze8 (by simp;omega)
   refine ⟨?_,fun s' hs'=>?_⟩
   ·simp only[zor,dlt hlt,zag,hx,cond_true,l1,zam (show i<9223372036854775807 by omega)]
    cases x.ID==y.ID<;>rfl
   ·cases hs'
    simp
    omega) [] (by simp)
 rw[zfe]at h
 unfold qbd
 rw[show zac zor (l,0,y,([]:List Hold),())=_ from h]
 simp only
 congr 1
 have key:∀(l o:List Hold),l.foldl (fun s x=>s++[bif x.ID==y.ID then y else x]) o=o++l.map (fun x=>bif x.ID==y.ID then y else x):=by
  intro l
  induction l with
  |nil=>intro o;simp
  |cons x l ih=>intro o;rw[List.foldl_cons,ih];simp
 rw[key,List.nil_append]
theorem zoa {l:List Hold} (hsort:∀i x,l[i]?=some x→zbp l i (fun y=>decide (x.ID≤y.ID))=false) {i:Nat} {x y:Hold} (hx:l[i]?=some x) (hy:y.ID=x.ID):l.map (fun z=>bif z.ID==y.ID then y else z)=l.set i y:=by
 apply List.ext_getElem?
 intro j
 rw[List.getElem?_map,List.getElem?_set]
 have hlt:=(List.getElem?_eq_some_iff.1 hx).1
 split
 ·rename_i e
  subst e
  simp only[hx,Option.map_some,hlt,if_true,hy,beq_self_eq_true,cond_true]
 ·rename_i e
  cases hj:l[j]? with
  |none=>rfl
  |some z=>
   have hne:¬z.ID=y.ID:=by
    rw[hy]
    rcases Nat.lt_or_gt_of_ne e with h|h
    ·have:=zec (key:=fun y:Hold=>y.ID) hsort j i x z h hx hj;omega
    ·have:=zec (key:=fun y:Hold=>y.ID) hsort i j z x h hj hx;omega
   have hb:(z.ID==y.ID)=false:=by simpa using hne
   simp only[Option.map_some,hb,cond_false]
theorem zawd (state u:Int):((!(state==2)&&!(state==3))||(state==3&&(decide (u<1)||!(rng 0 109572 u)))||(state==2&&!(u==0)))=!(okS state u):=by
 unfold okS
 by_cases h3:state=3
 ·subst h3
  unfold rng
  by_cases h1:u<1
  ·have:¬1≤u:=by omega
   simp[h1,this]
  ·have a:1≤u:=by omega
   have b:0≤u:=by omega
   simp[h1,a,b]
 ·have e3:(state==3)=false:=by simpa using h3
  rw[e3]
  cases state==2<;>cases u==0<;>rfl
theorem zans {l:List Hold} {id item state u:Int} (hl:l.length<1000000000) (hsort:∀i x,l[i]?=some x→zbp l i (fun y=>decide (x.ID≤y.ID))=false):qbp l id item state u=some (zfw l id item state u):=by
 unfold qbp zfw
 rw[zaar hl]
 unfold getH
 rcases za3 (fun x:Hold=>x.ID==id) l with ⟨h1,h2⟩|⟨i,x,h1,h2,h3,h4⟩
 ·rw[h2];rfl
 ·have hxid:x.ID=id:=by simpa using h3
  have hw:=zbf (step:=zot) (fun i=>(l,id,item,state,u,(i:Int),x,())) l (fun o=>!(o.ID==id)&&o.Got==item) (fun _ _=>(.inr ([],7,()):(List Hold×Int×Int×Int×Hold×Unit)⊕(List Hold×Int×Unit))) (.inl (l,item,state,u,x,())) hl
   (by simp only[zot,dge,cond_false])
   (fun j y hy=>by
    have hlt:=(List.getElem?_eq_some_iff.1 hy).1
    simp -zeta only[zot,dlt hlt,zag,hy,cond_true,za4,zam (show j<9223372036854775807 by omega)]
    rfl)
  rw[zgk]at hw
  rw[h4]
  simp -zeta only[Bool.not_true,cond_false,zan8,zaoa,k_or,za4,zib,h1,Int.toNat_natCast]
  dsimp only
  rw[←zawd]
  have eb:∀a b c d:Bool,((a||b||c)||d)=(a||(b||c||d)):=by decide
  cases hq:(!(rng 1 9999 item)||(!(state==2)&&!(state==3)||(state==3&&(decide (u<1)||!(rng 0 109572 u)))||(state==2&&!(u==0)))) with
  |true=>
   rw[←eb]at hq
   rw[hq]
   try rfl
  |false=>
   rw[←eb]at hq
   rw[hq]
   simp only[cond_false,za3h]
   cases (!(x.State==1)&&((!(x.State==2)||!(x.Got==item))||!(state==3))) with
   |true=>rfl
   |false=>
    simp only[cond_false]
    rw[show zac zot (l,id,item,state,u,0,x,())=_ from hw]
    have ea:l.any (fun o=>o.Got==item&&!(o.ID==id))=(l.find? (fun o=>!(o.ID==id)&&o.Got==item)).isSome:=by
     rw[Bool.eq_iff_iff,List.find?_isSome,List.any_eq_true]
     constructor
     ·rintro ⟨o,ho,hp⟩;exact ⟨o,ho,by rw[Bool.and_comm];exact hp⟩
     ·rintro ⟨o,ho,hp⟩;exact ⟨o,ho,by rw[Bool.and_comm];exact hp⟩
    rw[ea]
    cases l.find? (fun o=>!(o.ID==id)&&o.Got==item) with
    |some o=>rfl
    |none=>
     simp only[Option.isSome_none,cond_false]
     have:=zaat (l:=l) (y:=gotH x item state u) hl
     rw[zoa hsort h2 (y:=gotH x item state u) rfl]at this
     rw[show qbd l (⟨x.ID,x.Patron,x.Record,x.Item,x.Pickup,x.Placed,state,item,u,x.Asleep,x.Rank⟩:Hold)=_ from this]
def zci (o:Hold):Int×Int×Int:=(o.ID,o.Rank,o.Record)
theorem zko {c:Circ} (h:MidP c) {l:List Hold} (e:l.map zci=c.Holds.map zci):MidP (zcp c l):=by
 have hlen:l.length=c.Holds.length:=by have:=congrArg List.length e;simpa using this
 have key:∀(i:Nat) (x:Hold),l[i]?=some x→∃x',c.Holds[i]?=some x'∧zci x'=zci x:=by
  intro i x hx
  have h1:(l.map zci)[i]?=some (zci x):=by rw[List.getElem?_map,hx];rfl
  rw[e,List.getElem?_map]at h1
  cases hl:c.Holds[i]? with
  |none=>rw[hl]at h1;cases h1
  |some x'=>rw[hl]at h1;exact ⟨x',rfl,by simpa using h1⟩
 refine ⟨zkc h.short (by rw[hlen];exact h.short.holds),h.moves,?_,?_,?_,?_,h.cal,h.rules,h.branch,h.ids,h.chN⟩
 ·show l.length<_;rw[hlen];exact h.holdsN
 ·intro i x hx
  obtain ⟨x',hx',ek⟩:=key i x hx
  have hs:=h.sorted i x' hx'
  cases i with
  |zero=>rfl
  |succ j=>
   show zbp l (j+1) _=false
   unfold zbp at hs ⊢
   simp only at hs ⊢
   cases hj:l[j]? with
   |none=>rfl
   |some y=>
    obtain ⟨y',hy',ey⟩:=key j y hj
    rw[hy']at hs
    unfold zci at ek ey
    simp only[Prod.mk.injEq]at ek ey
    simp only at hs;rw[ek.1,ey.1]at hs
    exact hs
 ·intro o ho
  obtain ⟨i,hi⟩:=List.getElem?_of_mem ho
  obtain ⟨x',hx',ek⟩:=key i o hi
  have:=h.rank x' (List.mem_of_getElem? hx')
  unfold zci at ek
  simp only[Prod.mk.injEq]at ek
  rw[←ek.1,←ek.2.1]
  exact this
 ·intro r
  have e1:∀m:List Hold,(m.filter (fun o=>o.Record==r)).length=((m.map zci).filter (fun k=>k.2.2==r)).length:=by
   intro m
   rw[List.filter_map,List.length_map]
   try rfl
  show (l.filter (fun o=>o.Record==r)).length<20
  rw[e1,e,←e1]
  exact h.few r
theorem znh {l:List Hold} {id item state u:Int} (h:(zfw l id item state u).2=0):(zfw l id item state u).1.map zci=l.map zci:=by
 unfold zfw at h ⊢
 rcases za3 (fun x:Hold=>x.ID==id) l with ⟨h1,h2⟩|⟨i,x,h1,h2,h3,h4⟩
 ·rw[h2]at h;cases h
 ·rw[h4]at h ⊢
  simp only at h ⊢
  cases hq:(!(rng 1 9999 item)||!(okS state u)) with
  |true=>rw[hq]at h;cases h
  |false=>
   rw[hq]at h
   simp only[cond_false]at h ⊢
   cases hq2:(!(x.State==1)&&((!(x.State==2)||!(x.Got==item))||!(state==3))) with
   |true=>rw[hq2]at h;cases h
   |false=>
    rw[hq2]at h
    simp only[cond_false]at h ⊢
    cases hq3:l.any (fun o=>o.Got==item&&!(o.ID==id)) with
    |true=>rw[hq3]at h;cases h
    |false=>
     simp only[cond_false,h1,Int.toNat_natCast]
     exact zcj h2 rfl
end Go.Proofs.YtdahfgialanmpaaGreatDoor
namespace Go.Proofs.YtdahfgialanmpaaGreatDoor
open Ev
open Go (IntKind)
structure Frame (c d:Circ):Prop where
 ids:d.Items.map (fun x=>x.ID)=c.Items.map (fun x=>x.ID)
 holds:d.Holds.map zci=c.Holds.map zci
 patrons:d.Patrons=c.Patrons
 loans:d.Loans=c.Loans
 charges:d.Charges=c.Charges
 rules:d.Rules=c.Rules
 cals:d.Cals=c.Cals
 today:d.Today=c.Today
 here:d.Local=c.Local
 nh:d.NextHold=c.NextHold
 nc:d.NextCharge=c.NextCharge
 br:d.Items.map (fun x=>x.Custody.Branch)=c.Items.map (fun x=>x.Custody.Branch)
 recs:d.Items.map (fun x=>x.Record)=c.Items.map (fun x=>x.Record)
theorem Frame.refl (c:Circ):Frame c c:=⟨rfl,rfl,rfl,rfl,rfl,rfl,rfl,rfl,rfl,rfl,rfl,rfl,rfl⟩
theorem Frame.trans {a b c:Circ} (h:Frame a b) (k:Frame b c):Frame a c:=
 ⟨k.ids.trans h.ids,k.holds.trans h.holds,k.patrons.trans h.patrons,k.loans.trans h.loans,k.charges.trans h.charges,k.rules.trans h.rules,k.cals.trans h.cals,k.today.trans h.today,k.here.trans h.here,k.nh.trans h.nh,k.nc.trans h.nc,k.br.trans h.br,k.recs.trans h.recs⟩
theorem zlj {c:Circ} {i:Nat} {x:Item} (hx:c.Items[i]?=some x) (m:Move) {u:Custody} (hu:u.Branch=x.Custody.Branch):Frame c (zg5 c i x m u):=
 ⟨zcj hx rfl,rfl,rfl,rfl,rfl,rfl,rfl,rfl,rfl,rfl,rfl,zcj hx hu,zcj hx rfl⟩
theorem zjq {c:Custody} {m:Move} {u:Custody} (h:zbl c m=(u,0)) (hk:(zc0 m.Kind==2)=false):u.Branch=c.Branch:=by
 unfold zbl at h
 cases e1:(!(zi5 c)||!(zm8 m)) with
 |true=>rw[e1]at h;cases h
 |false=>
  rw[e1]at h
  simp only[cond_false]at h
  cases e2:!(zjm c.State m.Kind) with
  |true=>rw[e2]at h;cases h
  |false=>
   rw[e2]at h
   simp only[cond_false]at h
   cases e3:(m.Kind==3&&c.State==5&&!(m.Who==c.Who)) with
   |true=>rw[e3]at h;cases h
   |false=>
    rw[e3]at h
    simp only[cond_false]at h
    cases e4:!(zaay c m) with
    |true=>rw[e4]at h;cases h
    |false=>
     rw[e4]at h
     simp only[cond_false,hk]at h
     cases e5:(zc0 m.Kind==4||(zc0 m.Kind==5||zc0 m.Kind==8)) with
     |true=>rw[e5]at h;cases h;rfl
     |false=>
      rw[e5]at h
      simp only[cond_false]at h
      cases e6:(zc0 m.Kind==6) with
      |true=>rw[e6]at h;cases h;rfl
      |false=>
       rw[e6]at h
       simp only[cond_false]at h
       cases e7:(zc0 m.Kind==9||zc0 m.Kind==10) with
       |true=>rw[e7]at h;cases h;rfl
       |false=>rw[e7]at h;cases h;rfl
theorem zf1 {c:Circ} {l:List Hold} (e:l.map zci=c.Holds.map zci):Frame c (zcp c l):=⟨rfl,e,rfl,rfl,rfl,rfl,rfl,rfl,rfl,rfl,rfl,rfl,rfl⟩
def SimD (a:Option (Unit×Circ_desk)) (b:Option (Circ×Int)) (Q:Circ→Prop):Prop:=
 (∃c,a=some ((),⟨c,0⟩)∧b=some (c,0)∧Q c)∨∃c e,e≠0∧a=some ((),⟨c,e⟩)∧b=some (zdx,e)∧Short c
def zq9 (a b:Option (Circ×Int)):Prop:=∃c e,a=some (c,e)∧b=some (c,e)∧Short c
theorem zbb {e:Int}:zq9 (some (zdx,e)) (some (zdx,e)):=⟨_,_,rfl,rfl,zt9⟩
theorem zaz (c:Circ) (e0:Int) (h0:e0≠0):qr ⟨c,e0⟩=some ((zdx,e0),⟨c,e0⟩):=by
 have h:(e0==0)=false:=by simpa using h0
 unfold qr
 simp only[h,Bool.not_false,cond_true]
 try rfl
theorem zpy {c:Circ} (h:MidP c) {b n:Int} (hb:rng 1 4 b=true):∃d e,qey b n ⟨c,0⟩=some (d,⟨c,e⟩)∧qbz (calS c b) c.Today n=some (d,e):=by
 obtain ⟨d,e,hq⟩:=znu (h.cal b) c.Today n
 refine ⟨d,e,?_,hq⟩
 unfold qey
 simp only[zan4 hb,zaan (h.cal b),hq]
 by_cases he:e=0
 ·subst he;rfl
 ·have he2:(e==0)=false:=by simpa using he
  simp only[he2,Bool.not_false,cond_true,qp,beq_self_eq_true]
theorem zmz {c:Circ} (h:MidP c) {b n e0:Int} (hb:rng 1 4 b=true) (h0:e0≠0):∃d,qey b n ⟨c,e0⟩=some (d,⟨c,e0⟩):=by
 obtain ⟨d,e,hq⟩:=znu (h.cal b) c.Today n
 have h2:(e0==0)=false:=by simpa using h0
 refine ⟨d,?_⟩
 unfold qey
 simp only[zan4 hb,zaan (h.cal b),hq]
 cases e==0<;>simp only[Bool.not_false,Bool.not_true,cond_true,cond_false,qp,h2]
theorem z4c {c:Circ} (h:MidP c) {i:Nat} {x:Item} (hx:c.Items[i]?=some x) (o:Hold):SimD (qd2 (i:Int) o ⟨c,0⟩) (qe9 c x.ID o) (fun d=>(MidP d∧Frame c d)∧(∃u,d.Items=c.Items.set i (zuz u x))∧∃st u,zfw c.Holds o.ID x.ID st u=(d.Holds,0)):=by
 obtain ⟨r,b,hr,_⟩:=zaww (p:=o.Patron) (x:=x) h.short
 have hb:=h.branch x (List.mem_of_getElem? hx)
 unfold qd2 qe9
 simp -zeta only[beq_self_eq_true,Bool.not_true,cond_false,z0x h hx,zag,hx,zawp h.short,hr]
 rcases zfn h hx 5 x.Custody.Branch o.Patron with ⟨u,ha,m1,m2,hm2⟩|⟨e,he,m1,m2⟩
 ·have hf:=zlj hx ⟨c.Today,x.ID,5,x.Custody.Branch,o.Patron⟩ (zjq ha rfl)
  rw[m1,m2]
  have hh:(zg5 c i x ⟨c.Today,x.ID,5,x.Custody.Branch,o.Patron⟩ u).Holds=c.Holds:=rfl
  have hI:(zg5 c i x ⟨c.Today,x.ID,5,x.Custody.Branch,o.Patron⟩ u).Items=c.Items.set i (zuz u x):=rfl
  generalize zg5 c i x ⟨c.Today,x.ID,5,x.Custody.Branch,o.Patron⟩ u=c2 at hm2 hf hh hI
  dsimp only
  have core:∀days:Int,∃d e,qey x.Custody.Branch days ⟨c2,0⟩=some (d,⟨c2,e⟩)∧qbz (calS c2 x.Custody.Branch) c2.Today days=some (d,e):=fun days=>zpy hm2 hb
  cases b
  all_goals
   simp only[cond_true,cond_false,beq_self_eq_true,Bool.not_true,za6k hb]
   obtain ⟨d,e,l1,l2⟩:=core _
   rw[l1,l2]
   by_cases he:e=0
   ·subst he
    simp only[beq_self_eq_true,Bool.not_true,cond_true,cond_false,zani hm2.short.holds,zans hm2.short.holds hm2.sorted]
    have ck:=znh (l:=c2.Holds) (id:=o.ID) (item:=x.ID) (state:=3) (u:=d)
    generalize hcq:zfw c2.Holds o.ID x.ID 3 d=q at ck
    obtain ⟨l,e⟩:=q
    by_cases he:e=0
    ·subst he
     exact .inl ⟨zcp c2 l,rfl,rfl,⟨zko hm2 (ck rfl),hf.trans (zf1 (ck rfl))⟩,⟨u,hI⟩,3,d,by rw[←hh];exact hcq⟩
    ·have he2:(e==0)=false:=by simpa using he
     simp only[zeu c2 l e he,he2,Bool.not_false,cond_true]
     exact .inr ⟨_,e,he,rfl,rfl,hm2.short⟩
   ·have he2:(e==0)=false:=by simpa using he
    simp only[he2,Bool.not_false,cond_true,cond_false]
    exact .inr ⟨_,e,he,rfl,rfl,hm2.short⟩
 ·have he2:(e==0)=false:=by simpa using he
  rw[m1,m2]
  dsimp only
  cases b
  all_goals
   simp only[cond_true,cond_false,he2,Bool.not_false]
   obtain ⟨d,l1⟩:=zmz (n:=_) h hb he
   rw[l1]
   simp only[he2,cond_false]
   exact .inr ⟨_,e,he,rfl,rfl,h.short⟩
theorem zek {c:Circ} {i:Nat} {x:Item} (hx:c.Items[i]?=some x) (kind:Int):qcj (i:Int) kind ⟨c,0⟩=qa6 (i:Int) kind x.Custody.Branch 0 ⟨c,0⟩:=by
 unfold qcj
 simp only[beq_self_eq_true,cond_true,zag,hx]
 cases qa6 (i:Int) kind x.Custody.Branch 0 ⟨c,0⟩ with
 |none=>rfl
 |some p=>rfl
theorem zfk (c:Circ) (i kind e0:Int) (h0:e0≠0):qcj i kind ⟨c,e0⟩=some ((),⟨c,e0⟩):=by
 have h:(e0==0)=false:=by simpa using h0
 unfold qcj
 simp only[h,cond_false]
theorem zajq {X:Type} {l:List X} {i:Nat} {x:X} (h:l[i]?=some x):l.set i x=l:=by
 obtain ⟨h1,h2⟩:=List.getElem?_eq_some_iff.1 h
 rw[←h2,List.set_getElem_self]
theorem zag0 {l:List Hold} (hs:∀i x,l[i]?=some x→zbp l i (fun y=>decide (x.ID≤y.ID))=false) {o p:Hold} (ho:o∈l) (hp:p∈l) (e:o.ID=p.ID):o=p:=by
 have h1:=zhn hs ho
 have h2:=zhn hs hp
 rw[e,h2]at h1
 cases h1
 try rfl
def Put (c d:Circ) (i:Nat) (x:Item):Prop:=(∃u,d.Items=c.Items.set i (zuz u x))∧∃v,qc5 c x=some v∧((v=0∧d.Holds=c.Holds)∨∃st u,zfw c.Holds v x.ID st u=(d.Holds,0)∧(st=3→∀o∈c.Holds,o.ID=v→o.Pickup=x.Custody.Branch))
theorem z5k {c:Circ} (h:MidP c) {i:Nat} {x:Item} (hx:c.Items[i]?=some x):SimD (qde (i:Int) ⟨c,0⟩) (qfm c x.ID) (fun d=>(MidP d∧Frame c d)∧Put c d i x):=by
 obtain ⟨v,p1,p2,g1,g2⟩:=zqs h hx
 have mv:∀kind branch who:Int,(zc0 kind==2)=false→SimD (qa6 (i:Int) kind branch who ⟨c,0⟩) (q9 c x.ID kind branch who) (fun d=>(MidP d∧Frame c d)∧d.Holds=c.Holds∧∃u,d.Items=c.Items.set i (zuz u x)):=by
  intro kind branch who hk
  rcases zfn h hx kind branch who with ⟨u,ha,m1,m2,hm2⟩|⟨e,he,m1,m2⟩
  ·exact .inl ⟨_,m1,m2,⟨hm2,zlj hx _ (zjq ha hk)⟩,rfl,u,rfl⟩
  ·exact .inr ⟨_,e,he,m1,m2,h.short⟩
 unfold qde qfm
 simp -zeta only[beq_self_eq_true,Bool.not_true,cond_false,z0x h hx,zag,hx,p1,p2,za4p h.short.holds,zaar h.short.holds,zek hx,za4]
 by_cases hv:v=0
 ·subst hv
  generalize getH c.Holds 0=q at g1 ⊢
  obtain ⟨o,ok⟩:=q
  simp only[beq_self_eq_true,Bool.not_true]at g1
  subst g1
  dsimp only
  simp only[Bool.not_false,Bool.true_and,beq_self_eq_true,cond_true]
  cases x.Branch==x.Custody.Branch with
  |false=>
   simp only[Bool.not_false,cond_true]
   rcases mv 6 x.Branch 0 rfl with ⟨d,m1,m2,hQ,hH,hI⟩|⟨d,e,he,m1,m2,hsd⟩
   ·rw[m1,m2];exact .inl ⟨d,rfl,rfl,hQ,hI,0,p1,.inl ⟨rfl,hH⟩⟩
   ·rw[m1,m2];exact .inr ⟨d,e,he,rfl,rfl,hsd⟩
  |true=>
   simp only[Bool.not_true,cond_false]
   cases x.Custody.State==3 with
   |true=>exact .inl ⟨c,rfl,rfl,⟨h,Frame.refl c⟩,⟨x.Custody,(zajq hx).symm⟩,0,p1,.inl ⟨rfl,rfl⟩⟩
   |false=>
    simp only[Bool.not_false,cond_true,cond_false]
    rcases mv 2 x.Custody.Branch 0 rfl with ⟨d,m1,m2,hQ,hH,hI⟩|⟨d,e,he,m1,m2,hsd⟩
    ·rw[m1,m2];exact .inl ⟨d,rfl,rfl,hQ,hI,0,p1,.inl ⟨rfl,hH⟩⟩
    ·rw[m1,m2];exact .inr ⟨d,e,he,rfl,rfl,hsd⟩
 ·have hv2:(v==0)=false:=by simpa using hv
  obtain ⟨o,ho,hoi,hg,hw⟩:=g2 hv
  rw[hg,hv2]
  dsimp only
  simp only[Bool.not_true,Bool.false_and,cond_false]
  cases hpk:o.Pickup==x.Custody.Branch with
  |true=>
   simp only[cond_true]
   rcases z4c h hx o with ⟨d,m1,m2,hQ,hI,st,u,hH⟩|⟨d,e,he,m1,m2,hsd⟩
   ·rw[m1,m2];exact .inl ⟨d,rfl,rfl,hQ,hI,v,p1,.inr ⟨st,u,by rw[←hoi];exact hH,fun _ o2 ho2 hv2=>by rw[zag0 h.sorted ho2 ho (hv2.trans hoi.symm)];simpa using hpk⟩⟩
   ·rw[m1,m2];exact .inr ⟨d,e,he,rfl,rfl,hsd⟩
  |false=>
   simp only[cond_false]
   rcases mv 6 o.Pickup o.Patron rfl with ⟨d,m1,m2,⟨hm2,hf⟩,hH,hI⟩|⟨d,e,he,m1,m2,hsd⟩
   ·rw[m1,m2]
    simp only[beq_self_eq_true,Bool.not_true,cond_true,cond_false,zani hm2.short.holds,zans hm2.short.holds hm2.sorted]
    have ck:=znh (l:=d.Holds) (id:=v) (item:=x.ID) (state:=2) (u:=0)
    generalize hcq:zfw d.Holds v x.ID 2 0=q at ck
    obtain ⟨l,e⟩:=q
    by_cases he:e=0
    ·subst he
     exact .inl ⟨zcp d l,rfl,rfl,⟨zko hm2 (ck rfl),hf.trans (zf1 (ck rfl))⟩,hI,v,p1,.inr ⟨2,0,by rw[←hH];exact hcq,fun h=>absurd h (by decide)⟩⟩
    ·have he2:(e==0)=false:=by simpa using he
     simp only[zeu d l e he,he2,Bool.not_false,cond_true]
     exact .inr ⟨_,e,he,rfl,rfl,hm2.short⟩
   ·have he2:(e==0)=false:=by simpa using he
    rw[m1,m2]
    simp only[he2,cond_false,Bool.not_false,cond_true]
    exact .inr ⟨d,e,he,rfl,rfl,hsd⟩
end Go.Proofs.YtdahfgialanmpaaGreatDoor
namespace Go.Proofs.YtdahfgialanmpaaGreatDoor
open Ev
open Go (IntKind)
theorem zgl {c:Circ} (h:MidP c) (item:Int):(fIdx (fun x=>x.ID==item) c.Items = -1∧qg c item=some (-1)∧c.Items.find? (fun x=>x.ID==item)=none)∨
 ∃(i:Nat) (x:Item),fIdx (fun x=>x.ID==item) c.Items=(i:Int)∧qg c item=some (i:Int)∧c.Items[i]?=some x∧x.ID=item∧c.Items.find? (fun x=>x.ID==item)=some x:=by
 rcases za3 (fun x:Item=>x.ID==item) c.Items with ⟨h1,h2⟩|⟨i,x,h1,h2,h3,h4⟩
 ·exact .inl ⟨h1,by rw[zaja h.short.items,h1],h2⟩
 ·exact .inr ⟨i,x,h1,by rw[zaja h.short.items,h1],h2,by simpa using h3,h4⟩
end Go.Proofs.YtdahfgialanmpaaGreatDoor
namespace Go.Proofs.YtdahfgialanmpaaGreatDoor
open Ev
open Go (IntKind)
theorem z8g {c d:Circ} (h:Frame c d):d.Items.length=c.Items.length:=by
 have:=congrArg List.length h.ids
 simpa using this
theorem zgz (c:Circ) (record e:Int) (n i k:Nat) (he:e≠0) :
 za7 zdy (k+1) (record,(n:Int),(i:Int),⟨c,e⟩,())=some (.inl (⟨c,e⟩,()))∨za7 zdy (k+1) (record,(n:Int),(i:Int),⟨c,e⟩,())=some (.inr (⟨c,e⟩,())):=by
 have h:(e==0)=false:=by simpa using he
 simp only[za7,zdy]
 cases decide ((i:Int)<(n:Int)) with
 |false=>exact .inl rfl
 |true=>
  simp only[cond_true,h,Bool.not_false]
  refine .inr ?_
  first|rfl|trivial
def Rest (r:Int) (c d:Circ):Prop:=d.Items.map (fun x=>x.Record)=c.Items.map (fun x=>x.Record)∧∀(j:Nat) (y:Item),c.Items[j]?=some y→¬y.Record=r→d.Items[j]?=some y
theorem Rest.refl (r:Int) (c:Circ):Rest r c c:=⟨rfl,fun _ _ h _=>h⟩
theorem Rest.trans {r:Int} {a b c:Circ} (h:Rest r a b) (k:Rest r b c):Rest r a c:=⟨k.1.trans h.1,fun j y hy hr=>k.2 j y (h.2 j y hy hr) hr⟩
theorem zajj {c d:Circ} {i:Nat} {x:Item} {record w:Int} (hx:c.Items[i]?=some x) (hp:Put c d i x) (hq:((x.Record==record&&x.Custody.State==3)&&!(w==0))=true):Rest record c d:=by
 obtain ⟨⟨u,hI⟩,-⟩:=hp
 simp only[Bool.and_eq_true,beq_iff_eq]at hq
 refine ⟨by rw[hI];exact zcj hx rfl,fun j y hy hr=>?_⟩
 rw[hI,List.getElem?_set]
 split
 ·rename_i e
  subst e
  rw[hx]at hy
  cases hy
  exact absurd hq.1.1 hr
 ·exact hy
theorem z4l {record:Int} {n:Nat} {v:Circ} (hn:n<1000000000):∀(k i:Nat) (c:Circ),i+k=n→MidP c→c.Items.length=n→
 (∃d,za7 zdy (k+2) (record,(n:Int),(i:Int),⟨c,0⟩,())=some (.inl (⟨d,0⟩,()))∧za7 zhx (k+2) (record,(i:Int),c,v,())=some (.inl (d,v,()))∧MidP d∧Frame c d∧Rest record c d)∨
 (∃d e,e≠0∧Short d∧(za7 zdy (k+2) (record,(n:Int),(i:Int),⟨c,0⟩,())=some (.inl (⟨d,e⟩,()))∨za7 zdy (k+2) (record,(n:Int),(i:Int),⟨c,0⟩,())=some (.inr (⟨d,e⟩,())))∧
  za7 zhx (k+2) (record,(i:Int),c,v,())=some (.inr (e,zdx,()))):=by
 intro k
 induction k with
 |zero=>
  intro i c hi h hl
  have:i=n:=by omega
  subst this
  refine .inl ⟨c,?_,?_,h,Frame.refl c,Rest.refl _ c⟩
  ·simp only[za7,zdy,dge,cond_false]
  ·simp only[za7,zhx,hl,dge,cond_false]
 |succ k ih=>
  intro i c hi h hl
  have hlt:i<n:=by omega
  have hx:c.Items[i]?=some (c.Items[i]'(by omega)):=List.getElem?_eq_getElem (by omega)
  generalize c.Items[i]'(by omega)=x at hx
  obtain ⟨w,p1,p2,g1,g2⟩:=zqs h hx
  have hsu:=zam (show i<9223372036854775807 by omega)
  have s1:zdy (record,(n:Int),(i:Int),⟨c,0⟩,())=(bif (x.Record==record&&x.Custody.State==3)&&!(w==0) then (match qde (i:Int) ⟨c,0⟩ with|some (_,v6)=>some (.inl (record,(n:Int),((i+1:Nat):Int),v6,()))|none=>none) else some (.inl (record,(n:Int),((i+1:Nat):Int),⟨c,0⟩,()))):=by
   simp -zeta only[zdy,dlt hlt,cond_true,beq_self_eq_true,Bool.not_true,cond_false,zag,hx,p1,za4,hsu]
   try rfl
  have s2:zhx (record,(i:Int),c,v,())=(bif (x.Record==record&&x.Custody.State==3)&&!(w==0) then (match qfm c x.ID with|some (r5,r6)=>(bif !(r6==0) then some (.inr (.inr (r6,zdx,()))) else some (.inl (record,((i+1:Nat):Int),r5,v,())))|none=>none) else some (.inl (record,((i+1:Nat):Int),c,v,()))):=by
   simp -zeta only[zhx,hl,dlt hlt,cond_true,zag,hx,p2,k_or,hsu]
   dsimp only
   cases x.Record==record<;>cases x.Custody.State==3<;>cases w==0<;>rfl
  rw[za7,za7,s1,s2]
  cases hq:(x.Record==record&&x.Custody.State==3)&&!(w==0) with
  |false=>
   simp only[cond_false]
   exact ih (i+1) c (by omega) h hl
  |true=>
   simp only[cond_true]
   rcases z5k h hx with ⟨d,q1,q2,⟨hd,hf⟩,hput⟩|⟨d,e,he,q1,q2,hsd⟩
   ·rw[q1,q2]
    simp only[beq_self_eq_true,Bool.not_true,cond_false]
    rcases ih (i+1) d (by omega) hd (by rw[z8g hf,hl]) with ⟨d2,a1,a2,a3,a4,a5⟩|⟨d2,e,he,hsd,a1,a2⟩
    ·exact .inl ⟨d2,a1,a2,a3,hf.trans a4,(zajj hx hput hq).trans a5⟩
    ·exact .inr ⟨d2,e,he,hsd,a1,a2⟩
   ·have he2:(e==0)=false:=by simpa using he
    rw[q1,q2]
    simp only[he2,Bool.not_false,cond_true]
    exact .inr ⟨d,e,he,hsd,zgz d record e n (i+1) (k+1) he,rfl⟩
theorem zadx {c:Circ} (h:MidP c) (record:Int):SimD (qbl record ⟨c,0⟩) (qb0 c record) (fun d=>MidP d∧Frame c d∧Rest record c d):=by
 have hi:=h.short.items
 unfold qbl qb0
 rcases z4l (record:=record) (v:=zdx) hi c.Items.length 0 c (by omega) h rfl with ⟨d,a1,a2,a3,a4⟩|⟨d,e,he,hsd,a1,a2⟩
 ·have w1:=za5 _ (by rw[za6];omega) a1
  have w2:=za5 _ (by rw[za6];omega) a2
  rw[show zac zdy (record,(c.Items.length:Int),0,⟨c,0⟩,())=_ from w1,show zac zhx (record,0,c,(⟨0,[],[],[],[],[],[],⟨⟨0,[]⟩,⟨0,[]⟩,⟨0,[]⟩,⟨0,[]⟩⟩,[],0,0,false⟩:Circ),())=_ from w2]
  exact .inl ⟨d,rfl,rfl,a3,a4⟩
 ·have w2:=za5 _ (by rw[za6];omega) a2
  rw[show zac zhx (record,0,c,(⟨0,[],[],[],[],[],[],⟨⟨0,[]⟩,⟨0,[]⟩,⟨0,[]⟩,⟨0,[]⟩⟩,[],0,0,false⟩:Circ),())=_ from w2]
  rcases a1 with a1|a1
  ·have w1:=za5 _ (by rw[za6];omega) a1
   rw[show zac zdy (record,(c.Items.length:Int),0,⟨c,0⟩,())=_ from w1]
   exact .inr ⟨d,e,he,rfl,rfl,hsd⟩
  ·have w1:=za5 _ (by rw[za6];omega) a1
   rw[show zac zdy (record,(c.Items.length:Int),0,⟨c,0⟩,())=_ from w1]
   exact .inr ⟨d,e,he,rfl,rfl,hsd⟩
theorem zgx (c:Circ) (record e:Int) (he:e≠0):qbl record ⟨c,e⟩=some ((),⟨c,e⟩):=by
 unfold qbl
 rcases zgz c record e c.Items.length 0 0 he with a1|a1
 ·have w1:=za5 _ (by rw[za6];omega) a1
  rw[show zac zdy (record,(c.Items.length:Int),0,⟨c,e⟩,())=_ from w1]
 ·have w1:=za5 _ (by rw[za6];omega) a1
  rw[show zac zdy (record,(c.Items.length:Int),0,⟨c,e⟩,())=_ from w1]
end Go.Proofs.YtdahfgialanmpaaGreatDoor
namespace Go.Proofs.YtdahfgialanmpaaGreatDoor
open Ev
open Go (IntKind)
end Go.Proofs.YtdahfgialanmpaaGreatDoor
namespace Go.Proofs.YtdahfgialanmpaaGreatDoor
open Ev
open Go (IntKind)
end Go.Proofs.YtdahfgialanmpaaGreatDoor
namespace Go.Proofs.YtdahfgialanmpaaGreatDoor
open Ev
open Go (IntKind)
def zre (l:List Charge) (c:Charge):List Charge×Int:=bif !(za8 (l++[c])==0) then ([],za8 (l++[c])) else (l++[c],0)
theorem za4f {l:List Charge} {c:Charge} (hl:l.length<1000000):qc6 l c=some (zre l c):=by
 have l1:decide (l.length+([c]:List Charge).length≤LIM)=true:=ze8 (by simp;omega)
 have l0:decide (l.length≤LIM)=true:=by rw[decide_eq_true_eq];unfold LIM;omega
 unfold qc6 zre
 simp only[l0,l1,cond_true,za4b (show (l++[c]).length<1000000000 by simp;omega)]
 cases !(za8 (l++[c])==0)<;>rfl
theorem z2g {X:Type}:∀(l o:List X),l.foldl (fun s x=>s++[x]) o=o++l:=by
 intro l
 induction l with
 |nil=>intro o;simp
 |cons x l ih=>intro o;rw[List.foldl_cons,ih];simp
theorem za39 {l:List Charge} {c:Charge} (hl:l.length<1000000):qb4 l c=some (zre l c):=by
 have hw:=zb4 (step:=zop) (fun (i:Nat) (s:List Charge)=>s.length≤i) (fun i s=>(l,(i:Int),c,s,())) l
  (fun i x s=>.inl (s++[x])) (fun s=>(c,s,())) (by rw[za6];omega)
  (fun s _=>by simp only[zop,dge,cond_false])
  (fun i x s hx hi=>by
   have hlt:=(List.getElem?_eq_some_iff.1 hx).1
   have l1:∀z:Charge,decide (s.length+([z]:List Charge).length≤LIM)=true:=fun z=>ze8 (by simp;omega)
   refine ⟨?_,fun s' hs'=>?_⟩
   ·simp only[zop,dlt hlt,zag,hx,cond_true,l1,zam (show i<9223372036854775807 by omega)]
   ·cases hs'
    simp
    omega) [] (by simp)
 rw[zfe,z2g,List.nil_append]at hw
 have l1:decide (l.length+([c]:List Charge).length≤LIM)=true:=ze8 (by simp;omega)
 unfold qb4 zre
 rw[show zac zop (l,0,c,([]:List Charge),())=_ from hw]
 simp only[l1,cond_true,zanl (show (l++[c]).length<1000000000 by simp;omega)]
 cases !(za8 (l++[c])==0)<;>rfl
def zad9 (c:Circ) (l:List Charge) (n:Int):Circ:=⟨c.Today,c.Items,c.Patrons,c.Loans,c.Holds,l,c.Rules,c.Cals,c.Moves,c.NextHold,n,c.Local⟩
theorem za2c {c:Circ} (h:MidP c) {l:List Charge} (hl:l.length<1000000) (n:Int):MidP (zad9 c l n):=by
 obtain ⟨⟨a1,a2,a3,a4,a5,a6,a7,a8,a9,a10,a11,a12,a13⟩,h2,h3,h4,h5,h6,h7,h8,h9,h10,h11⟩:=h
 exact ⟨⟨a1,a2,a3,a4,by show l.length<_;omega,a6,a7,a8,a9,a10,a11,a12,a13⟩,h2,h3,h4,h5,h6,h7,h8,h9,h10,hl⟩
theorem zaeh {l:List Charge} {x:Charge} (h:(zre l x).2=0):(zre l x).1=l++[x]∧za8 (l++[x])=0:=by
 unfold zre at h ⊢
 by_cases he:za8 (l++[x])=0
 ·simp only[he,beq_self_eq_true,Bool.not_true,cond_false,and_self]
 ·have he2:(za8 (l++[x])==0)=false:=by simpa using he
  rw[he2]at h
  exact absurd h he
theorem z1u {c:Circ} (h:MidP c) (vid item kind amount:Int):SimD (qex vid item kind amount ⟨c,0⟩) (qfy c vid item kind amount)
 (fun d=>d=zad9 c (c.Charges++[⟨c.NextCharge,vid,item,c.Today,kind,amount,0⟩]) (wr .i64 (c.NextCharge+1))∧za8 (c.Charges++[⟨c.NextCharge,vid,item,c.Today,kind,amount,0⟩])=0∧c.NextCharge≤99999):=by
 unfold qex qfy
 simp only[beq_self_eq_true,Bool.not_true,cond_false,za4f h.chN,za39 h.chN]
 cases hq:decide (99999<c.NextCharge) with
 |true=>exact .inr ⟨c,13,by decide,rfl,rfl,h.short⟩
 |false=>
  have hq:¬99999<c.NextCharge:=by simpa using hq
  simp only[cond_false]
  have ho:=zaeh (l:=c.Charges) (x:=⟨c.NextCharge,vid,item,c.Today,kind,amount,0⟩)
  generalize zre c.Charges ⟨c.NextCharge,vid,item,c.Today,kind,amount,0⟩=q at ho ⊢
  obtain ⟨l,e⟩:=q
  by_cases he:e=0
  ·subst he
   have:=ho rfl
   exact .inl ⟨zad9 c l (wr .i64 (c.NextCharge+1)),rfl,rfl,by rw[←this.1],this.2,by omega⟩
  ·have he2:(e==0)=false:=by simpa using he
   simp only[he2,Bool.not_false,cond_true]
   exact .inr ⟨c,e,he,by simp only[qp,beq_self_eq_true,cond_true],rfl,h.short⟩
theorem zke (c:Circ) (vid item kind amount e0:Int) (h0:e0≠0):qex vid item kind amount ⟨c,e0⟩=some ((),⟨c,e0⟩):=by
 have h:(e0==0)=false:=by simpa using h0
 unfold qex
 simp only[h,Bool.not_false,cond_true]
theorem zu7 {l:List Charge} (h:za8 l=0):l.length<1000000:=by have:=(z1v h).1;omega
theorem zu8 {c:Circ} (h:MidP c) {item:Int}:zq9 (qf3 c item) (qf4 c item):=by
 unfold qf3 qf4
 simp -zeta only[qbc,zel h.short]
 rcases zgl h item with ⟨h1,h2,-⟩|⟨i,x,h1,h2,hx,hid,-⟩
 ·rw[h1,h2]
  simp only[ziy,cond_true,zfk c _ _ 9 (by decide),zaz c 9 (by decide)]
  exact zbb
 ·subst hid
  rw[h1,h2]
  simp only[zf2,cond_false,zek hx,zag,hx]
  rcases zfn h hx 11 x.Custody.Branch 0 with ⟨u,ha,m1,m2,hm2⟩|⟨e,he,m1,m2⟩
  ·rw[m1,m2]
   exact ⟨_,0,rfl,rfl,hm2.short⟩
  ·rw[m1,m2]
   simp only[zaz c e he]
   exact zbb
def zp0 (l:List Hold) (item:Int):List Hold×Int:=
 match l.find? (fun h=>h.Got==item) with
 |none=>([],9)
 |some x=>bif item==0 then ([],9) else (l.set (fIdx (fun h=>h.Got==item) l).toNat (gotH x 0 1 0),0)
theorem za4i {l:List Hold} {item:Int} (hl:l.length<1000000000):qcq l item=some (zp0 l item):=by
 unfold qcq zp0
 rw[zuf (p:=fun (g:Unit×Int×Unit) x0=>qer x0 g.2.1) (g:=((),(item,()))) (fun x=>x.Got==item) hl (fun x _=>rfl)]
 rcases za3 (fun x:Hold=>x.Got==item) l with ⟨h1,h2⟩|⟨i,x,h1,h2,h3,h4⟩
 ·rw[h1,h2];rfl
 ·rw[h1,h4]
  simp only[zf2,cond_false,Int.toNat_natCast,zag,h2,zaob hl h2]
  cases item==0<;>rfl
theorem za38 {l:List Hold} {item:Int} (hl:l.length<1000000000) (hsort:∀i x,l[i]?=some x→zbp l i (fun y=>decide (x.ID≤y.ID))=false):qb2 l item=some (zp0 l item):=by
 unfold qb2 zp0
 have h:=zbf (step:=zoo) (fun i=>(l,item,(i:Int),())) l (fun x=>!(item==0)&&x.Got==item) (fun i x=>(.inr (l.set i (gotH x 0 1 0),0,()):Unit⊕(List Hold×Int×Unit))) (.inl ()) hl
  (by simp only[zoo,dge,cond_false])
  (fun i x hx=>by
   have hi:=(List.getElem?_eq_some_iff.1 hx).1
   have hw:=zaat (l:=l) (y:=gotH x 0 1 0) hl
   rw[zoa hsort hx (y:=gotH x 0 1 0) rfl]at hw
   simp -zeta only[zoo,dlt hi,zag,hx,cond_true,za4,zam (show i<9223372036854775807 by omega)]
   rw[show qbd l (⟨x.ID,x.Patron,x.Record,x.Item,x.Pickup,x.Placed,1,0,0,x.Asleep,x.Rank⟩:Hold)=_ from hw])
 rw[show zac zoo (l,item,0,())=_ from h]
 have key:∀(p:Hold→Bool) (m:List Hold) (k:Nat),zef p (fun i x=>(.inr (l.set i (gotH x 0 1 0),0,()):Unit⊕(List Hold×Int×Unit))) (.inl ()) k m =
  (match m.find? p with|some x=>.inr (l.set (k+(fIdx p m).toNat) (gotH x 0 1 0),0,())|none=>.inl ()):=by
  intro p m
  induction m with
  |nil=>intro k;rfl
  |cons x m ih=>
   intro k
   simp only[zef,List.find?_cons]
   cases hp:p x with
   |true=>
    have:fIdx p (x::m)=0:=by unfold fIdx;simp[List.findIdx?_cons,hp]
    simp[this]
   |false=>
    simp only[cond_false,ih]
    rcases za3 p m with ⟨a1,a2⟩|⟨i,y,a1,a2,a3,a4⟩
    ·rw[a2]
    ·have e2:fIdx p (x::m)=((i+1:Nat):Int):=by
      unfold fIdx at a1 ⊢
      simp only[List.findIdx?_cons,hp]
      cases hf:m.findIdx? p with
      |none=>rw[hf]at a1;simp at a1<;>omega
      |some j=>rw[hf]at a1;simp at a1 ⊢;omega
     rw[a4,a1,e2]
     simp only[Int.toNat_natCast]
     rw[show k+1+i=k+(i+1) by omega]
 rw[key]
 cases h0:item==0 with
 |true=>
  have e:(fun x:Hold=>!true&&x.Got==item)=fun _=>false:=by funext x;rfl
  rw[e]
  have:l.find? (fun _:Hold=>false)=none:=by rw[List.find?_eq_none];simp
  rw[this]
  cases l.find? (fun h=>h.Got==item)<;>rfl
 |false=>
  have e:(fun x:Hold=>!false&&x.Got==item)=fun x=>x.Got==item:=by funext x;rfl
  rw[e,Nat.zero_add]
  cases l.find? (fun h=>h.Got==item)<;>rfl
theorem z71 {l:List Hold} {item:Int} (h:(zp0 l item).2=0):(zp0 l item).1.map zci=l.map zci:=by
 unfold zp0 at h ⊢
 rcases za3 (fun x:Hold=>x.Got==item) l with ⟨h1,h2⟩|⟨i,x,h1,h2,h3,h4⟩
 ·rw[h2]at h;cases h
 ·rw[h4]at h ⊢
  simp only at h ⊢
  cases hq:item==0 with
  |true=>rw[hq]at h;cases h
  |false=>
   simp only[cond_false,h1,Int.toNat_natCast]
   exact zcj h2 rfl
theorem zmy (c:Circ) (l:List Hold) (e e0:Int) (h0:e0≠0):qcn l e ⟨c,e0⟩=some ((),⟨zcp c c.Holds,e0⟩):=by
 have h:(e0==0)=false:=by simpa using h0
 unfold qcn qp
 simp only[h,cond_false]
 cases !(e==0)<;>simp only[cond_true,cond_false,h]<;>rfl
theorem z28 {c:Circ} (h:MidP c) {item:Int}:zq9 (qf8 c item) (qgb c item):=by
 unfold qf8 qgb
 simp -zeta only[qbc,zel h.short,k_or]
 rcases zgl h item with ⟨h1,h2,-⟩|⟨i,x,h1,h2,hx,hid,-⟩
 ·rw[h1,h2]
  exact zbb
 ·subst hid
  rw[h1,h2]
  simp -zeta only[zf2,cond_false,zek hx,zag,hx]
  dsimp only
  cases (x.Custody.State==4||x.Custody.State==9) with
  |true=>
   simp only[cond_true]
   rcases zfn h hx 12 x.Custody.Branch 0 with ⟨u,ha,m1,m2,hm2⟩|⟨e,he,m1,m2⟩
   ·rw[m1,m2]
    simp only[beq_self_eq_true,Bool.not_true,cond_false]
    cases x.Price==0 with
    |true=>exact ⟨_,0,rfl,rfl,hm2.short⟩
    |false=>
     simp only[Bool.not_false,cond_true,cond_false]
     rcases z1u hm2 x.Custody.Who x.ID 2 x.Price with ⟨d,q1,q2,hd,hd2,-⟩|⟨d,e,he,q1,q2,hsd⟩
     ·rw[q1,q2]
      exact ⟨d,0,rfl,rfl,by rw[hd];exact (za2c hm2 (zu7 hd2) _).short⟩
     ·rw[q1,q2]
      simp only[zaz d e he]
      exact zbb
   ·have he2:(e==0)=false:=by simpa using he
    rw[m1,m2]
    simp only[zke _ _ _ _ _ _ he,zaz c e he,he2,Bool.not_false,cond_true]
    cases !(x.Price==0)<;>exact zbb
  |false=>
   simp only[cond_false,za33 h.short.holds,za4i h.short.holds]
   rcases zfn h hx 13 x.Custody.Branch 0 with ⟨u,ha,m1,m2,hm2⟩|⟨e,he,m1,m2⟩
   ·rw[m1,m2]
    simp only[beq_self_eq_true,Bool.not_true,cond_false,zank hm2.short.holds]
    rw[show zdu (zg5 c i x ⟨c.Today,x.ID,13,x.Custody.Branch,0⟩ u) x.ID=zdu c x.ID from rfl]
    have hk:=z71 (l:=c.Holds) (item:=x.ID)
    have rd:=za38 (item:=x.ID) hm2.short.holds hm2.sorted
    generalize hc2:zg5 c i x ⟨c.Today,x.ID,13,x.Custody.Branch,0⟩ u=c2 at hm2 rd ⊢
    have hH:c2.Holds=c.Holds:=by rw[←hc2];rfl
    rw[hH]at rd
    simp only[hH,rd]
    cases (zdu c x.ID).2 with
    |false=>exact ⟨c2,0,rfl,rfl,hm2.short⟩
    |true=>
     simp only[cond_true,Bool.not_true,cond_false]
     generalize zp0 c.Holds x.ID=q at hk ⊢
     obtain ⟨l,e⟩:=q
     by_cases he:e=0
     ·subst he
      have hm3:=zko hm2 (l:=l) (by rw[hH];exact hk rfl)
      simp only[zpx,beq_self_eq_true,Bool.not_true,cond_false]
      rcases zadx hm3 x.Record with ⟨d,a1,a2,a3,-⟩|⟨d,e,he,a1,a2,hsd⟩
      ·dsimp only[zcp]at a1 a2 ⊢
       rw[a1,a2]
       exact ⟨d,0,rfl,rfl,a3.short⟩
      ·dsimp only[zcp]at a1 a2 ⊢
       rw[a1,a2]
       simp only[zaz d e he]
       exact zbb
     ·have he2:(e==0)=false:=by simpa using he
      simp only[zeu c2 l e he,zgx _ _ _ he,zaz _ e he,he2,Bool.not_false,cond_true]
      exact zbb
   ·have he2:(e==0)=false:=by simpa using he
    rw[m1,m2]
    simp only[zaz c e he,he2,Bool.not_false,cond_true]
    cases (zdu c x.ID).2 with
    |true=>
     simp only[cond_true]
     generalize zp0 c.Holds x.ID=q
     obtain ⟨l,e2⟩:=q
     simp only[zmy _ _ _ _ he,zgx _ _ _ he,zaz _ e he]
     exact zbb
    |false=>exact zbb
end Go.Proofs.YtdahfgialanmpaaGreatDoor
namespace Go.Proofs.YtdahfgialanmpaaGreatDoor
open Ev
open Go (IntKind)
def zjs (l:List Loan) (item:Int):List Loan×Loan×Int:=
 match l.find? (fun n=>n.Item==item) with
 |some n=>(l.take (fIdx (fun n=>n.Item==item) l).toNat++l.drop ((fIdx (fun n=>n.Item==item) l).toNat+1),n,0)
 |none=>([],za3q,9)
theorem za4l {l:List Loan} {item:Int} (hl:l.length<100000000):qdu l item=some (zjs l item):=by
 have hl2:l.length<1000000000:=by omega
 unfold qdu zjs qad
 dsimp only
 rw[zqj hl2]
 rcases za3 (fun x:Loan=>x.Item==item) l with ⟨h1,h2⟩|⟨i,x,h1,h2,h3,h4⟩
 ·rw[h2];rfl
 ·have hlt:=(List.getElem?_eq_some_iff.1 h2).1
  have hc:qdz l=some l:=by unfold qdz;rw[zi7 hl2];rfl
  have hd:qej l (i:Int) ((i+1:Nat):Int)=some (l.take i++l.drop (i+1)):=by
   show zh6 l (i:Int) ((i+1:Nat):Int)=_
   unfold zh6
   have d1:decide ((0:Int)≤(i:Int))=true:=by rw[decide_eq_true_eq];omega
   have d2:decide ((i:Int)≤((i+1:Nat):Int))=true:=by rw[decide_eq_true_eq];omega
   have d3:decide (((i+1:Nat):Int)≤(l.length:Int))=true:=by rw[decide_eq_true_eq];omega
   have d4:decide (l.length≤1073741824)=true:=by rw[decide_eq_true_eq];omega
   simp only[d1,d2,d3,d4,Bool.and_self,cond_true,Int.toNat_natCast]
  rw[h4,h1]
  unfold qfs
  simp only[zf2,cond_false,hc,zam (show i<9223372036854775807 by omega),hd,Int.toNat_natCast]
theorem za4v {l:List Loan} {item:Int} (hl:l.length<100000000):qfn l item=some (zjs l item):=by
 have hl2:l.length<1000000000:=by omega
 unfold qfn zjs
 rw[zanh hl2]
 rcases za3 (fun x:Loan=>x.Item==item) l with ⟨h1,h2⟩|⟨i,x,h1,h2,h3,h4⟩
 ·rw[h1,h2];rfl
 ·have hlt:=(List.getElem?_eq_some_iff.1 h2).1
  have d1:decide ((0:Int)≤(i:Int))=true:=by rw[decide_eq_true_eq];omega
  have d2:decide ((i:Int)≤(l.length:Int))=true:=by rw[decide_eq_true_eq];omega
  have d3:decide (((i+1:Nat):Int)≤(l.length:Int))=true:=by rw[decide_eq_true_eq];omega
  have d4:decide ((0:Int)≤((i+1:Nat):Int))=true:=by rw[decide_eq_true_eq];omega
  have d5:decide ((0:Int)≤0)=true:=rfl
  have d6:decide ((l.length:Int)≤(l.length:Int))=true:=by simp
  have t0:((l.take i).drop (0:Int).toNat)=l.take i:=by simp
  have t1:(l.take (l.length:Int).toNat)=l:=by simp
  have l1:decide (([]:List Loan).length+(l.take i).length≤LIM)=true:=ze8 (by rw[List.length_take];simp;omega)
  have l2:decide (([]++l.take i).length+(l.drop (i+1)).length≤LIM)=true:=ze8 (by rw[List.nil_append,List.length_take,List.length_drop];omega)
  rw[h1,h4]
  simp only[zf2,cond_false,d1,d2,d3,d4,d5,d6,Bool.and_self,cond_true,zam (show i<9223372036854775807 by omega),Int.toNat_natCast,t0,t1,l1,l2,zag,h2,List.nil_append,List.take_length]
  have l3:decide ((l.take i).length+(l.drop (i+1)).length≤LIM)=true:=ze8 (by rw[List.length_take,List.length_drop];omega)
  rw[l3]
  try rfl
theorem zaeo {l:List Loan} {item:Int} (hl:l.length<1000000000):(zjs l item).1.length<1000000000:=by
 unfold zjs
 cases l.find? (fun n=>n.Item==item) with
 |none=>simp
 |some n=>
  simp only[List.length_append,List.length_take,List.length_drop]
  omega
theorem z93 {c:Circ} (h:MidP c) {l:List Loan} (hl:l.length<1000000000):MidP (zkd c l):=by
 obtain ⟨⟨a1,a2,a3,a4,a5,a6,a7,a8,a9,a10,a11,a12,a13⟩,h2,h3,h4,h5,h6,h7,h8,h9,h10,h11⟩:=h
 exact ⟨⟨a1,a2,hl,a4,a5,a6,a7,a8,a9,a10,a11,a12,a13⟩,h2,h3,h4,h5,h6,h7,h8,h9,h10,h11⟩
def zmx (y:Item) (record:Int):Bool:=y.Record==record&&!(y.Custody.State==12)
theorem zan7 (y:Item) (record:Int):qdb y record=some (zmx y record):=by
 unfold qdb zmx
 simp -zeta only[za4]
 try rfl
def zub (c:Circ) (x:Item):Bool:=c.Items.any (fun y=>!(y.ID==x.ID)&&zmx y x.Record)
def zt7 (c:Circ) (x:Item) (o:Hold):Bool:=o.Item==x.ID||(zmx x x.Record&&!(zub c x)&&o.Record==x.Record)
theorem za3z {c:Circ} {x:Item} (hs:Short c):qal c x=some (c.Holds.any (zt7 c x)):=by
 unfold qal
 rw[zawt (p:=fun (g:Unit×Item×Unit) x0=>qdm x0 g.2.1) (g:=((),(x,()))) (fun y=>!(y.ID==x.ID)&&zmx y x.Record) hs.items (fun y _=>by
  unfold qdm
  simp -zeta only[zan7,za4]
  rfl)]
 simp -zeta only[zan7,za4]
 dsimp only
 rw[zaav (p:=fun (g:Unit×Item×Bool×Unit) x0=>qc2 x0 g.2.1 g.2.2.1) (g:=((),(x,(zmx x x.Record&&!(c.Items.any (fun y=>!(y.ID==x.ID)&&zmx y x.Record))),()))) (zt7 c x) hs.holds (fun o _=>by
  unfold qc2 zt7 zub
  simp -zeta only[k_or,za4]
  rfl)]
theorem z8d {X:Type} (q:X→Bool):∀(l:List X) (b:Bool),l.foldl (fun s x=>s||q x) b=(b||l.any q):=by
 intro l
 induction l with
 |nil=>intro b;simp
 |cons x l ih=>intro b;rw[List.foldl_cons,ih,List.any_cons,Bool.or_assoc]
theorem z3s {c v:Circ} (h:MidP c) {i:Nat} {x:Item} (hx:c.Items[i]?=some x):zac zlt (x.ID,(i:Int),false,0,c,v,x,())=some (x.ID,zub c x,c,v,x,()):=by
 have hs:=h.short.items
 have hw:=zxj (step:=zlt) (fun (k:Nat) (s:Bool)=>(x.ID,(i:Int),s,(k:Int),c,v,x,())) c.Items (fun y s=>s||(!(y.ID==x.ID)&&zmx y x.Record)) (fun s=>(x.ID,s,c,v,x,())) hs
  (fun s=>by simp only[zlt,dge,cond_false])
  (fun k y s hy=>by
   have hlt:=(List.getElem?_eq_some_iff.1 hy).1
   have e:((k:Int)==(i:Int))=(y.ID==x.ID):=by
    rw[Bool.eq_iff_iff]
    simp only[beq_iff_eq]
    constructor
    ·intro hk
     have:k=i:=by omega
     subst this
     rw[hx]at hy;cases hy;rfl
    ·intro hk
     rw[h.ids k y i x hy hx hk]
   simp -zeta only[zlt,dlt hlt,zag,hy,cond_true,k_or,za4,e,zam (show k<9223372036854775807 by omega)]
   dsimp only
   unfold zmx
   cases s<;>cases y.ID==x.ID<;>cases y.Record==x.Record<;>rfl) false
 rw[z8d,Bool.false_or]at hw
 exact hw
theorem zwf {c v:Circ} {x:Item} {b:Bool} (hl:c.Holds.length<1000000000):zac zij (x.ID,b,0,c,v,x,()) =
 some (match c.Holds.find? (fun o=>o.Item==x.ID||(o.Record==x.Record&&!b&&!(x.Custody.State==12))) with|some _=>.inr (10,zdx,())|none=>.inl (x.ID,c,v,x,())):=by
 have hw:=zbf (step:=zij) (fun k=>(x.ID,b,(k:Int),c,v,x,())) c.Holds (fun o=>o.Item==x.ID||(o.Record==x.Record&&!b&&!(x.Custody.State==12))) (fun _ _=>(.inr (10,zdx,()):(Int×Circ×Circ×Item×Unit)⊕(Int×Circ×Unit))) (.inl (x.ID,c,v,x,())) hl
  (by simp only[zij,dge,cond_false])
  (fun k o ho=>by
   have hlt:=(List.getElem?_eq_some_iff.1 ho).1
   simp -zeta only[zij,dlt hlt,zag,ho,cond_true,k_or,za4,zam (show k<9223372036854775807 by omega)]
   dsimp only
   cases o.Item==x.ID<;>cases o.Record==x.Record<;>cases b<;>cases x.Custody.State==12<;>rfl)
 rw[zgk]at hw
 refine Eq.trans hw ?_
 cases c.Holds.find? (fun o=>o.Item==x.ID||(o.Record==x.Record&&!b&&!(x.Custody.State==12)))<;>rfl
theorem z2e {l:List Loan} {item:Int}:(zg3 l item).2=((zjs l item).2.2==0):=by
 unfold zg3 zjs
 cases l.find? (fun n=>n.Item==item)<;>rfl
theorem znd {c:Circ} (h:MidP c) (hln:c.Loans.length<100000000) {item:Int} (hk:∀n∈c.Loans,(c.Items.find? (fun x=>x.ID==n.Item)).isSome=true):zq9 (qfv c item) (qak c item):=by
 unfold qfv qak
 simp -zeta only[qbc,zel h.short,za4k h.short.loans,za4l hln]
 rcases zgl h item with ⟨h1,h2,h3⟩|⟨i,x,h1,h2,hx,hid,-⟩
 ·have hf:(zg3 c.Loans item).2=false:=by
   unfold zg3
   cases hq:c.Loans.find? (fun n=>n.Item==item) with
   |none=>rfl
   |some n=>
    have a:=hk n (List.mem_of_find?_eq_some hq)
    have b:n.Item=item:=by have:=List.find?_some hq;simpa using this
    rw[b,h3]at a
    cases a
  have d0:decide ((0:Int)≤-1)=false:=rfl
  rw[h1,h2]
  simp only[d0,cond_false,ziy,cond_true,hf,zfk c _ _ 9 (by decide),zaz c 9 (by decide)]
  exact zbb
 ·subst hid
  have d0:decide ((0:Int)≤(i:Int))=true:=by rw[decide_eq_true_eq];omega
  rw[h1,h2]
  simp only[d0,cond_true,zf2,cond_false,zag,hx,za3z h.short]
  rw[show zac zlt (x.ID,(i:Int),false,0,c,(⟨0,[],[],[],[],[],[],⟨⟨0,[]⟩,⟨0,[]⟩,⟨0,[]⟩,⟨0,[]⟩⟩,[],0,0,false⟩:Circ),x,())=_ from z3s h hx]
  simp only
  rw[zwf h.short.holds]
  have e:(fun o:Hold=>o.Item==x.ID||(o.Record==x.Record&&!(zub c x)&&!(x.Custody.State==12)))=zt7 c x:=by
   funext o
   unfold zt7 zmx
   simp only[beq_self_eq_true,Bool.true_and]
   cases o.Item==x.ID<;>cases o.Record==x.Record<;>cases zub c x<;>cases x.Custody.State==12<;>rfl
  rw[e]
  have ea:c.Holds.any (zt7 c x)=(c.Holds.find? (zt7 c x)).isSome:=by rw[Bool.eq_iff_iff,List.find?_isSome,List.any_eq_true]
  rw[ea]
  cases c.Holds.find? (zt7 c x) with
  |some o=>
   simp only[Option.isSome_some,cond_true,qp,beq_self_eq_true,zfk c _ _ 10 (by decide)]
   cases (zg3 c.Loans x.ID).2 with
   |false=>
    simp only[cond_false,zaz c 10 (by decide)]
    exact zbb
   |true=>
    generalize zjs c.Loans x.ID=q
    obtain ⟨l,n,e⟩:=q
    simp only[cond_true,zgw c l e 10 (by decide),zaz _ 10 (by decide)]
    exact zbb
  |none=>
   simp only[Option.isSome_none,cond_false,zek hx]
   rcases zfn h hx 15 x.Custody.Branch 0 with ⟨u,ha,m1,m2,hm2⟩|⟨e,he,m1,m2⟩
   ·rw[m1,m2]
    simp only[beq_self_eq_true,Bool.not_true,cond_false]
    rw[show (zg5 c i x ⟨c.Today,x.ID,15,x.Custody.Branch,0⟩ u).Loans=c.Loans from rfl]
    rw[za4v hln,z2e]
    have bl:=zaeo (item:=x.ID) h.short.loans
    generalize hc2:zg5 c i x ⟨c.Today,x.ID,15,x.Custody.Branch,0⟩ u=c2 at hm2 ⊢
    have hL:c2.Loans=c.Loans:=by rw[←hc2];rfl
    rw[←hL]at bl ⊢
    generalize zjs c2.Loans x.ID=q at bl ⊢
    obtain ⟨l,n,e⟩:=q
    by_cases he:e=0
    ·subst he
     exact ⟨zkd c2 l,0,rfl,rfl,(z93 hm2 bl).short⟩
    ·have he2:(e==0)=false:=by simpa using he
     simp only[he2,cond_false]
     exact ⟨c2,0,rfl,rfl,hm2.short⟩
   ·have he2:(e==0)=false:=by simpa using he
    rw[m1,m2]
    simp only[he2,Bool.not_false,cond_true]
    cases (zg3 c.Loans x.ID).2 with
    |false=>
     simp only[cond_false,zaz c e he]
     exact zbb
    |true=>
     generalize zjs c.Loans x.ID=q
     obtain ⟨l,n,e2⟩:=q
     simp only[cond_true,zgw c l e2 e he,zaz _ e he]
     exact zbb
theorem z2q {c:Circ} (h:MidP c) {item partner:Int}:zq9 (qf9 c item partner) (qgc c item partner):=by
 unfold qf9 qgc
 simp -zeta only[qbc,zel h.short,za4]
 rcases zgl h item with ⟨h1,h2,h3⟩|⟨i,x,h1,h2,hx,hid,-⟩
 ·rw[h1,h2]
  exact zbb
 ·subst hid
  obtain ⟨v,p1,p2,-,-⟩:=zqs h hx
  rw[h1,h2]
  simp -zeta only[zf2,cond_false,zag,hx,p1,p2,za4]
  dsimp only
  cases (x.Custody.State==3&&!(v==0)) with
  |true=>
   simp only[cond_true,qp,beq_self_eq_true,zpz c _ _ _ _ 16 (by decide),zaz c 16 (by decide)]
   exact zbb
  |false=>
   simp only[cond_false]
   rcases zfn h hx 10 x.Custody.Branch partner with ⟨u,ha,m1,m2,hm2⟩|⟨e,he,m1,m2⟩
   ·rw[m1,m2]
    exact ⟨_,0,rfl,rfl,hm2.short⟩
   ·rw[m1,m2]
    simp only[zaz c e he]
    exact zbb
theorem zm7 (c:Circ) (item partner:Int):qd1 c item partner=some true:=by
 unfold qd1
 simp only[za4s,zaej]
 cases hb:zml c&&zo0 c with
 |false=>rfl
 |true=>
  simp only[Bool.and_eq_true]at hb
  have hm:=zaph hb.1
  have hf:=fitP hb.2
  have h:=zau6 hm hf
  obtain ⟨a,e,q1,q2,q3⟩:=zu8 h (item:=item)
  obtain ⟨a2,e2,r1,r2,r3⟩:=z28 h (item:=item)
  obtain ⟨a3,e3,s1,s2,s3⟩:=znd h (by have:=hm.loans;omega) (item:=item) (fun n hn=>by obtain ⟨x,p,hx,-⟩:=z26 hf hn;rw[hx];rfl)
  obtain ⟨a4,e4,t1,t2,t3⟩:=z2q h (item:=item) (partner:=partner)
  simp -zeta only[Bool.not_true,cond_false,q1,q2,r1,r2,s1,s2,t1,t2,zqz q3,zqz r3,zqz s3,zqz t3,za4,k_or]
  simp
end Go.Proofs.YtdahfgialanmpaaGreatDoor
