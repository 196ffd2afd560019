/- CircBacks: a part of the proof of the given statement, which is proved without conditions. -/
import Derived.Test.YtdahfgialanmpaaGreatDoorB6
set_option linter.all false
namespace Go.Proofs.YtdahfgialanmpaaGreatDoor
open Ev
open Go (IntKind)
structure MidP (c:Circ):Prop where
 short:Short c
 moves:c.Moves.length<10000000
 holdsN:c.Holds.length<1000000
 sorted:∀(i:Nat) (x:Hold),c.Holds[i]?=some x→zbt c.Holds i (fun y=>decide (x.ID≤y.ID))=false
 rank:∀o∈c.Holds,rng 0 9 o.Rank=true∧o.ID≠0
 few:∀r,(c.Holds.filter (fun o=>o.Record==r)).length<20
 cal:∀b,CalOk (calS c b)
 rules:∀r∈c.Rules,zis r=true
 branch:∀x∈c.Items,rng 1 4 x.Custody.Branch=true
 ids:∀(i:Nat) (x:Item) (j:Nat) (y:Item),c.Items[i]?=some x→c.Items[j]?=some y→x.ID=y.ID→i=j
 chN:c.Charges.length<1000000
theorem zatw {c:Circ} (hm:SmallP c) (h:FitP c):MidP c:=by
 refine ⟨hm.short,by have:=hm.moves;omega,by have:=hm.holds;omega,zr7 h.holds,fun o ho=>z1w h ho,fun r=>?_,zaop h,fun r hr=>zavv h hr,fun x hx=>z1t h hx,fun i x j y hx hy e=>?_,by have:=hm.charges;omega⟩
 ·have:=List.length_filter_le (fun o:Hold=>o.Record==r) c.Holds
  have:=hm.holds
  omega
 ·have hs:=zio h.items
  rcases Nat.lt_trichotomy i j with hl|hl|hl
  ·have:=zeg (key:=fun y:Item=>y.ID) hs j i x y hl hx hy;omega
  ·exact hl
  ·have:=zeg (key:=fun y:Item=>y.ID) hs i j y x hl hy hx;omega
theorem zn4 {c:Circ} (h:MidP c) {i:Nat} {x:Item} (hx:c.Items[i]?=some x):qi c x.ID=some (i:Int):=by
 rw[zaia h.short.items]
 rcases zbf (fun y:Item=>y.ID==x.ID) c.Items with ⟨h1,h2⟩|⟨j,y,h1,h2,h3,h4⟩
 ·have:=List.find?_eq_none.1 h2 x (List.mem_of_getElem? hx)
  simp at this
 ·rw[h1,h.ids i x j y hx h2 (by simpa using (by simpa using h3:y.ID=x.ID).symm)]
theorem zdx {X Y:Type} {f:X→Y} {l:List X} {j:Nat} {x y:X} (hx:l[j]?=some x) (hf:f y=f x):(l.set j y).map f=l.map f:=by
 rw[List.map_set,hf]
 apply List.ext_getElem?
 intro k
 rw[List.getElem?_set]
 split
 ·rename_i e
  subst e
  split
  ·rw[List.getElem?_map,hx];rfl
  ·rename_i hk
   have:=(List.getElem?_eq_some_iff.1 hx).1
   exact absurd (by simpa using this) hk
 ·rfl
theorem zatx {l m:List Item} (e:m.map (fun x=>x.ID)=l.map (fun x=>x.ID)) (h:∀(i:Nat) (x:Item) (j:Nat) (y:Item),l[i]?=some x→l[j]?=some y→x.ID=y.ID→i=j) :
 ∀(i:Nat) (x:Item) (j:Nat) (y:Item),m[i]?=some x→m[j]?=some y→x.ID=y.ID→i=j:=by
 have key:∀(i:Nat) (x:Item),m[i]?=some x→∃x',l[i]?=some x'∧x'.ID=x.ID:=by
  intro i x hx
  have h1:(m.map (fun x=>x.ID))[i]?=some x.ID:=by rw[List.getElem?_map,hx];rfl
  rw[e,List.getElem?_map]at h1
  cases hl:l[i]? with
  |none=>rw[hl]at h1;cases h1
  |some x'=>rw[hl]at h1;exact ⟨x',rfl,by simpa using h1⟩
 intro i x j y hx hy hxy
 obtain ⟨x',hx',ex⟩:=key i x hx
 obtain ⟨y',hy',ey⟩:=key j y hy
 exact h i x' j y' hx' hy' (by rw[ex,ey,hxy])
theorem z9j {c:Circ} (h:MidP c) {i:Nat} {x:Item} (hx:c.Items[i]?=some x) {m:Move} {u:Custody} (hu:rng 1 4 u.Branch=true) (hl:c.Moves.length<5000000):MidP (zcp c i x m u):=by
 refine ⟨zv0 h.short (by omega) hx,?_,h.holdsN,h.sorted,h.rank,h.few,h.cal,h.rules,fun y hy=>?_,?_,h.chN⟩
 ·show (c.Moves++[m]).length<_
  simp;omega
 ·rcases List.mem_or_eq_of_mem_set hy with hy|hy
  ·exact h.branch y hy
  ·rw[hy];exact hu
 ·exact zatx (zdx hx rfl) h.ids
theorem zmt {c:Custody} {m:Move} {u:Custody} (h:zbc c m=(u,0)):rng 1 4 u.Branch=true:=by
 have:=zg1 (c:=c) (m:=m) (by rw[h];rfl)
 rw[h]at this
 exact this
theorem zjj {c:Circ} (h:MidP c) {i:Nat} {x:Item} (hx:c.Items[i]?=some x) (kind branch who:Int) :
 (∃u,zbc x.Custody ⟨c.Today,x.ID,kind,branch,who⟩=(u,0)∧qbi (i:Int) kind branch who ⟨c,0⟩=some ((),⟨zcp c i x ⟨c.Today,x.ID,kind,branch,who⟩ u,0⟩)∧
  qai c x.ID kind branch who=some (zcp c i x ⟨c.Today,x.ID,kind,branch,who⟩ u,0)∧MidP (zcp c i x ⟨c.Today,x.ID,kind,branch,who⟩ u))∨
 (∃e,e≠0∧qbi (i:Int) kind branch who ⟨c,0⟩=some ((),⟨c,e⟩)∧qai c x.ID kind branch who=some (zdy,e)):=by
 have hmv:=h.moves
 have dm:=zim (kind:=kind) (branch:=branch) (who:=who) h.short (by omega) hx
 have rm:=za2v (kind:=kind) (branch:=branch) (who:=who) h.short (by omega) (zn4 h hx) hx rfl
 rw[dm,rm]
 cases ha:zbc x.Custody ⟨c.Today,x.ID,kind,branch,who⟩ with
 |mk u e=>
  by_cases hE:zm5 c e=0
  ·left
   simp only[hE,beq_self_eq_true,cond_true]
   have he:e=0∧c.Moves.length<2000:=by
    unfold zm5 at hE
    cases hb:(e==0&&decide (2000≤(c.Moves.length:Int))) with
    |true=>rw[hb]at hE;cases hE
    |false=>
     rw[hb]at hE
     simp only[cond_false]at hE
     subst hE
     simp only[beq_self_eq_true,Bool.true_and,decide_eq_false_iff_not]at hb
     exact ⟨rfl,by omega⟩
   obtain ⟨rfl,hlen⟩:=he
   exact ⟨u,rfl,rfl,rfl,z9j h hx (zmt ha) (by omega)⟩
  ·right
   have hE2:(zm5 c e==0)=false:=by simpa using hE
   simp only[hE2,cond_false]
   exact ⟨zm5 c e,hE,rfl,rfl⟩
theorem zah6 {c:Circ} (h:MidP c) {i:Nat} {x:Item} (hx:c.Items[i]?=some x):∃v,qdl c x=some v∧qfx c x.ID=some v∧(getH c.Holds v).2=!(v==0)∧(v≠0→∃o∈c.Holds,o.ID=v∧getH c.Holds v=(o,true)∧zch x.Record c.Today o=true):=by
 have hf:(c.Holds.filter (zch x.Record c.Today)).length<20:=by
  have e:c.Holds.filter (zch x.Record c.Today)=(c.Holds.filter (fun o=>o.Record==x.Record)).filter (zch x.Record c.Today):=by
   rw[List.filter_filter]
   apply List.filter_congr
   intro o _
   unfold zch
   cases o.Record==x.Record<;>simp
  rw[e]
  have:=List.length_filter_le (zch x.Record c.Today) (c.Holds.filter (fun o=>o.Record==x.Record))
  have:=h.few x.Record
  omega
 have q1:=za24 (l:=c.Holds) (x:=x) (branch:=x.Custody.Branch) (day:=c.Today) (vlocal:=c.Local) h.holdsN hf (fun o ho=>(h.rank o ho).1)
 have q2:=za29 (l:=c.Holds) (x:=x) (branch:=x.Custody.Branch) (day:=c.Today) (vlocal:=c.Local) h.holdsN h.sorted
 rw[z9p (fun o ho=>(h.rank o (List.mem_filter.1 (zga ho)).1).2) (fun _=>rfl)]at q1
 refine ⟨_,by unfold qdl;rw[q1],by unfold qfx;rw[zn4 h hx];simp only[zag,hx,q2],?_,?_⟩
 ·rcases zt3 (branch:=x.Custody.Branch) (vlocal:=c.Local) (x:=x) (q:=za9 (c.Holds.filter (zch x.Record c.Today))) (f:=0) with e|⟨o,ho,e⟩
  ·rw[e]
   unfold getH
   have:c.Holds.find? (fun h=>h.ID==0)=none:=by
    rw[List.find?_eq_none]
    intro o ho
    have:=(h.rank o ho).2
    simpa using this
   rw[this]
   try rfl
  ·rw[e]
   have hm:=(List.mem_filter.1 (zga ho)).1
   rw[zha h.sorted hm]
   have:=(h.rank o hm).2
   simp[this]
 ·intro hv
  rcases zt3 (branch:=x.Custody.Branch) (vlocal:=c.Local) (x:=x) (q:=za9 (c.Holds.filter (zch x.Record c.Today))) (f:=0) with e|⟨o,ho,e⟩
  ·exact absurd e hv
  ·have hm:=List.mem_filter.1 (zga ho)
   exact ⟨o,hm.1,e.symm,by rw[e];exact zha h.sorted hm.1,hm.2⟩
end Go.Proofs.YtdahfgialanmpaaGreatDoor
namespace Go.Proofs.YtdahfgialanmpaaGreatDoor
open Ev
open Go (IntKind)
theorem za2b {α:Type} (a b:Bool) (x y:α):(bif a then (bif b then x else y) else y)=bif a&&b then x else y:=by cases a<;>rfl
def okS (state u:Int):Bool:=(state==3&&rng 1 109572 u)||(state==2&&u==0)
def gotH (x:Hold) (item state u:Int):Hold:=⟨x.ID,x.Patron,x.Record,x.Item,x.Pickup,x.Placed,state,item,u,x.Asleep,x.Rank⟩
def zft (l:List Hold) (id item state u:Int):List Hold×Int:=
 match l.find? (fun h=>h.ID==id) with
 |none=>([],9)
 |some x=>bif !(rng 1 9999 item)||!(okS state u) then ([],1)
  else bif !(x.State==1)&&((!(x.State==2)||!(x.Got==item))||!(state==3)) then ([],12)
  else bif l.any (fun o=>o.Got==item&&!(o.ID==id)) then ([],7)
  else (l.set (fIdx (fun h=>h.ID==id) l).toNat (gotH x item state u),0)
theorem z1f {l:List Hold} (hl:l.length<1000000000):qdq l=some l:=by
 unfold qdq;rw[zi8 hl];rfl
theorem za3h {l:List Hold} {i:Nat} {x y:Hold} (hl:l.length<1000000000) (hx:l[i]?=some x):qe4 l (i:Int) y=some (l.set i y):=by
 unfold qe4
 simp only[z1f hl,zag,hx,Int.toNat_natCast]
theorem zau9 (state u:Int):(!(okS state u))=(!(state==3&&rng 1 109572 u)&&(!(state==2)||!(u==0))):=by
 unfold okS
 cases (state==3&&rng 1 109572 u)<;>cases state==2<;>cases u==0<;>rfl
theorem zamn {l:List Hold} {id item state u:Int} (hl:l.length<1000000000):qaq l id item state u=some (zft l id item state u):=by
 unfold qaq qbe zft
 rw[z0d (p:=fun (g:Unit×Int×Unit) x0=>qek x0 g.2.1) (g:=((),(id,()))) (fun x=>x.ID==id) hl (fun x _=>rfl)]
 have hc:=zavn (p:=fun (g:Unit×Int×Int×Unit) x0=>qcu x0 g.2.1 g.2.2.1) (g:=((),(item,id,()))) (fun o=>o.Got==item&&!(o.ID==id)) hl (fun o _=>by
  simp -zeta only[qcu,za7];rfl)
 rcases zbf (fun x:Hold=>x.ID==id) l with ⟨h1,h2⟩|⟨i,x,h1,h2,h3,h4⟩
 ·simp only[h1,h2,zpv,cond_true]
 ·simp -zeta only[h1,h4,zh0,cond_false,zag,h2,za3a,k_or,za7,zh6,Int.toNat_natCast]
  dsimp only
  rw[zau9]
  cases (!(rng 1 9999 item)||(!(state==3&&rng 1 109572 u)&&(!(state==2)||!(u==0)))) with
  |true=>rfl
  |false=>
   simp only[cond_false,za2b]
   cases (!(x.State==1)&&((!(x.State==2)||!(x.Got==item))||!(state==3))) with
   |true=>rfl
   |false=>
    simp only[cond_false,hc]
    cases l.any (fun o=>o.Got==item&&!(o.ID==id)) with
    |true=>rfl
    |false=>simp only[cond_false,za3h hl h2];rfl
theorem zavk {l:List Hold} {y:Hold} (hl:l.length<1000000000):qbq l y=some (l.map (fun x=>bif x.ID==y.ID then y else x)):=by
 have h:=zbg (step:=zon) (fun (i:Nat) (s:List Hold)=>s.length≤i) (fun i s=>(l,(i:Int),y,s,())) l
  (fun i x s=>.inl (s++[bif x.ID==y.ID then y else x])) (fun s=>(s,())) (by rw[za4];omega)
  (fun s _=>by simp only[zon,dge,cond_false])
  (fun i x s hx hi=>by
   have hlt:=(List.getElem?_eq_some_iff.1 hx).1
   have l1:∀z:Hold,decide (s.length+([z]:List Hold).length≤LIM)=true:=fun z=>zee (by simp;omega)
   refine ⟨?_,fun s' hs'=>?_⟩
   ·simp only[zon,dlt hlt,zag,hx,cond_true,l1,zam (show i<9223372036854775807 by omega)]
    cases x.ID==y.ID<;>rfl
   ·cases hs'
    simp
    omega) [] (by simp)
 rw[zdm]at h
 unfold qbq
 rw[show zad zon (l,0,y,([]:List Hold),())=_ from h]
 simp only
 congr 1
 have key:∀(l o:List Hold),l.foldl (fun s x=>s++[bif x.ID==y.ID then y else x]) o=o++l.map (fun x=>bif x.ID==y.ID then y else x):=by
  intro l
  induction l with
  |nil=>intro o;simp
  |cons x l ih=>intro o;rw[List.foldl_cons,ih];simp
 rw[key,List.nil_append]
theorem z2h {l:List Hold} (hsort:∀i x,l[i]?=some x→zbt l i (fun y=>decide (x.ID≤y.ID))=false) {i:Nat} {x y:Hold} (hx:l[i]?=some x) (hy:y.ID=x.ID):l.map (fun z=>bif z.ID==y.ID then y else z)=l.set i y:=by
 apply List.ext_getElem?
 intro j
 rw[List.getElem?_map,List.getElem?_set]
 have hlt:=(List.getElem?_eq_some_iff.1 hx).1
 split
 ·rename_i e
  subst e
  simp only[hx,Option.map_some,hlt,if_true,hy,beq_self_eq_true,cond_true]
 ·rename_i e
  cases hj:l[j]? with
  |none=>rfl
  |some z=>
   have hne:¬z.ID=y.ID:=by
    rw[hy]
    rcases Nat.lt_or_gt_of_ne e with h|h
    ·have:=zeg (key:=fun y:Hold=>y.ID) hsort j i x z h hx hj;omega
    ·have:=zeg (key:=fun y:Hold=>y.ID) hsort i j z x h hj hx;omega
   have hb:(z.ID==y.ID)=false:=by simpa using hne
   simp only[Option.map_some,hb,cond_false]
theorem zau8 (state u:Int):((!(state==2)&&!(state==3))||(state==3&&(decide (u<1)||!(rng 0 109572 u)))||(state==2&&!(u==0)))=!(okS state u):=by
 unfold okS
 by_cases h3:state=3
 ·subst h3
  unfold rng
  by_cases h1:u<1
  ·have:¬1≤u:=by omega
   simp[h1,this]
  ·have a:1≤u:=by omega
   have b:0≤u:=by omega
   simp[h1,a,b]
 ·have e3:(state==3)=false:=by simpa using h3
  rw[e3]
  cases state==2<;>cases u==0<;>rfl
theorem zamv {l:List Hold} {id item state u:Int} (hl:l.length<1000000000) (hsort:∀i x,l[i]?=some x→zbt l i (fun y=>decide (x.ID≤y.ID))=false):qbl l id item state u=some (zft l id item state u):=by
 unfold qbl zft
 rw[z9v hl]
 unfold getH
 rcases zbf (fun x:Hold=>x.ID==id) l with ⟨h1,h2⟩|⟨i,x,h1,h2,h3,h4⟩
 ·rw[h2];rfl
 ·have hxid:x.ID=id:=by simpa using h3
  have hw:=zbm (step:=zol) (fun i=>(l,id,item,state,u,(i:Int),x,())) l (fun o=>!(o.ID==id)&&o.Got==item) (fun _ _=>(.inr ([],7,()):(List Hold×Int×Int×Int×Hold×Unit)⊕(List Hold×Int×Unit))) (.inl (l,item,state,u,x,())) hl
   (by simp only[zol,dge,cond_false])
   (fun j y hy=>by
    have hlt:=(List.getElem?_eq_some_iff.1 hy).1
    simp -zeta only[zol,dlt hlt,zag,hy,cond_true,za7,zam (show j<9223372036854775807 by omega)]
    rfl)
  rw[zh3]at hw
  rw[h4]
  simp -zeta only[Bool.not_true,cond_false,zam2,zam9,k_or,za7,zh6,h1,Int.toNat_natCast]
  dsimp only
  rw[←zau8]
  have eb:∀a b c d:Bool,((a||b||c)||d)=(a||(b||c||d)):=by decide
  cases hq:(!(rng 1 9999 item)||(!(state==2)&&!(state==3)||(state==3&&(decide (u<1)||!(rng 0 109572 u)))||(state==2&&!(u==0)))) with
  |true=>
   rw[←eb]at hq
   rw[hq]
   try rfl
  |false=>
   rw[←eb]at hq
   rw[hq]
   simp only[cond_false,za2b]
   cases (!(x.State==1)&&((!(x.State==2)||!(x.Got==item))||!(state==3))) with
   |true=>rfl
   |false=>
    simp only[cond_false]
    rw[show zad zol (l,id,item,state,u,0,x,())=_ from hw]
    have ea:l.any (fun o=>o.Got==item&&!(o.ID==id))=(l.find? (fun o=>!(o.ID==id)&&o.Got==item)).isSome:=by
     rw[Bool.eq_iff_iff,List.find?_isSome,List.any_eq_true]
     constructor
     ·rintro ⟨o,ho,hp⟩;exact ⟨o,ho,by rw[Bool.and_comm];exact hp⟩
     ·rintro ⟨o,ho,hp⟩;exact ⟨o,ho,by rw[Bool.and_comm];exact hp⟩
    rw[ea]
    cases l.find? (fun o=>!(o.ID==id)&&o.Got==item) with
    |some o=>rfl
    |none=>
     simp only[Option.isSome_none,cond_false]
     have:=zavk (l:=l) (y:=gotH x item state u) hl
     rw[z2h hsort h2 (y:=gotH x item state u) rfl]at this
     rw[show qbq l (⟨x.ID,x.Patron,x.Record,x.Item,x.Pickup,x.Placed,state,item,u,x.Asleep,x.Rank⟩:Hold)=_ from this]
def zcx (o:Hold):Int×Int×Int:=(o.ID,o.Rank,o.Record)
theorem zr6 {c:Circ} (h:MidP c) {l:List Hold} (e:l.map zcx=c.Holds.map zcx):MidP (ze6 c l):=by
 have hlen:l.length=c.Holds.length:=by have:=congrArg List.length e;simpa using this
 have key:∀(i:Nat) (x:Hold),l[i]?=some x→∃x',c.Holds[i]?=some x'∧zcx x'=zcx x:=by
  intro i x hx
  have h1:(l.map zcx)[i]?=some (zcx x):=by rw[List.getElem?_map,hx];rfl
  rw[e,List.getElem?_map]at h1
  cases hl:c.Holds[i]? with
  |none=>rw[hl]at h1;cases h1
  |some x'=>rw[hl]at h1;exact ⟨x',rfl,by simpa using h1⟩
 refine ⟨zkf h.short (by rw[hlen];exact h.short.holds),h.moves,?_,?_,?_,?_,h.cal,h.rules,h.branch,h.ids,h.chN⟩
 ·show l.length<_;rw[hlen];exact h.holdsN
 ·intro i x hx
  obtain ⟨x',hx',ek⟩:=key i x hx
  have hs:=h.sorted i x' hx'
  cases i with
  |zero=>rfl
  |succ j=>
   show zbt l (j+1) _=false
   unfold zbt at hs ⊢
   simp only at hs ⊢
   cases hj:l[j]? with
   |none=>rfl
   |some y=>
    obtain ⟨y',hy',ey⟩:=key j y hj
    rw[hy']at hs
    unfold zcx at ek ey
    simp only[Prod.mk.injEq]at ek ey
    simp only at hs;rw[ek.1,ey.1]at hs
    exact hs
 ·intro o ho
  obtain ⟨i,hi⟩:=List.getElem?_of_mem ho
  obtain ⟨x',hx',ek⟩:=key i o hi
  have:=h.rank x' (List.mem_of_getElem? hx')
  unfold zcx at ek
  simp only[Prod.mk.injEq]at ek
  rw[←ek.1,←ek.2.1]
  exact this
 ·intro r
  have e1:∀m:List Hold,(m.filter (fun o=>o.Record==r)).length=((m.map zcx).filter (fun k=>k.2.2==r)).length:=by
   intro m
   rw[List.filter_map,List.length_map]
   try rfl
  show (l.filter (fun o=>o.Record==r)).length<20
  rw[e1,e,←e1]
  exact h.few r
theorem zne {l:List Hold} {id item state u:Int} (h:(zft l id item state u).2=0):(zft l id item state u).1.map zcx=l.map zcx:=by
 unfold zft at h ⊢
 rcases zbf (fun x:Hold=>x.ID==id) l with ⟨h1,h2⟩|⟨i,x,h1,h2,h3,h4⟩
 ·rw[h2]at h;cases h
 ·rw[h4]at h ⊢
  simp only at h ⊢
  cases hq:(!(rng 1 9999 item)||!(okS state u)) with
  |true=>rw[hq]at h;cases h
  |false=>
   rw[hq]at h
   simp only[cond_false]at h ⊢
   cases hq2:(!(x.State==1)&&((!(x.State==2)||!(x.Got==item))||!(state==3))) with
   |true=>rw[hq2]at h;cases h
   |false=>
    rw[hq2]at h
    simp only[cond_false]at h ⊢
    cases hq3:l.any (fun o=>o.Got==item&&!(o.ID==id)) with
    |true=>rw[hq3]at h;cases h
    |false=>
     simp only[cond_false,h1,Int.toNat_natCast]
     exact zdx h2 rfl
end Go.Proofs.YtdahfgialanmpaaGreatDoor
namespace Go.Proofs.YtdahfgialanmpaaGreatDoor
open Ev
open Go (IntKind)
structure Frame (c d:Circ):Prop where
 ids:d.Items.map (fun x=>x.ID)=c.Items.map (fun x=>x.ID)
 holds:d.Holds.map zcx=c.Holds.map zcx
 patrons:d.Patrons=c.Patrons
 loans:d.Loans=c.Loans
 charges:d.Charges=c.Charges
 rules:d.Rules=c.Rules
 cals:d.Cals=c.Cals
 today:d.Today=c.Today
 here:d.Local=c.Local
 nh:d.NextHold=c.NextHold
 nc:d.NextCharge=c.NextCharge
 br:d.Items.map (fun x=>x.Custody.Branch)=c.Items.map (fun x=>x.Custody.Branch)
 recs:d.Items.map (fun x=>x.Record)=c.Items.map (fun x=>x.Record)
theorem Frame.refl (c:Circ):Frame c c:=⟨rfl,rfl,rfl,rfl,rfl,rfl,rfl,rfl,rfl,rfl,rfl,rfl,rfl⟩
theorem Frame.trans {a b c:Circ} (h:Frame a b) (k:Frame b c):Frame a c:=
 ⟨k.ids.trans h.ids,k.holds.trans h.holds,k.patrons.trans h.patrons,k.loans.trans h.loans,k.charges.trans h.charges,k.rules.trans h.rules,k.cals.trans h.cals,k.today.trans h.today,k.here.trans h.here,k.nh.trans h.nh,k.nc.trans h.nc,k.br.trans h.br,k.recs.trans h.recs⟩
theorem zld {c:Circ} {i:Nat} {x:Item} (hx:c.Items[i]?=some x) (m:Move) {u:Custody} (hu:u.Branch=x.Custody.Branch):Frame c (zcp c i x m u):=
 ⟨zdx hx rfl,rfl,rfl,rfl,rfl,rfl,rfl,rfl,rfl,rfl,rfl,zdx hx hu,zdx hx rfl⟩
theorem zju {c:Custody} {m:Move} {u:Custody} (h:zbc c m=(u,0)) (hk:(zc5 m.Kind==2)=false):u.Branch=c.Branch:=by
 unfold zbc at h
 cases e1:(!(zi5 c)||!(zi6 m)) with
 |true=>rw[e1]at h;cases h
 |false=>
  rw[e1]at h
  simp only[cond_false]at h
  cases e2:!(zjq c.State m.Kind) with
  |true=>rw[e2]at h;cases h
  |false=>
   rw[e2]at h
   simp only[cond_false]at h
   cases e3:(m.Kind==3&&c.State==5&&!(m.Who==c.Who)) with
   |true=>rw[e3]at h;cases h
   |false=>
    rw[e3]at h
    simp only[cond_false]at h
    cases e4:!(z95 c m) with
    |true=>rw[e4]at h;cases h
    |false=>
     rw[e4]at h
     simp only[cond_false,hk]at h
     cases e5:(zc5 m.Kind==4||(zc5 m.Kind==5||zc5 m.Kind==8)) with
     |true=>rw[e5]at h;cases h;rfl
     |false=>
      rw[e5]at h
      simp only[cond_false]at h
      cases e6:(zc5 m.Kind==6) with
      |true=>rw[e6]at h;cases h;rfl
      |false=>
       rw[e6]at h
       simp only[cond_false]at h
       cases e7:(zc5 m.Kind==9||zc5 m.Kind==10) with
       |true=>rw[e7]at h;cases h;rfl
       |false=>rw[e7]at h;cases h;rfl
theorem zfw {c:Circ} {l:List Hold} (e:l.map zcx=c.Holds.map zcx):Frame c (ze6 c l):=⟨rfl,e,rfl,rfl,rfl,rfl,rfl,rfl,rfl,rfl,rfl,rfl,rfl⟩
def SimD (a:Option (Unit×Circ_desk)) (b:Option (Circ×Int)) (Q:Circ→Prop):Prop:=
 (∃c,a=some ((),⟨c,0⟩)∧b=some (c,0)∧Q c)∨∃c e,e≠0∧a=some ((),⟨c,e⟩)∧b=some (zdy,e)∧Short c
theorem zpt {c:Circ} (h:MidP c) {b n:Int} (hb:rng 1 4 b=true):∃d e,qes b n ⟨c,0⟩=some (d,⟨c,e⟩)∧qbx (calS c b) c.Today n=some (d,e):=by
 obtain ⟨d,e,hq⟩:=znr (h.cal b) c.Today n
 refine ⟨d,e,?_,hq⟩
 unfold qes
 simp only[z90 hb,z9w (h.cal b),hq]
 by_cases he:e=0
 ·subst he;rfl
 ·have he2:(e==0)=false:=by simpa using he
  simp only[he2,Bool.not_false,cond_true,qt,beq_self_eq_true]
theorem zmw {c:Circ} (h:MidP c) {b n e0:Int} (hb:rng 1 4 b=true) (h0:e0≠0):∃d,qes b n ⟨c,e0⟩=some (d,⟨c,e0⟩):=by
 obtain ⟨d,e,hq⟩:=znr (h.cal b) c.Today n
 have h2:(e0==0)=false:=by simpa using h0
 refine ⟨d,?_⟩
 unfold qes
 simp only[z90 hb,z9w (h.cal b),hq]
 cases e==0<;>simp only[Bool.not_false,Bool.not_true,cond_true,cond_false,qt,h2]
theorem SimD.mono {a:Option (Unit×Circ_desk)} {b:Option (Circ×Int)} {Q R:Circ→Prop} (h:SimD a b Q) (hQ:∀d,Q d→R d):SimD a b R:=by
 rcases h with ⟨d,h1,h2,h3⟩|h
 ·exact .inl ⟨d,h1,h2,hQ d h3⟩
 ·exact .inr h
theorem zos {c:Circ} (h:MidP c) {i:Nat} {x:Item} (hx:c.Items[i]?=some x) (o:Hold):SimD (qds (i:Int) o ⟨c,0⟩) (qdz c x.ID o) (fun d=>(MidP d∧Frame c d)∧(∃u,d.Items=c.Items.set i (zht u x))∧∃st u,zft c.Holds o.ID x.ID st u=(d.Holds,0)):=by
 obtain ⟨r,b,hr,_⟩:=zaao (p:=o.Patron) (x:=x) h.short
 have hb:=h.branch x (List.mem_of_getElem? hx)
 unfold qds qdz
 simp -zeta only[beq_self_eq_true,Bool.not_true,cond_false,zn4 h hx,zag,hx,z9z h.short,hr]
 rcases zjj h hx 5 x.Custody.Branch o.Patron with ⟨u,ha,m1,m2,hm2⟩|⟨e,he,m1,m2⟩
 ·have hf:=zld hx ⟨c.Today,x.ID,5,x.Custody.Branch,o.Patron⟩ (zju ha rfl)
  rw[m1,m2]
  have hh:(zcp c i x ⟨c.Today,x.ID,5,x.Custody.Branch,o.Patron⟩ u).Holds=c.Holds:=rfl
  have hI:(zcp c i x ⟨c.Today,x.ID,5,x.Custody.Branch,o.Patron⟩ u).Items=c.Items.set i (zht u x):=rfl
  generalize zcp c i x ⟨c.Today,x.ID,5,x.Custody.Branch,o.Patron⟩ u=c2 at hm2 hf hh hI
  dsimp only
  have core:∀days:Int,∃d e,qes x.Custody.Branch days ⟨c2,0⟩=some (d,⟨c2,e⟩)∧qbx (calS c2 x.Custody.Branch) c2.Today days=some (d,e):=fun days=>zpt hm2 hb
  cases b
  all_goals
   simp only[cond_true,cond_false,beq_self_eq_true,Bool.not_true,za30 hb]
   obtain ⟨d,e,l1,l2⟩:=core _
   rw[l1,l2]
   by_cases he:e=0
   ·subst he
    simp only[beq_self_eq_true,Bool.not_true,cond_true,cond_false,zamn hm2.short.holds,zamv hm2.short.holds hm2.sorted]
    have ck:=zne (l:=c2.Holds) (id:=o.ID) (item:=x.ID) (state:=3) (u:=d)
    generalize hcq:zft c2.Holds o.ID x.ID 3 d=q at ck
    obtain ⟨l,e⟩:=q
    by_cases he:e=0
    ·subst he
     exact .inl ⟨ze6 c2 l,rfl,rfl,⟨zr6 hm2 (ck rfl),hf.trans (zfw (ck rfl))⟩,⟨u,hI⟩,3,d,by rw[←hh];exact hcq⟩
    ·have he2:(e==0)=false:=by simpa using he
     simp only[zgm c2 l e he,he2,Bool.not_false,cond_true]
     exact .inr ⟨_,e,he,rfl,rfl,hm2.short⟩
   ·have he2:(e==0)=false:=by simpa using he
    simp only[he2,Bool.not_false,cond_true,cond_false]
    exact .inr ⟨_,e,he,rfl,rfl,hm2.short⟩
 ·have he2:(e==0)=false:=by simpa using he
  rw[m1,m2]
  dsimp only
  cases b
  all_goals
   simp only[cond_true,cond_false,he2,Bool.not_false]
   obtain ⟨d,l1⟩:=zmw (n:=_) h hb he
   rw[l1]
   simp only[he2,cond_false]
   exact .inr ⟨_,e,he,rfl,rfl,h.short⟩
theorem zaai {c:Circ} (h:MidP c) {i:Nat} {x:Item} (hx:c.Items[i]?=some x) (o:Hold):SimD (qds (i:Int) o ⟨c,0⟩) (qdz c x.ID o) (fun d=>MidP d∧Frame c d):=(zos h hx o).mono (fun _ h=>h.1)
theorem zry {c:Circ} {i:Nat} {x:Item} (hx:c.Items[i]?=some x) (kind:Int):qdw (i:Int) kind ⟨c,0⟩=qbi (i:Int) kind x.Custody.Branch 0 ⟨c,0⟩:=by
 unfold qdw
 simp only[beq_self_eq_true,cond_true,zag,hx]
 cases qbi (i:Int) kind x.Custody.Branch 0 ⟨c,0⟩ with
 |none=>rfl
 |some p=>rfl
theorem zps (c:Circ) (i e0:Int) (h0:e0≠0):qc6 i ⟨c,e0⟩=some ((),⟨c,e0⟩):=by
 have h:(e0==0)=false:=by simpa using h0
 unfold qc6
 simp only[h,Bool.not_false,cond_true]
theorem zmx (c:Circ) (i e0:Int) (o:Hold) (h0:e0≠0):qds i o ⟨c,e0⟩=some ((),⟨c,e0⟩):=by
 have h:(e0==0)=false:=by simpa using h0
 unfold qds
 simp only[h,Bool.not_false,cond_true]
theorem zaip {X:Type} {l:List X} {i:Nat} {x:X} (h:l[i]?=some x):l.set i x=l:=by
 obtain ⟨h1,h2⟩:=List.getElem?_eq_some_iff.1 h
 rw[←h2,List.set_getElem_self]
theorem zaf4 {l:List Hold} (hs:∀i x,l[i]?=some x→zbt l i (fun y=>decide (x.ID≤y.ID))=false) {o p:Hold} (ho:o∈l) (hp:p∈l) (e:o.ID=p.ID):o=p:=by
 have h1:=zha hs ho
 have h2:=zha hs hp
 rw[e,h2]at h1
 cases h1
 try rfl
def Put (c d:Circ) (i:Nat) (x:Item):Prop:=(∃u,d.Items=c.Items.set i (zht u x))∧∃v,qdl c x=some v∧((v=0∧d.Holds=c.Holds)∨∃st u,zft c.Holds v x.ID st u=(d.Holds,0)∧(st=3→∀o∈c.Holds,o.ID=v→o.Pickup=x.Custody.Branch))
theorem z4o {c:Circ} (h:MidP c) {i:Nat} {x:Item} (hx:c.Items[i]?=some x):SimD (qc6 (i:Int) ⟨c,0⟩) (qfy c x.ID) (fun d=>(MidP d∧Frame c d)∧Put c d i x):=by
 obtain ⟨v,p1,p2,g1,g2⟩:=zah6 h hx
 have mv:∀kind branch who:Int,(zc5 kind==2)=false→SimD (qbi (i:Int) kind branch who ⟨c,0⟩) (qai c x.ID kind branch who) (fun d=>(MidP d∧Frame c d)∧d.Holds=c.Holds∧∃u,d.Items=c.Items.set i (zht u x)):=by
  intro kind branch who hk
  rcases zjj h hx kind branch who with ⟨u,ha,m1,m2,hm2⟩|⟨e,he,m1,m2⟩
  ·exact .inl ⟨_,m1,m2,⟨hm2,zld hx _ (zju ha hk)⟩,rfl,u,rfl⟩
  ·exact .inr ⟨_,e,he,m1,m2,h.short⟩
 unfold qc6 qfy
 simp -zeta only[beq_self_eq_true,Bool.not_true,cond_false,zn4 h hx,zag,hx,p1,p2,za3f h.short.holds,z9v h.short.holds,zry hx,za7]
 by_cases hv:v=0
 ·subst hv
  generalize getH c.Holds 0=q at g1 ⊢
  obtain ⟨o,ok⟩:=q
  simp only[beq_self_eq_true,Bool.not_true]at g1
  subst g1
  dsimp only
  simp only[Bool.not_false,Bool.true_and,beq_self_eq_true,cond_true]
  cases x.Branch==x.Custody.Branch with
  |false=>
   simp only[Bool.not_false,cond_true]
   rcases mv 6 x.Branch 0 rfl with ⟨d,m1,m2,hQ,hH,hI⟩|⟨d,e,he,m1,m2,hsd⟩
   ·rw[m1,m2];exact .inl ⟨d,rfl,rfl,hQ,hI,0,p1,.inl ⟨rfl,hH⟩⟩
   ·rw[m1,m2];exact .inr ⟨d,e,he,rfl,rfl,hsd⟩
  |true=>
   simp only[Bool.not_true,cond_false]
   cases x.Custody.State==3 with
   |true=>exact .inl ⟨c,rfl,rfl,⟨h,Frame.refl c⟩,⟨x.Custody,(zaip hx).symm⟩,0,p1,.inl ⟨rfl,rfl⟩⟩
   |false=>
    simp only[Bool.not_false,cond_true,cond_false]
    rcases mv 2 x.Custody.Branch 0 rfl with ⟨d,m1,m2,hQ,hH,hI⟩|⟨d,e,he,m1,m2,hsd⟩
    ·rw[m1,m2];exact .inl ⟨d,rfl,rfl,hQ,hI,0,p1,.inl ⟨rfl,hH⟩⟩
    ·rw[m1,m2];exact .inr ⟨d,e,he,rfl,rfl,hsd⟩
 ·have hv2:(v==0)=false:=by simpa using hv
  obtain ⟨o,ho,hoi,hg,hw⟩:=g2 hv
  rw[hg,hv2]
  dsimp only
  simp only[Bool.not_true,Bool.false_and,cond_false]
  cases hpk:o.Pickup==x.Custody.Branch with
  |true=>
   simp only[cond_true]
   rcases zos h hx o with ⟨d,m1,m2,hQ,hI,st,u,hH⟩|⟨d,e,he,m1,m2,hsd⟩
   ·rw[m1,m2];exact .inl ⟨d,rfl,rfl,hQ,hI,v,p1,.inr ⟨st,u,by rw[←hoi];exact hH,fun _ o2 ho2 hv2=>by rw[zaf4 h.sorted ho2 ho (hv2.trans hoi.symm)];simpa using hpk⟩⟩
   ·rw[m1,m2];exact .inr ⟨d,e,he,rfl,rfl,hsd⟩
  |false=>
   simp only[cond_false]
   rcases mv 6 o.Pickup o.Patron rfl with ⟨d,m1,m2,⟨hm2,hf⟩,hH,hI⟩|⟨d,e,he,m1,m2,hsd⟩
   ·rw[m1,m2]
    simp only[beq_self_eq_true,Bool.not_true,cond_true,cond_false,zamn hm2.short.holds,zamv hm2.short.holds hm2.sorted]
    have ck:=zne (l:=d.Holds) (id:=v) (item:=x.ID) (state:=2) (u:=0)
    generalize hcq:zft d.Holds v x.ID 2 0=q at ck
    obtain ⟨l,e⟩:=q
    by_cases he:e=0
    ·subst he
     exact .inl ⟨ze6 d l,rfl,rfl,⟨zr6 hm2 (ck rfl),hf.trans (zfw (ck rfl))⟩,hI,v,p1,.inr ⟨2,0,by rw[←hH];exact hcq,fun h=>absurd h (by decide)⟩⟩
    ·have he2:(e==0)=false:=by simpa using he
     simp only[zgm d l e he,he2,Bool.not_false,cond_true]
     exact .inr ⟨_,e,he,rfl,rfl,hm2.short⟩
   ·have he2:(e==0)=false:=by simpa using he
    rw[m1,m2]
    simp only[he2,cond_false,Bool.not_false,cond_true]
    exact .inr ⟨d,e,he,rfl,rfl,hsd⟩
theorem zadt {c:Circ} (h:MidP c) {i:Nat} {x:Item} (hx:c.Items[i]?=some x):SimD (qc6 (i:Int) ⟨c,0⟩) (qfy c x.ID) (fun d=>MidP d∧Frame c d):=(z4o h hx).mono (fun _ h=>h.1)
end Go.Proofs.YtdahfgialanmpaaGreatDoor
namespace Go.Proofs.YtdahfgialanmpaaGreatDoor
open Ev
open Go (IntKind)
theorem zji {c:Circ} {i:Nat} {x:Item} (hx:c.Items[i]?=some x) (m:Move) (u:Custody):(zcp c i x m u).Items[i]?=some (zht u x):=by
 show (c.Items.set i (zht u x))[i]?=_
 rw[List.getElem?_set_self (List.getElem?_eq_some_iff.1 hx).1]
theorem z13 {c:Circ} (h:MidP c) (item:Int):(fIdx (fun x=>x.ID==item) c.Items = -1∧qi c item=some (-1)∧c.Items.find? (fun x=>x.ID==item)=none)∨
 ∃(i:Nat) (x:Item),fIdx (fun x=>x.ID==item) c.Items=(i:Int)∧qi c item=some (i:Int)∧c.Items[i]?=some x∧x.ID=item∧c.Items.find? (fun x=>x.ID==item)=some x:=by
 rcases zbf (fun x:Item=>x.ID==item) c.Items with ⟨h1,h2⟩|⟨i,x,h1,h2,h3,h4⟩
 ·exact .inl ⟨h1,by rw[zaia h.short.items,h1],h2⟩
 ·exact .inr ⟨i,x,h1,by rw[zaia h.short.items,h1],h2,by simpa using h3,h4⟩
end Go.Proofs.YtdahfgialanmpaaGreatDoor
namespace Go.Proofs.YtdahfgialanmpaaGreatDoor
open Ev
open Go (IntKind)
def Rest (r:Int) (c d:Circ):Prop:=d.Items.map (fun x=>x.Record)=c.Items.map (fun x=>x.Record)∧∀(j:Nat) (y:Item),c.Items[j]?=some y→¬y.Record=r→d.Items[j]?=some y
theorem Rest.refl (r:Int) (c:Circ):Rest r c c:=⟨rfl,fun _ _ h _=>h⟩
theorem Rest.trans {r:Int} {a b c:Circ} (h:Rest r a b) (k:Rest r b c):Rest r a c:=⟨k.1.trans h.1,fun j y hy hr=>k.2 j y (h.2 j y hy hr) hr⟩
end Go.Proofs.YtdahfgialanmpaaGreatDoor
namespace Go.Proofs.YtdahfgialanmpaaGreatDoor
open Ev
open Go (IntKind)
end Go.Proofs.YtdahfgialanmpaaGreatDoor
namespace Go.Proofs.YtdahfgialanmpaaGreatDoor
open Ev
open Go (IntKind)
end Go.Proofs.YtdahfgialanmpaaGreatDoor
namespace Go.Proofs.YtdahfgialanmpaaGreatDoor
open Ev
open Go (IntKind)
def zq7 (l:List Charge) (c:Charge):List Charge×Int:=bif !(za3 (l++[c])==0) then ([],za3 (l++[c])) else (l++[c],0)
theorem za3c {l:List Charge} {c:Charge} (hl:l.length<1000000):qcq l c=some (zq7 l c):=by
 have l1:decide (l.length+([c]:List Charge).length≤LIM)=true:=zee (by simp;omega)
 have l0:decide (l.length≤LIM)=true:=by rw[decide_eq_true_eq];unfold LIM;omega
 unfold qcq zq7
 simp only[l0,l1,cond_true,za23 (show (l++[c]).length<1000000000 by simp;omega)]
 cases !(za3 (l++[c])==0)<;>rfl
theorem z1u {X:Type}:∀(l o:List X),l.foldl (fun s x=>s++[x]) o=o++l:=by
 intro l
 induction l with
 |nil=>intro o;simp
 |cons x l ih=>intro o;rw[List.foldl_cons,ih];simp
theorem za22 {l:List Charge} {c:Charge} (hl:l.length<1000000):qb1 l c=some (zq7 l c):=by
 have hw:=zbg (step:=zoj) (fun (i:Nat) (s:List Charge)=>s.length≤i) (fun i s=>(l,(i:Int),c,s,())) l
  (fun i x s=>.inl (s++[x])) (fun s=>(c,s,())) (by rw[za4];omega)
  (fun s _=>by simp only[zoj,dge,cond_false])
  (fun i x s hx hi=>by
   have hlt:=(List.getElem?_eq_some_iff.1 hx).1
   have l1:∀z:Charge,decide (s.length+([z]:List Charge).length≤LIM)=true:=fun z=>zee (by simp;omega)
   refine ⟨?_,fun s' hs'=>?_⟩
   ·simp only[zoj,dlt hlt,zag,hx,cond_true,l1,zam (show i<9223372036854775807 by omega)]
   ·cases hs'
    simp
    omega) [] (by simp)
 rw[zdm,z1u,List.nil_append]at hw
 have l1:decide (l.length+([c]:List Charge).length≤LIM)=true:=zee (by simp;omega)
 unfold qb1 zq7
 rw[show zad zoj (l,0,c,([]:List Charge),())=_ from hw]
 simp only[l1,cond_true,zamo (show (l++[c]).length<1000000000 by simp;omega)]
 cases !(za3 (l++[c])==0)<;>rfl
def zhs (c:Circ) (l:List Charge) (n:Int):Circ:=⟨c.Today,c.Items,c.Patrons,c.Loans,c.Holds,l,c.Rules,c.Cals,c.Moves,c.NextHold,n,c.Local⟩
theorem zakr {c:Circ} (h:MidP c) {l:List Charge} (hl:l.length<1000000) (n:Int):MidP (zhs c l n):=by
 obtain ⟨⟨a1,a2,a3,a4,a5,a6,a7,a8,a9,a10,a11,a12,a13⟩,h2,h3,h4,h5,h6,h7,h8,h9,h10,h11⟩:=h
 exact ⟨⟨a1,a2,a3,a4,by show l.length<_;omega,a6,a7,a8,a9,a10,a11,a12,a13⟩,h2,h3,h4,h5,h6,h7,h8,h9,h10,hl⟩
theorem zadl {l:List Charge} {x:Charge} (h:(zq7 l x).2=0):(zq7 l x).1=l++[x]∧za3 (l++[x])=0:=by
 unfold zq7 at h ⊢
 by_cases he:za3 (l++[x])=0
 ·simp only[he,beq_self_eq_true,Bool.not_true,cond_false,and_self]
 ·have he2:(za3 (l++[x])==0)=false:=by simpa using he
  rw[he2]at h
  exact absurd h he
theorem z1b {c:Circ} (h:MidP c) (vid item kind amount:Int):SimD (qfj vid item kind amount ⟨c,0⟩) (qfp c vid item kind amount)
 (fun d=>d=zhs c (c.Charges++[⟨c.NextCharge,vid,item,c.Today,kind,amount,0⟩]) (wr .i64 (c.NextCharge+1))∧za3 (c.Charges++[⟨c.NextCharge,vid,item,c.Today,kind,amount,0⟩])=0∧c.NextCharge≤99999):=by
 unfold qfj qfp
 simp only[beq_self_eq_true,Bool.not_true,cond_false,za3c h.chN,za22 h.chN]
 cases hq:decide (99999<c.NextCharge) with
 |true=>exact .inr ⟨c,13,by decide,rfl,rfl,h.short⟩
 |false=>
  have hq:¬99999<c.NextCharge:=by simpa using hq
  simp only[cond_false]
  have ho:=zadl (l:=c.Charges) (x:=⟨c.NextCharge,vid,item,c.Today,kind,amount,0⟩)
  generalize zq7 c.Charges ⟨c.NextCharge,vid,item,c.Today,kind,amount,0⟩=q at ho ⊢
  obtain ⟨l,e⟩:=q
  by_cases he:e=0
  ·subst he
   have:=ho rfl
   exact .inl ⟨zhs c l (wr .i64 (c.NextCharge+1)),rfl,rfl,by rw[←this.1],this.2,by omega⟩
  ·have he2:(e==0)=false:=by simpa using he
   simp only[he2,Bool.not_false,cond_true]
   exact .inr ⟨c,e,he,by simp only[qt,beq_self_eq_true,cond_true],rfl,h.short⟩
theorem zuw {l:List Charge} (h:za3 l=0):l.length<1000000:=by have:=(z1c h).1;omega
end Go.Proofs.YtdahfgialanmpaaGreatDoor
namespace Go.Proofs.YtdahfgialanmpaaGreatDoor
open Ev
open Go (IntKind)
def ziy (l:List Loan) (item:Int):List Loan×Loan×Int:=
 match l.find? (fun n=>n.Item==item) with
 |some n=>(l.take (fIdx (fun n=>n.Item==item) l).toNat++l.drop ((fIdx (fun n=>n.Item==item) l).toNat+1),n,0)
 |none=>([],za2k,9)
theorem za3l {l:List Loan} {item:Int} (hl:l.length<100000000):qeo l item=some (ziy l item):=by
 have hl2:l.length<1000000000:=by omega
 unfold qeo ziy qab
 dsimp only
 rw[zqf hl2]
 rcases zbf (fun x:Loan=>x.Item==item) l with ⟨h1,h2⟩|⟨i,x,h1,h2,h3,h4⟩
 ·rw[h2];rfl
 ·have hlt:=(List.getElem?_eq_some_iff.1 h2).1
  have hc:qdp l=some l:=by unfold qdp;rw[zi8 hl2];rfl
  have hd:qed l (i:Int) ((i+1:Nat):Int)=some (l.take i++l.drop (i+1)):=by
   show zhz l (i:Int) ((i+1:Nat):Int)=_
   unfold zhz
   have d1:decide ((0:Int)≤(i:Int))=true:=by rw[decide_eq_true_eq];omega
   have d2:decide ((i:Int)≤((i+1:Nat):Int))=true:=by rw[decide_eq_true_eq];omega
   have d3:decide (((i+1:Nat):Int)≤(l.length:Int))=true:=by rw[decide_eq_true_eq];omega
   have d4:decide (l.length≤1073741824)=true:=by rw[decide_eq_true_eq];omega
   simp only[d1,d2,d3,d4,Bool.and_self,cond_true,Int.toNat_natCast]
  rw[h4,h1]
  unfold qfi
  simp only[zh0,cond_false,hc,zam (show i<9223372036854775807 by omega),hd,Int.toNat_natCast]
theorem za3o {l:List Loan} {item:Int} (hl:l.length<100000000):qf0 l item=some (ziy l item):=by
 have hl2:l.length<1000000000:=by omega
 unfold qf0 ziy
 rw[zaml hl2]
 rcases zbf (fun x:Loan=>x.Item==item) l with ⟨h1,h2⟩|⟨i,x,h1,h2,h3,h4⟩
 ·rw[h1,h2];rfl
 ·have hlt:=(List.getElem?_eq_some_iff.1 h2).1
  have d1:decide ((0:Int)≤(i:Int))=true:=by rw[decide_eq_true_eq];omega
  have d2:decide ((i:Int)≤(l.length:Int))=true:=by rw[decide_eq_true_eq];omega
  have d3:decide (((i+1:Nat):Int)≤(l.length:Int))=true:=by rw[decide_eq_true_eq];omega
  have d4:decide ((0:Int)≤((i+1:Nat):Int))=true:=by rw[decide_eq_true_eq];omega
  have d5:decide ((0:Int)≤0)=true:=rfl
  have d6:decide ((l.length:Int)≤(l.length:Int))=true:=by simp
  have t0:((l.take i).drop (0:Int).toNat)=l.take i:=by simp
  have t1:(l.take (l.length:Int).toNat)=l:=by simp
  have l1:decide (([]:List Loan).length+(l.take i).length≤LIM)=true:=zee (by rw[List.length_take];simp;omega)
  have l2:decide (([]++l.take i).length+(l.drop (i+1)).length≤LIM)=true:=zee (by rw[List.nil_append,List.length_take,List.length_drop];omega)
  rw[h1,h4]
  simp only[zh0,cond_false,d1,d2,d3,d4,d5,d6,Bool.and_self,cond_true,zam (show i<9223372036854775807 by omega),Int.toNat_natCast,t0,t1,l1,l2,zag,h2,List.nil_append,List.take_length]
  have l3:decide ((l.take i).length+(l.drop (i+1)).length≤LIM)=true:=zee (by rw[List.length_take,List.length_drop];omega)
  rw[l3]
  try rfl
theorem zadu {l:List Loan} {item:Int} (hl:l.length<1000000000):(ziy l item).1.length<1000000000:=by
 unfold ziy
 cases l.find? (fun n=>n.Item==item) with
 |none=>simp
 |some n=>
  simp only[List.length_append,List.length_take,List.length_drop]
  omega
theorem z88 {c:Circ} (h:MidP c) {l:List Loan} (hl:l.length<1000000000):MidP (zcs c l):=by
 obtain ⟨⟨a1,a2,a3,a4,a5,a6,a7,a8,a9,a10,a11,a12,a13⟩,h2,h3,h4,h5,h6,h7,h8,h9,h10,h11⟩:=h
 exact ⟨⟨a1,a2,hl,a4,a5,a6,a7,a8,a9,a10,a11,a12,a13⟩,h2,h3,h4,h5,h6,h7,h8,h9,h10,h11⟩
end Go.Proofs.YtdahfgialanmpaaGreatDoor
namespace Go.Proofs.YtdahfgialanmpaaGreatDoor
open Ev
open Go (IntKind)
def cntD (p:Int→Bool) (f:Int):Nat→Int
 |0=>0
 |k+1=>cntD p f k+(bif p (f+k) then 1 else 0)
theorem zux {p:Int→Bool} {f:Int}:∀k:Nat,0≤cntD p f k∧cntD p f k≤k:=by
 intro k
 induction k with
 |zero=>exact ⟨by simp[cntD],by simp[cntD]⟩
 |succ k ih=>
  simp only[cntD]
  cases p (f+k)<;>simp only[cond_true,cond_false]<;>omega
theorem zj6 {p:Int→Bool} {f:Int} {k:Nat}:cntD p f (k+1)=cntD p f k+(bif p (f+k) then 1 else 0):=rfl
theorem z5d {p:Int→Bool}:∀(k:Nat) (f:Int),cntD p f (k+1)=(bif p f then 1 else 0)+cntD p (f+1) k:=by
 intro k
 induction k with
 |zero=>intro f;simp[cntD]
 |succ k ih=>
  intro f
  rw[zj6,ih f,zj6]
  rw[show f+((k+1:Nat):Int)=f+1+(k:Int) by omega]
  omega
theorem zavl {c:Calendar} (hc:CalOk c) {t:Int}:∀(k:Nat) (d n:Int),0≤d→d+k=(if 109572<t then 109572 else t)+1→0≤n→n+k<1000000000→za1 zlt (k+1) (t,n,d,c,())=some (n+cntD (zhk c) d k,()):=by
 intro k
 induction k with
 |zero=>
  intro d n h0 h1 h2 h3
  have:decide (d≤(if 109572<t then 109572 else t))=false:=by rw[decide_eq_false_iff_not];omega
  simp only[za1,zlt,this,cond_false,cntD,Int.add_zero]
 |succ k ih=>
  intro d n h0 h1 h2 h3
  have hd:decide (d≤(if 109572<t then 109572 else t))=true:=by rw[decide_eq_true_eq];omega
  have hb:d<200000:=by split at h1<;>omega
  rw[za1]
  simp only[zlt,hd,cond_true,zavu hc]
  rw[z5d,zco (n:=d+1) (by omega) (by omega),zco (n:=n+1) (by omega) (by omega)]
  cases zhk c d with
  |true=>
   simp only[cond_true]
   rw[ih (d+1) (n+1) (by omega) (by omega) (by omega) (by omega)]
   rw[Int.add_assoc]
  |false=>
   simp only[cond_false]
   rw[ih (d+1) n (by omega) (by omega) (by omega) (by omega),Int.zero_add]
theorem za28 {c:Calendar} (hc:CalOk c) (f t:Int):qby c f t=some (cntD (zhk c) (if f<0 then 0 else f) ((if 109572<t then 109572 else t)+1-(if f<0 then 0 else f)).toNat):=by
 unfold qby
 generalize hF:(if f<0 then 0 else f)=F
 have hF0:0≤F:=by rw[←hF];split<;>omega
 have hT:(if 109572<t then 109572 else t)≤109572:=by split<;>omega
 by_cases hk:F≤(if 109572<t then 109572 else t)+1
 ·have:=zavl hc (t:=t) ((if 109572<t then 109572 else t)+1-F).toNat F 0 hF0 (by omega) (by omega) (by omega)
  rw[zbd _ (by rw[za4];omega) this,Int.zero_add]
 ·have h0:((if 109572<t then 109572 else t)+1-F).toNat=0:=by omega
  have hd:decide (F≤(if 109572<t then 109572 else t))=false:=by rw[decide_eq_false_iff_not];omega
  have:za1 zlt 1 (t,0,F,c,())=some (0,()):=by simp only[za1,zlt,hd,cond_false]
  rw[zbd _ (by rw[za4];omega) this,h0]
  try rfl
def upS (d w:Int):Int:=if d<w then 0 else (d-w) / 7+1
theorem zox {d:Int} (h:rng 0 109572 d=true):qde d=some (d.tmod 7):=by
 have e:qft d=some (rng 0 109572 d):=by
  unfold qft
  simp -zeta only[za7]
  try rfl
 unfold qde
 rw[e,h]
 try rfl
theorem zac9 {d w:Int} (h0 : -1≤d) (h1:d≤109572) (h2:0≤w) (h3:w<7):qeu d w=some (upS d w):=by
 unfold qeu upS
 rw[zox rfl]
 have e0:(0:Int).tmod 7=0:=rfl
 simp only[e0]
 rw[zco (n:=w-0) (by omega) (by omega),zco (n:=w-0+7) (by omega) (by omega)]
 have e1:(w-0+7).tmod 7=w:=by rw[Int.tmod_eq_emod_of_nonneg (by omega)];omega
 rw[e1]
 by_cases hd:d<w
 ·simp only[hd,decide_true,cond_true,if_true]
 ·simp only[hd,decide_false,cond_false,if_false]
  rw[zco (n:=d-w) (by omega) (by omega),Int.tdiv_eq_ediv_of_nonneg (by omega),zco (n:=(d-w) / 7) (by omega) (by omega),zco (by omega) (by omega)]
theorem zaiv {d w:Int} (h0:0≤d) (h2:0≤w) (h3:w<7):upS d w=upS (d-1) w+(if d % 7=w then 1 else 0):=by
 unfold upS
 split<;>split<;>split<;>omega
theorem zgh {d w:Int} (h0 : -1≤d) (h1:d≤109572) (h2:0≤w) (h3:w<7):0≤upS d w∧upS d w≤20000:=by
 unfold upS
 split<;>omega
def wk (c:Calendar):V7 Bool:=⟨zbq c.Week 0,zbq c.Week 1,zbq c.Week 2,zbq c.Week 3,zbq c.Week 4,zbq c.Week 5,zbq c.Week 6⟩
def zba (c:Calendar) (f t:Int) (w:Nat):Int:=bif zbq c.Week w then upS t w-upS (f-1) w else 0
theorem zadm {b:Bool} {n a:Int} (hn : -1000000≤n) (hn2:n≤1000000) (ha : -100000≤a) (ha2:a≤100000) {α:Type} (k:Int→α):(bif b then k (wr .i64 (n+wr .i64 a)) else k n)=k (n+(bif b then a else 0)):=by
 cases b with
 |true=>simp only[cond_true];rw[zco (n:=a) (by omega) (by omega),zco (by omega) (by omega)]
 |false=>simp only[cond_false,Int.add_zero]
theorem za2 {c:Calendar} {f t:Int} {w:Nat} (hf:0≤f) (hf2:f≤109573) (ht : -1≤t) (ht2:t≤109572) (hw:w<7) : -20000≤zba c f t w∧zba c f t w≤20000:=by
 unfold zba
 have a:=zgh ht ht2 (show 0≤(w:Int) by omega) (by omega)
 have b:=zgh (d:=f-1) (by omega) (by omega) (show 0≤(w:Int) by omega) (by omega)
 cases zbq c.Week w<;>simp only[cond_true,cond_false]<;>omega
theorem zrt {c:Calendar} {f t:Int} (hf:0≤f) (hf2:f≤109573) (ht : -1≤t) (ht2:t≤109572):zad zlk (f,t,0,wk c,0,c,wk c,()) =
 some (f,t,zba c f t 0+zba c f t 1+zba c f t 2+zba c f t 3+zba c f t 4+zba c f t 5+zba c f t 6,c,wk c,()):=by
 have st:∀(w:Nat) (n:Int),w<7→-200000≤n→n≤200000→zlk (f,t,n,wk c,(w:Int),c,wk c,())=some (.inl (f,t,n+zba c f t w,wk c,((w+1:Nat):Int),c,wk c,())):=by
  intro w n hw h1 h2
  have u1:=zac9 ht ht2 (show 0≤(w:Int) by omega) (by omega)
  have u2:=zac9 (d:=f-1) (by omega) (by omega) (show 0≤(w:Int) by omega) (by omega)
  have b1:=zgh ht ht2 (show 0≤(w:Int) by omega) (by omega)
  have b2:=zgh (d:=f-1) (by omega) (by omega) (show 0≤(w:Int) by omega) (by omega)
  have hd:decide ((w:Int)<7)=true:=by rw[decide_eq_true_eq];omega
  have hw1:wr .i64 (f-1)=f-1:=zco (by omega) (by omega)
  have hw2:=zam (show w<9223372036854775807 by omega)
  unfold zba
  simp -zeta only[zlk,hd,cond_true,u1,hw1,u2,hw2]
  dsimp only
  have ap:=fun b=>zadm (b:=b) (n:=n) (a:=upS t w-upS (f-1) w) (by omega) (by omega) (by omega) (by omega) (fun n7=>(some (.inl (f,t,n7,wk c,((w+1:Nat):Int),c,wk c,())):Option ((Int×Int×Int×(V7 Bool)×Int×Calendar×(V7 Bool)×Unit)⊕((Int×Int×Int×Calendar×(V7 Bool)×Unit)))))
  have hcs:w=0∨w=1∨w=2∨w=3∨w=4∨w=5∨w=6:=by omega
  rcases hcs with h|h|h|h|h|h|h<;>subst h<;>exact ap _
 have p0:=za2 (c:=c) hf hf2 ht ht2 (show 0<7 by omega)
 have p1:=za2 (c:=c) hf hf2 ht ht2 (show 1<7 by omega)
 have p2:=za2 (c:=c) hf hf2 ht ht2 (show 2<7 by omega)
 have p3:=za2 (c:=c) hf hf2 ht ht2 (show 3<7 by omega)
 have p4:=za2 (c:=c) hf hf2 ht ht2 (show 4<7 by omega)
 have p5:=za2 (c:=c) hf hf2 ht ht2 (show 5<7 by omega)
 have p6:=za2 (c:=c) hf hf2 ht ht2 (show 6<7 by omega)
 refine zbd 8 (by rw[za4];omega) ?_
 have s0:=st 0 0 (by omega) (by omega) (by omega)
 have s1:=st 1 (0+zba c f t 0) (by omega) (by omega) (by omega)
 have s2:=st 2 (0+zba c f t 0+zba c f t 1) (by omega) (by omega) (by omega)
 have s3:=st 3 (0+zba c f t 0+zba c f t 1+zba c f t 2) (by omega) (by omega) (by omega)
 have s4:=st 4 (0+zba c f t 0+zba c f t 1+zba c f t 2+zba c f t 3) (by omega) (by omega) (by omega)
 have s5:=st 5 (0+zba c f t 0+zba c f t 1+zba c f t 2+zba c f t 3+zba c f t 4) (by omega) (by omega) (by omega)
 have s6:=st 6 (0+zba c f t 0+zba c f t 1+zba c f t 2+zba c f t 3+zba c f t 4+zba c f t 5) (by omega) (by omega) (by omega)
 rw[za1,show zlk (f,t,0,wk c,0,c,wk c,())=_ from s0]
 simp only
 rw[za1,s1]
 simp only
 rw[za1,s2]
 simp only
 rw[za1,s3]
 simp only
 rw[za1,s4]
 simp only
 rw[za1,s5]
 simp only
 rw[za1,s6]
 simp only
 rw[za1]
 rw[Int.zero_add]
 try rfl
def zhr (c:Calendar) (f t:Int) (x:Int):Bool:=decide (f≤x)&&decide (x≤t)&&zbq c.Week (x.tmod 7).toNat
theorem za5o (c:Calendar) {α:Type} (k:Bool→α) (d:α) {r:Int} (h0:0≤r) (h1:r<7):(bif r==0 then k (wk c).x0 else bif r==1 then k (wk c).x1 else bif r==2 then k (wk c).x2 else bif r==3 then k (wk c).x3 else bif r==4 then k (wk c).x4 else bif r==5 then k (wk c).x5 else bif r==6 then k (wk c).x6 else d)=k (zbq c.Week r.toNat):=by
 have hcs:r=0∨r=1∨r=2∨r=3∨r=4∨r=5∨r=6:=by omega
 rcases hcs with h|h|h|h|h|h|h<;>subst h<;>rfl
theorem zpm {c:Calendar} {f t n:Int} {l:List Int} (hl:l.length<1000000000) (hf:0≤f) (ht:t≤109572) (hn : -1000000≤n) (hn2:n≤1000000) :
 zad zie (f,t,n,l,(l.length:Int),0,wk c,())=some (n-(l.filter (zhr c f t)).length,()):=by
 have h:=zbg (step:=zie) (fun (i:Nat) (s:Int)=>-1000000-(i:Int)≤s∧s≤1000000) (fun i s=>(f,t,s,l,(l.length:Int),(i:Int),wk c,())) l
  (fun i x s=>.inl (bif zhr c f t x then s-1 else s)) (fun s=>(s,())) (by rw[za4];omega)
  (fun s _=>by simp only[zie,dge,cond_false])
  (fun i x s hx hi=>by
   have hlt:=(List.getElem?_eq_some_iff.1 hx).1
   obtain ⟨b1,b2⟩:=hi
   have hw:wr .i64 (s-1)=s-1:=zco (by omega) (by omega)
   refine ⟨?_,fun s' hs'=>?_⟩
   ·simp -zeta only[zie,dlt hlt,zag,hx,cond_true,za7,zam (show i<9223372036854775807 by omega),hw]
    unfold zhr
    cases hq:(decide (f≤x)&&decide (x≤t)) with
    |false=>rfl
    |true=>
     simp only[Bool.and_eq_true,decide_eq_true_eq]at hq
     have hr:rng 0 109572 x=true:=by rw[zby];omega
     have hm:=zazh (d:=x) (by omega)
     dsimp only
     rw[zox hr]
     simp only[cond_true,Bool.true_and]
     rw[za5o c (fun v17=>(bif v17 then some (.inl (f,t,s-1,l,(l.length:Int),((i+1:Nat):Int),wk c,())) else some (.inl (f,t,s,l,(l.length:Int),((i+1:Nat):Int),wk c,())):Option ((Int×Int×Int×(List Int)×Int×Int×(V7 Bool)×Unit)⊕((Int×Unit))))) none hm.1 hm.2]
     cases zbq c.Week (x.tmod 7).toNat<;>rfl
   ·cases hs'
    cases zhr c f t x<;>simp only[cond_true,cond_false]<;>omega) n (by omega)
 rw[zdm]at h
 have key:∀(m:List Int) (s:Int),m.foldl (fun s x=>bif zhr c f t x then s-1 else s) s=s-(m.filter (zhr c f t)).length:=by
  intro m
  induction m with
  |nil=>intro s;simp
  |cons x m ih=>
   intro s
   rw[List.foldl_cons,ih,List.filter_cons]
   cases zhr c f t x with
   |true=>simp only[cond_true,if_true,List.length_cons];omega
   |false=>simp
 rw[key]at h
 exact h
theorem zvf (p r:Int→Bool):∀(l:List Int),(∀x∈l,¬(p x=true∧r x=true))→(l.filter (fun x=>p x||r x)).length=(l.filter p).length+(l.filter r).length:=by
 intro l
 induction l with
 |nil=>intro _;rfl
 |cons x l ih=>
  intro h
  have hx:=h x (List.mem_cons_self ..)
  have:=ih (fun y hy=>h y (List.mem_cons_of_mem _ hy))
  simp only[List.filter_cons]
  cases hp:p x<;>cases hr:r x<;>simp_all<;>omega
theorem z60 {d:Int} {q:Int→Bool}:∀{l:List Int},(∀(j i:Nat) (x y:Int),i<j→l[i]?=some x→l[j]?=some y→x<y)→(l.filter (fun x=>x==d&&q x)).length=if (l.any (fun x=>x==d)&&q d)=true then 1 else 0:=by
 intro l
 induction l with
 |nil=>intro _;rfl
 |cons x l ih=>
  intro h
  have h2:∀(j i:Nat) (x y:Int),i<j→l[i]?=some x→l[j]?=some y→x<y:=fun j i a b hij ha hb=>h (j+1) (i+1) a b (by omega) (by simpa using ha) (by simpa using hb)
  have ih:=ih h2
  rw[List.filter_cons,List.any_cons]
  by_cases e:x=d
  ·subst e
   have hn:l.any (fun y=>y==x)=false:=by
    rw[List.any_eq_false]
    intro y hy he
    obtain ⟨j,hj⟩:=List.getElem?_of_mem hy
    have:=h (j+1) 0 x y (by omega) (by simp) (by simpa using hj)
    have:y=x:=by simpa using he
    omega
   rw[hn]at ih
   simp only[beq_self_eq_true,Bool.true_and,Bool.true_or,Bool.false_and]at ih ⊢
   cases q x with
   |true=>simp only[if_true,List.length_cons];rw[ih];rfl
   |false=>simp only[Bool.false_eq_true,if_false];exact ih
  ·have e2:(x==d)=false:=by simpa using e
   simp only[e2,Bool.false_and,Bool.false_or,Bool.false_eq_true,if_false]
   exact ih
theorem zait (c:Calendar) (f d:Int) (h0:0≤d):zba c f d 0+zba c f d 1+zba c f d 2+zba c f d 3+zba c f d 4+zba c f d 5+zba c f d 6 =
 (zba c f (d-1) 0+zba c f (d-1) 1+zba c f (d-1) 2+zba c f (d-1) 3+zba c f (d-1) 4+zba c f (d-1) 5+zba c f (d-1) 6)+(bif zbq c.Week (d.tmod 7).toNat then 1 else 0):=by
 have st:∀w:Nat,w<7→zba c f d w=zba c f (d-1) w+(bif zbq c.Week w then (if d % 7=w then 1 else 0) else 0):=by
  intro w hw
  unfold zba
  have:=zaiv (d:=d) (w:=w) h0 (by omega) (by omega)
  cases zbq c.Week w<;>simp only[cond_true,cond_false]<;>omega
 rw[st 0 (by omega),st 1 (by omega),st 2 (by omega),st 3 (by omega),st 4 (by omega),st 5 (by omega),st 6 (by omega)]
 have e:(d.tmod 7).toNat=(d % 7).toNat:=by rw[Int.tmod_eq_emod_of_nonneg h0]
 rw[e]
 have hcs:d % 7=0∨d % 7=1∨d % 7=2∨d % 7=3∨d % 7=4∨d % 7=5∨d % 7=6:=by omega
 have z:∀b:Bool,(bif b then (0:Int) else 0)=0:=by intro b;cases b<;>rfl
 rcases hcs with h|h|h|h|h|h|h<;>rw[h]<;>simp[z]<;>omega
theorem z6z {c:Calendar} (hc:CalOk c) {f:Int} (hf:0≤f):∀k:Nat,f+k≤109573→
 zba c f (f+k-1) 0+zba c f (f+k-1) 1+zba c f (f+k-1) 2+zba c f (f+k-1) 3+zba c f (f+k-1) 4+zba c f (f+k-1) 5+zba c f (f+k-1) 6-(c.Closed.filter (zhr c f (f+k-1))).length=cntD (zhk c) f k:=by
 intro k
 induction k with
 |zero=>
  intro _
  have z:∀w:Nat,zba c f (f+((0:Nat):Int)-1) w=0:=by
   intro w
   unfold zba
   rw[show f+((0:Nat):Int)-1=f-1 by omega]
   cases zbq c.Week w<;>simp
  have e:c.Closed.filter (zhr c f (f+((0:Nat):Int)-1))=[]:=by
   rw[List.filter_eq_nil_iff]
   intro x _
   unfold zhr
   simp only[Bool.and_eq_true,decide_eq_true_eq]
   omega
  rw[z,z,z,z,z,z,z,e]
  try rfl
 |succ k ih=>
  intro hk
  have ih:=ih (by omega)
  rw[zj6,←ih]
  have ed:f+((k+1:Nat):Int)-1=f+(k:Int):=by omega
  rw[ed]
  rw[zait c f (f+k) (by omega)]
  have e1:(c.Closed.filter (zhr c f (f+k))).length=(c.Closed.filter (zhr c f (f+k-1))).length+(c.Closed.filter (fun x=>x==f+k&&zbq c.Week (x.tmod 7).toNat)).length:=by
   rw[←zvf]
   ·congr 1
    apply List.filter_congr
    intro x _
    unfold zhr
    by_cases h1:f≤x
    ·by_cases h2:x=f+k
     ·subst h2
      have a:decide (f≤f+(k:Int))=true:=by rw[decide_eq_true_eq];omega
      have b:decide (f+(k:Int)≤f+(k:Int))=true:=by rw[decide_eq_true_eq];omega
      simp only[a,b,beq_self_eq_true,Bool.true_and]
      cases decide (f+(k:Int)≤f+(k:Int)-1)<;>simp
     ·have a:(x==f+(k:Int))=false:=by simpa using h2
      have b:decide (x≤f+(k:Int))=decide (x≤f+(k:Int)-1):=by rw[decide_eq_decide];omega
      rw[a,b]
      simp
    ·have a:decide (f≤x)=false:=by rw[decide_eq_false_iff_not];exact h1
     have b:(x==f+(k:Int))=false:=by
      have:¬x=f+(k:Int):=by omega
      simpa using this
     rw[a,b]
     try rfl
   ·intro x _
    unfold zhr
    simp only[Bool.and_eq_true,decide_eq_true_eq,beq_iff_eq]
    omega
  rw[e1,z60 (zkq hc.inc)]
  have hr:rng 0 109572 (f+(k:Int))=true:=by rw[zby];omega
  unfold zhk
  rw[hr]
  cases c.Closed.any (fun x=>x==f+(k:Int))<;>cases zbq c.Week ((f+(k:Int)).tmod 7).toNat<;>simp<;>omega
theorem za2u {c:Calendar} (hc:CalOk c) (f t:Int):qah c f t=some (cntD (zhk c) (if f<0 then 0 else f) ((if 109572<t then 109572 else t)+1-(if f<0 then 0 else f)).toNat):=by
 unfold qah
 generalize hF:(if f<0 then 0 else f)=F
 generalize hT:(if 109572<t then 109572 else t)=T
 have hF0:0≤F:=by rw[←hF];split<;>omega
 have hT0:T≤109572:=by rw[←hT];split<;>omega
 by_cases hk:T<F
 ·have h0:(T+1-F).toNat=0:=by omega
  simp only[hk,decide_true,cond_true,h0,cntD]
 ·simp only[hk,decide_false,cond_false,zamp]
  rw[show zad zlk (F,T,0,(⟨zbq c.Week 0,zbq c.Week 1,zbq c.Week 2,zbq c.Week 3,zbq c.Week 4,zbq c.Week 5,zbq c.Week 6⟩:V7 Bool),0,c,(⟨zbq c.Week 0,zbq c.Week 1,zbq c.Week 2,zbq c.Week 3,zbq c.Week 4,zbq c.Week 5,zbq c.Week 6⟩:V7 Bool),())=_ from zrt (c:=c) hF0 (by omega) (by omega) hT0]
  simp only
  have p0:=za2 (c:=c) (f:=F) (t:=T) hF0 (by omega) (by omega) hT0 (show 0<7 by omega)
  have p1:=za2 (c:=c) (f:=F) (t:=T) hF0 (by omega) (by omega) hT0 (show 1<7 by omega)
  have p2:=za2 (c:=c) (f:=F) (t:=T) hF0 (by omega) (by omega) hT0 (show 2<7 by omega)
  have p3:=za2 (c:=c) (f:=F) (t:=T) hF0 (by omega) (by omega) hT0 (show 3<7 by omega)
  have p4:=za2 (c:=c) (f:=F) (t:=T) hF0 (by omega) (by omega) hT0 (show 4<7 by omega)
  have p5:=za2 (c:=c) (f:=F) (t:=T) hF0 (by omega) (by omega) hT0 (show 5<7 by omega)
  have p6:=za2 (c:=c) (f:=F) (t:=T) hF0 (by omega) (by omega) hT0 (show 6<7 by omega)
  rw[zpm hc.len hF0 hT0 (by omega) (by omega)]
  simp only
  have:=z6z hc hF0 (T+1-F).toNat (by omega)
  rw[show F+((T+1-F).toNat:Int)-1=T by omega]at this
  rw[this]
end Go.Proofs.YtdahfgialanmpaaGreatDoor
namespace Go.Proofs.YtdahfgialanmpaaGreatDoor
open Ev
open Go (IntKind)
theorem zat7 {c:Calendar} (hc:CalOk c) {r:Rule} (hr:zis r=true) (due back:Int):∃v,qfw r c due back=some v∧qf1 r c due back=some v∧0≤v:=by
 have ec:∀n:Int,qen n=some (rng 0 109572 n):=fun n=>by
  unfold qen
  simp -zeta only[za7]
  try rfl
 unfold qfw qf1
 simp -zeta only[za5e hc.len,zaab hc.len,za2u hc,za28 hc,ec,z91,k_or]
 dsimp only
 cases (!(zcj c==0)||!(rng 0 109572 due))||!(rng 0 109572 back) with
 |true=>exact ⟨0,rfl,rfl,by omega⟩
 |false=>
  simp only[cond_false]
  have hb:=zux (p:=zhk c) (f:=if wr .i64 (due+1)<0 then 0 else wr .i64 (due+1)) ((if 109572<back then 109572 else back)+1-(if wr .i64 (due+1)<0 then 0 else wr .i64 (due+1))).toNat
  have hk:((if 109572<back then 109572 else back)+1-(if wr .i64 (due+1)<0 then 0 else wr .i64 (due+1))).toNat≤109573:=by
   have h1:(if 109572<back then 109572 else back)≤109572:=by split<;>omega
   have h2:0≤(if wr .i64 (due+1)<0 then 0 else wr .i64 (due+1)):=by split<;>omega
   omega
  generalize cntD (zhk c) _ _=n at hb ⊢
  generalize ((if 109572<back then 109572 else back)+1-(if wr .i64 (due+1)<0 then 0 else wr .i64 (due+1))).toNat=k at hb hk
  cases decide (n≤r.Grace) with
  |true=>exact ⟨0,rfl,rfl,by omega⟩
  |false=>
   simp only[cond_false]
   refine ⟨_,rfl,rfl,?_⟩
   unfold zis at hr
   simp only[Bool.and_eq_true,zby]at hr
   obtain ⟨⟨⟨⟨⟨_,⟨hf,_⟩,hm⟩,_⟩,_⟩,_⟩,_⟩:=hr
   have hp:0≤n*r.Fine:=Int.mul_nonneg hb.1 hf.1
   have hq:n*r.Fine≤109573*1000:=Int.mul_le_mul (by omega) hf.2 hf.1 (by omega)
   rw[zco (by omega) (by omega)]
   split<;>omega
def refQ (p item kind:Int) (x:Charge):Bool:=(x.Patron==p&&x.Item==item)&&(kind==0||x.Kind==kind)
theorem zamr {l:List Charge} {p item kind:Int} (hl:l.length<1000000000):∃v,qb3 l p item kind=some (l.filter (fun x=>!(refQ p item kind x)),v):=by
 have hq:∀x:Charge,qdc x p item kind=some (refQ p item kind x):=fun x=>by
  unfold qdc refQ
  simp -zeta only[za7,k_or]
  try rfl
 have h:=zbg (step:=zn9 (fun (g:Unit×Int×Int×Int×Unit) x0=>qdc x0 g.2.1 g.2.2.1 g.2.2.2.1)) (fun (i:Nat) (s:Int×Int×List Charge)=>s.2.2.length≤i)
  (fun i s=>(((),(p,item,kind,())),s.1,s.2.1,l,(l.length:Int),(i:Int),s.2.2,())) l
  (fun i x s=>.inl (bif refQ p item kind x then (wr .i64 (s.1+x.Paid),wr .i64 (s.2.1+1),s.2.2) else (s.1,s.2.1,s.2.2++[x]))) (fun s=>(s.1,s.2.1,s.2.2,())) (by rw[za4];omega)
  (fun s _=>by simp only[zn9,dge,cond_false])
  (fun i x s hx hi=>by
   have hlt:=(List.getElem?_eq_some_iff.1 hx).1
   have l1:∀z:Charge,decide (s.2.2.length+([z]:List Charge).length≤LIM)=true:=fun z=>zee (by simp;omega)
   refine ⟨?_,fun s' hs'=>?_⟩
   ·simp only[zn9,dlt hlt,zag,hx,cond_true,hq,l1,zam (show i<9223372036854775807 by omega)]
    cases refQ p item kind x<;>rfl
   ·cases hs'
    cases refQ p item kind x<;>simp<;>omega) (0,0,[]) (by simp)
 rw[zdm]at h
 have key:∀(m:List Charge) (s:Int×Int×List Charge),∃a b,m.foldl (fun s x=>bif refQ p item kind x then (wr .i64 (s.1+x.Paid),wr .i64 (s.2.1+1),s.2.2) else (s.1,s.2.1,s.2.2++[x])) s=(a,b,s.2.2++m.filter (fun x=>!(refQ p item kind x))):=by
  intro m
  induction m with
  |nil=>intro s;exact ⟨s.1,s.2.1,by simp⟩
  |cons x m ih=>
   intro s
   rw[List.foldl_cons,List.filter_cons]
   cases refQ p item kind x with
   |true=>
    obtain ⟨a,b,e⟩:=ih (wr .i64 (s.1+x.Paid),wr .i64 (s.2.1+1),s.2.2)
    exact ⟨a,b,by simp only[cond_true];rw[e];simp⟩
   |false=>
    obtain ⟨a,b,e⟩:=ih (s.1,s.2.1,s.2.2++[x])
    exact ⟨a,b,by simp only[cond_false];rw[e];simp⟩
 obtain ⟨a,b,e⟩:=key l (0,0,[])
 rw[e]at h
 refine ⟨a,?_⟩
 unfold qb3 qa4
 rw[show zad (zn9 (fun (g:Unit×Int×Int×Int×Unit) x0=>qdc x0 g.2.1 g.2.2.1 g.2.2.2.1)) (((),(p,item,kind,())),0,0,l,(l.length:Int),0,([]:List Charge),())=_ from h]
 try rfl
theorem za27 {l:List Charge} {p item kind:Int} (hl:l.length<1000000):∃v,qbv l p item kind=some (l.filter (fun x=>!(refQ p item kind x)),v):=by
 have h:=zbg (step:=zoo) (fun (i:Nat) (s:Int×List Charge)=>s.2.length≤i)
  (fun i s=>(l,p,item,kind,s.1,(i:Int),s.2,())) l
  (fun i x s=>.inl (bif refQ p item kind x then (wr .i64 (s.1+x.Paid),s.2) else (s.1,s.2++[x]))) (fun s=>(s.1,s.2,())) (by rw[za4];omega)
  (fun s _=>by simp only[zoo,dge,cond_false])
  (fun i x s hx hi=>by
   have hlt:=(List.getElem?_eq_some_iff.1 hx).1
   have l1:∀z:Charge,decide (s.2.length+([z]:List Charge).length≤LIM)=true:=fun z=>zee (by simp;omega)
   refine ⟨?_,fun s' hs'=>?_⟩
   ·simp -zeta only[zoo,dlt hlt,zag,hx,cond_true,za7,k_or,l1,zam (show i<9223372036854775807 by omega)]
    dsimp only
    unfold refQ
    cases ((x.Patron==p&&x.Item==item)&&(kind==0||x.Kind==kind))<;>rfl
   ·cases hs'
    cases refQ p item kind x<;>simp<;>omega) (0,[]) (by simp)
 rw[zdm]at h
 have key:∀(m:List Charge) (s:Int×List Charge),∃a,m.foldl (fun s x=>bif refQ p item kind x then (wr .i64 (s.1+x.Paid),s.2) else (s.1,s.2++[x])) s=(a,s.2++m.filter (fun x=>!(refQ p item kind x))):=by
  intro m
  induction m with
  |nil=>intro s;exact ⟨s.1,by simp⟩
  |cons x m ih=>
   intro s
   rw[List.foldl_cons,List.filter_cons]
   cases refQ p item kind x with
   |true=>
    obtain ⟨a,e⟩:=ih (wr .i64 (s.1+x.Paid),s.2)
    exact ⟨a,by simp only[cond_true];rw[e];simp⟩
   |false=>
    obtain ⟨a,e⟩:=ih (s.1,s.2++[x])
    exact ⟨a,by simp only[cond_false];rw[e];simp⟩
 obtain ⟨a,e⟩:=key l (0,[])
 rw[e]at h
 refine ⟨a,?_⟩
 unfold qbv
 rw[show zad zoo (l,p,item,kind,0,0,([]:List Charge),())=_ from h]
 try rfl
theorem zafj {c:Circ} (h:Short c) {l:List Charge} (hl:l.length<1000000000) (n:Int):Short (zhs c l n):=by
 obtain ⟨a1,a2,a3,a4,a5,a6,a7,a8,a9,a10,a11,a12,a13⟩:=h
 exact ⟨a1,a2,a3,a4,hl,a6,a7,a8,a9,a10,a11,a12,a13⟩
def zg6 (c:Circ) (i:Nat) (x:Item) (branch:Int) (u:Custody) (l:List Loan):Circ:=zcs (zcp c i x ⟨c.Today,x.ID,4,branch,0⟩ u) l
theorem zuj {c:Circ} (h:MidP c) (hln:c.Loans.length<100000000) {i:Nat} {x:Item} (hx:c.Items[i]?=some x) {n:Loan} (hn:c.Loans.find? (fun n=>n.Item==x.ID)=some n) {branch:Int} (hb:rng 1 4 branch=true) :
 SimD (qfh (i:Int) branch ⟨c,0⟩) (qfm c x.ID branch) (fun d=>MidP d∧∃u ch nc,zbc x.Custody ⟨c.Today,x.ID,4,branch,0⟩=(u,0)∧d=zhs (zg6 c i x branch u (ziy c.Loans x.ID).1) ch nc):=by
 unfold qfh qfm
 simp only[zag,hx]
 rcases zjj h hx 4 branch 0 with ⟨u,ha,m1,m2,hm2⟩|⟨e,he,m1,m2⟩
 ·rw[m1,m2]
  have hat:=zn4 hm2 (zji hx ⟨c.Today,x.ID,4,branch,0⟩ u)
  have hx2:=zji hx ⟨c.Today,x.ID,4,branch,0⟩ u
  have hbk:ziy c.Loans x.ID=((ziy c.Loans x.ID).1,n,0):=by unfold ziy;rw[hn]
  have bl:=zadu (item:=x.ID) h.short.loans
  have hL:(zcp c i x ⟨c.Today,x.ID,4,branch,0⟩ u).Loans=c.Loans:=rfl
  simp only[beq_self_eq_true,Bool.not_true,cond_false,hL,za3l hln,za3o hln]
  rw[hbk]
  simp only[beq_self_eq_true,Bool.not_true,cond_false,zpu]
  have hm3:=z88 hm2 bl
  show SimD _ _ (fun d=>MidP d∧∃u ch nc,zbc x.Custody ⟨c.Today,x.ID,4,branch,0⟩=(u,0)∧d=zhs (zg6 c i x branch u (ziy c.Loans x.ID).1) ch nc)
  generalize hl:(ziy c.Loans x.ID).1=l at hm3 bl
  have hat3:qi (zcs (zcp c i x ⟨c.Today,x.ID,4,branch,0⟩ u) l) x.ID=some (i:Int):=zn4 (x:=zht u x) hm3 hx2
  have hc3:zg6 c i x branch u l=zcs (zcp c i x ⟨c.Today,x.ID,4,branch,0⟩ u) l:=rfl
  rw[show (⟨(zcp c i x ⟨c.Today,x.ID,4,branch,0⟩ u).Today,(zcp c i x ⟨c.Today,x.ID,4,branch,0⟩ u).Items,(zcp c i x ⟨c.Today,x.ID,4,branch,0⟩ u).Patrons,l,(zcp c i x ⟨c.Today,x.ID,4,branch,0⟩ u).Holds,(zcp c i x ⟨c.Today,x.ID,4,branch,0⟩ u).Charges,(zcp c i x ⟨c.Today,x.ID,4,branch,0⟩ u).Rules,(zcp c i x ⟨c.Today,x.ID,4,branch,0⟩ u).Cals,(zcp c i x ⟨c.Today,x.ID,4,branch,0⟩ u).Moves,(zcp c i x ⟨c.Today,x.ID,4,branch,0⟩ u).NextHold,(zcp c i x ⟨c.Today,x.ID,4,branch,0⟩ u).NextCharge,(zcp c i x ⟨c.Today,x.ID,4,branch,0⟩ u).Local⟩:Circ)=zcs (zcp c i x ⟨c.Today,x.ID,4,branch,0⟩ u) l from rfl]
  rw[hat3]
  simp only[zag,hx2]
  have hru:qe3 (zcs (zcp c i x ⟨c.Today,x.ID,4,branch,0⟩ u) l) n.Patron (zht u x)=qe3 (zcs (zcp c i x ⟨c.Today,x.ID,4,branch,0⟩ u) l) n.Patron x:=rfl
  rw[hru,z9z hm3.short]
  obtain ⟨r,b,hr,hrm⟩:=zaao (c:=zcs (zcp c i x ⟨c.Today,x.ID,4,branch,0⟩ u) l) (p:=n.Patron) (x:=x) hm3.short
  have hT:(zcp c i x ⟨c.Today,x.ID,4,branch,0⟩ u).Today=(zcs (zcp c i x ⟨c.Today,x.ID,4,branch,0⟩ u) l).Today:=rfl
  rw[hr,hT]
  rw[←hc3]at hm3 hrm ⊢
  have fin:∀d:Circ,MidP d→(∃ch nc,d=zhs (zg6 c i x branch u l) ch nc)→SimD (match qb3 d.Charges n.Patron x.ID 2 with
   |some (r19,r20)=>some ((),(⟨⟨d.Today,d.Items,d.Patrons,d.Loans,d.Holds,r19,d.Rules,d.Cals,d.Moves,d.NextHold,d.NextCharge,d.Local⟩,0⟩:Circ_desk))
   |none=>none) (match qbv d.Charges n.Patron x.ID 2 with
   |some (r21,r22)=>some ((⟨d.Today,d.Items,d.Patrons,d.Loans,d.Holds,r21,d.Rules,d.Cals,d.Moves,d.NextHold,d.NextCharge,d.Local⟩:Circ),0)
   |none=>none) (fun d=>MidP d∧∃u ch nc,zbc x.Custody ⟨c.Today,x.ID,4,branch,0⟩=(u,0)∧d=zhs (zg6 c i x branch u l) ch nc):=by
   intro d hd hw
   obtain ⟨v1,f1⟩:=zamr (p:=n.Patron) (item:=x.ID) (kind:=2) hd.short.charges
   obtain ⟨v2,f2⟩:=za27 (p:=n.Patron) (item:=x.ID) (kind:=2) hd.chN
   have hfl:=List.length_filter_le (fun y=>!(refQ n.Patron x.ID 2 y)) d.Charges
   have:=hd.chN
   rw[f1,f2]
   obtain ⟨ch,nc,rfl⟩:=hw
   exact .inl ⟨_,rfl,rfl,zakr hd (by omega) nc,u,_,nc,ha,rfl⟩
  have f0:=fin (zg6 c i x branch u l) hm3 ⟨(zg6 c i x branch u l).Charges,(zg6 c i x branch u l).NextCharge,rfl⟩
  cases b with
  |false=>exact f0
  |true=>
   obtain ⟨v,lv1,lv2,lv0⟩:=zat7 (hm3.cal branch) (hm3.rules r (hrm rfl)) n.Due (zg6 c i x branch u l).Today
   simp only[cond_true,z90 hb,za30 hb,lv1,lv2]
   by_cases hv:v=0
   ·subst hv
    exact f0
   ·have hv2:(v==0)=false:=by simpa using hv
    have hv3:decide (0<v)=true:=by rw[decide_eq_true_eq];omega
    simp only[hv2,hv3,Bool.not_false,cond_true]
    rcases z1b hm3 n.Patron x.ID 1 v with ⟨d,q1,q2,hd,hd2,-⟩|⟨d,e,he,q1,q2,hsd⟩
    ·rw[q1,q2]
     have hmd:MidP d:=by rw[hd];exact zakr hm3 (zuw hd2) _
     exact fin d hmd ⟨_,_,hd⟩
    ·obtain ⟨v1,f1⟩:=zamr (p:=n.Patron) (item:=x.ID) (kind:=2) hsd.charges
     have hfl:=List.length_filter_le (fun y=>!(refQ n.Patron x.ID 2 y)) d.Charges
     have:=hsd.charges
     have he2:(e==0)=false:=by simpa using he
     rw[q1,q2]
     simp only[he2,Bool.not_false,cond_true,f1]
     exact .inr ⟨zhs d (d.Charges.filter (fun y=>!(refQ n.Patron x.ID 2 y))) d.NextCharge,e,he,rfl,rfl,zafj hsd (by omega) _⟩
 ·have he2:(e==0)=false:=by simpa using he
  rw[m1,m2]
  simp only[he2,Bool.not_false,cond_true]
  exact .inr ⟨c,e,he,rfl,rfl,h.short⟩
end Go.Proofs.YtdahfgialanmpaaGreatDoor
namespace Go.Proofs.YtdahfgialanmpaaGreatDoor
open Ev
open Go (IntKind)
def zpc (i item:Int) (d:Circ_desk):Option (Circ×Int×Int):=
 match qba d.c item with
 |some (o,ok)=>
  match (bif ok&&o.State==2 then qds i o d else qc6 i d) with
  |some (_,v)=>(match qba v.c item with
   |some (r,_)=>(match qbg r.ID v with
    |some ((a,b,e),_)=>some (a,b,e)
    |none=>none)
   |none=>none)
  |none=>none
 |none=>none
def refK (item e:Int) (c:Circ):Option (Circ×Int×Int):=
 bif !(e==0) then some (zdy,0,e)
 else match qan c item with
  |some (o,ok)=>(match (bif ok then qdz c item o else qfy c item) with
   |some (d,f)=>(bif !(f==0) then some (zdy,0,f) else match qan d item with
    |some (r,_)=>some (d,r.ID,0)
    |none=>none)
   |none=>none)
  |none=>none
def bndC (i item:Int) (a:Option (Unit×Circ_desk)):Option (Circ×Int×Int):=match a with|some (_,v)=>zpc i item v|none=>none
def bndR (item:Int) (a:Option (Circ×Int)):Option (Circ×Int×Int):=match a with|some (c,e)=>refK item e c|none=>none
theorem zj5 {c:Circ} (hs:Short c) (i item e:Int) (he:e≠0):zpc i item ⟨c,e⟩=some (zdy,0,e):=by
 unfold zpc
 simp only[zlp hs.holds,zmx c i e _ he,zps c i e he]
 cases ((zbp c item).2&&(zbp c item).1.State==2)<;>
  simp only[cond_true,cond_false,zlp hs.holds,zpw c _ e he]
theorem zf8 (u:Custody):zhl u=(u.State==4||u.State==9||u.State==10):=by
 unfold zhl
 cases u.State==4<;>cases u.State==9<;>rfl
theorem za3m {c:Circ} (hs:Short c) {i:Nat} {x:Item} (hf:fIdx (fun y=>y.ID==x.ID) c.Items=(i:Int)) (hx:c.Items[i]?=some x) (branch:Int) :
 qep c x.ID branch=(bif zhl x.Custody then bndC i x.ID (qfh i branch ⟨c,0⟩) else bif x.Custody.State==8 then bndC i x.ID (qbi i 4 branch 0 ⟨c,0⟩)
  else bif x.Custody.State==11 then bndC i x.ID (qbi i 14 branch 0 ⟨c,0⟩) else bif x.Custody.State==6 then bndC i x.ID (qbi i 7 branch 0 ⟨c,0⟩) else zpc i x.ID ⟨c,12⟩):=by
 have leaf:∀v23:Circ_desk,(match qba v23.c x.ID with
  |some (r25,r26)=>
   let k41:Bool→Option (Circ×Int×Int):=fun v27=>
    let k:Circ_desk→Option (Circ×Int×Int):=fun v32=>
     match qba v32.c x.ID with
     |some (r34,r35)=>(match qbg r34.ID v32 with
      |some ((r37,r38,r39),v40)=>some (r37,r38,r39)
      |none=>none)
     |none=>none
    bif v27 then (match qds (i:Int) r25 v23 with|some (_,v29)=>k v29|none=>none)
    else (match qc6 (i:Int) v23 with|some (_,v31)=>k v31|none=>none)
   bif r26 then k41 (r25.State==2) else k41 false
  |none=>none)=zpc i x.ID v23:=by
  intro v
  unfold zpc
  cases qba v.c x.ID with
  |none=>rfl
  |some q=>
   obtain ⟨o,ok⟩:=q
   dsimp only
   cases ok with
   |false=>rfl
   |true=>cases o.State==2<;>rfl
 have leaf2:∀a:Option (Unit×Circ_desk),bndC i x.ID a=bndC i x.ID a:=fun _=>rfl
 unfold qep
 simp -zeta only[qcd,zil hs,hf,zh0,cond_false,zag,hx]
 rw[zf8]
 have tb:∀(a:Option (Unit×Circ_desk)) (K:Circ_desk→Option (Circ×Int×Int)),(∀v,K v=zpc i x.ID v)→(match a with|some (_,v)=>K v|none=>none)=bndC i x.ID a:=by
  intro a K hK
  unfold bndC
  cases a with
  |none=>rfl
  |some p=>exact hK _
 cases x.Custody.State==4 with
 |true=>exact tb _ _ leaf
 |false=>
  cases x.Custody.State==9 with
  |true=>exact tb _ _ leaf
  |false=>
   cases x.Custody.State==10 with
   |true=>exact tb _ _ leaf
   |false=>
    cases x.Custody.State==8 with
    |true=>exact tb _ _ leaf
    |false=>
     cases x.Custody.State==11 with
     |true=>exact tb _ _ leaf
     |false=>
      cases x.Custody.State==6 with
      |true=>exact tb _ _ leaf
      |false=>exact leaf _
theorem za3v {c:Circ} (hs:Short c) {i:Nat} {x:Item} (hf:qi c x.ID=some (i:Int)) (hx:c.Items[i]?=some x) (branch:Int) :
 qfz c x.ID branch=(bif zhl x.Custody then (bif decide (branch<1)||decide (4<branch) then some (zdy,0,1) else bndR x.ID (qfm c x.ID branch)) else bif x.Custody.State==8 then bndR x.ID (qai c x.ID 4 branch 0)
  else bif x.Custody.State==11 then bndR x.ID (qai c x.ID 14 branch 0) else bif x.Custody.State==6 then bndR x.ID (qai c x.ID 7 branch 0) else refK x.ID 12 c):=by
 have leaf:∀(e21:Int) (c22:Circ),(bif !(e21==0) then (some (zdy,0,e21):Option (Circ×Int×Int))
  else match qan c22 x.ID with
   |some (r24,r25)=>
    let k37:Int→Circ→Option (Circ×Int×Int):=fun e32 c33=>
     bif !(e32==0) then some (zdy,0,e32)
     else match qan c33 x.ID with
      |some (r35,r36)=>some (c33,r35.ID,0)
      |none=>none
    bif r25 then (match qdz c22 x.ID r24 with|some (r27,r28)=>k37 r28 r27|none=>none)
    else (match qfy c22 x.ID with|some (r30,r31)=>k37 r31 r30|none=>none)
   |none=>none)=refK x.ID e21 c22:=by
  intro e d
  unfold refK
  cases !(e==0) with
  |true=>rfl
  |false=>
   simp only[cond_false]
   cases qan d x.ID with
   |none=>rfl
   |some q=>
    obtain ⟨o,ok⟩:=q
    cases ok<;>rfl
 have tb:∀(a:Option (Circ×Int)) (K:Int→Circ→Option (Circ×Int×Int)),(∀e v,K e v=refK x.ID e v)→(match a with|some (v,e)=>K e v|none=>none)=bndR x.ID a:=by
  intro a K hK
  unfold bndR
  cases a with
  |none=>rfl
  |some p=>exact hK _ _
 unfold qfz
 simp -zeta only[hf,zh0,cond_false,zag,hx,z96]
 cases zhl x.Custody with
 |true=>
  cases decide (branch<1) with
  |true=>rfl
  |false=>
   cases decide (4<branch) with
   |true=>rfl
   |false=>exact tb _ _ leaf
 |false=>
  cases x.Custody.State==8 with
  |true=>exact tb _ _ leaf
  |false=>
   cases x.Custody.State==11 with
   |true=>exact tb _ _ leaf
   |false=>
    cases x.Custody.State==6 with
    |true=>exact tb _ _ leaf
    |false=>exact leaf 12 c
theorem z4r {i:Nat} {item:Int} {a:Option (Unit×Circ_desk)} {b:Option (Circ×Int)} {Q:Circ→Prop} (hs:SimD a b Q)
 (hQ:∀d,Q d→MidP d∧∃y,d.Items[i]?=some y∧y.ID=item∧((zbp d item).2=true→(zbp d item).1.State=2)):zq2 (bndC i item a) (bndR item b):=by
 rcases hs with ⟨d,rfl,rfl,hq⟩|⟨d,e,he,rfl,rfl,hsd⟩
 ·obtain ⟨hd,y,hy,rfl,hC⟩:=hQ d hq
  unfold bndC bndR zpc refK
  simp only[beq_self_eq_true,Bool.not_true,cond_false,zlp hd.short.holds,z0c hd.short.holds]
  have fin:∀(a:Option (Unit×Circ_desk)) (b:Option (Circ×Int)),SimD a b (fun d=>MidP d∧Frame d d)→True:=fun _ _ _=>trivial
  cases hok:(zbp d y.ID).2 with
  |true=>
   have h2:((zbp d y.ID).1.State==2)=true:=by simpa using hC hok
   simp only[h2,Bool.and_self,cond_true]
   rcases zaai hd hy (zbp d y.ID).1 with ⟨d2,a1,a2,hd2,-⟩|⟨d2,e,he,a1,a2,hsd⟩
   ·rw[a1,a2]
    simp only[zlp hd2.short.holds,z0c hd2.short.holds,beq_self_eq_true,Bool.not_true,cond_false,z63]
    exact ⟨_,_,_,rfl,rfl,hd2.short⟩
   ·have he2:(e==0)=false:=by simpa using he
    rw[a1,a2]
    simp only[zlp hsd.holds,zpw d2 _ e he,he2,Bool.not_false,cond_true]
    exact zex
  |false=>
   simp only[Bool.false_and,cond_false]
   rcases zadt hd hy with ⟨d2,a1,a2,hd2,-⟩|⟨d2,e,he,a1,a2,hsd⟩
   ·rw[a1,a2]
    simp only[zlp hd2.short.holds,z0c hd2.short.holds,beq_self_eq_true,Bool.not_true,cond_false,z63]
    exact ⟨_,_,_,rfl,rfl,hd2.short⟩
   ·have he2:(e==0)=false:=by simpa using he
    rw[a1,a2]
    simp only[zlp hsd.holds,zpw d2 _ e he,he2,Bool.not_false,cond_true]
    exact zex
 ·have he2:(e==0)=false:=by simpa using he
  unfold bndC bndR
  simp only[zj5 hsd _ _ e he]
  unfold refK
  simp only[he2,Bool.not_false,cond_true]
  exact zex
theorem z0u {u:Custody} {day item kind branch who:Int} (h:(decide (branch<1)||decide (4<branch))=true):zbc u ⟨day,item,kind,branch,who⟩=(⟨0,0,0,0⟩,1):=by
 have hw:zi6 ⟨day,item,kind,branch,who⟩=false:=by
  unfold zi6
  simp only[Bool.or_eq_true,decide_eq_true_eq]at h
  rcases h with h|h
  ·have:decide (1≤branch)=false:=by rw[decide_eq_false_iff_not];omega
   simp[this]
  ·have:decide (branch≤4)=false:=by rw[decide_eq_false_iff_not];omega
   simp[this]
 unfold zbc
 rw[hw]
 simp
theorem z1a {c:Circ} (h:FitP c) {x:Item} (hx:x∈c.Items) (hs:¬x.Custody.State=5) {o:Hold} (ho:o∈c.Holds) (hg:o.Got=x.ID):o.State=2∧x.Custody.State=6:=by
 have hsh:=znp h.holds ho
 have hid:=zat0 h hx
 have h1:¬o.State=1:=by
  intro e
  unfold zbo at hsh
  have h2:=zb5 hsh (by decide)
  rw[h2]at hsh
  simp only[cond_false]at hsh
  have h3:=zb5 hsh (by decide)
  rw[h3]at hsh
  simp only[cond_false]at hsh
  have h4:=zb5 hsh (by decide)
  simp only[Bool.or_eq_false_iff]at h4
  have e1:(o.State==1)=true:=by simpa using e
  have e2:decide (0<o.Got)=true:=by rw[decide_eq_true_eq,hg];omega
  rw[e1,e2]at h4
  exact absurd h4.1 (by decide)
 have hG:=h.holdG o ho
 unfold zgc at hG
 have hfind:c.Items.find? (fun y=>y.ID==o.Got)=some x:=by
  rw[hg]
  exact zmj (key:=fun y:Item=>y.ID) (zio h.items) hx
 rw[hfind]at hG
 have e1:(o.State==1)=false:=by simpa using h1
 rw[e1]at hG
 simp only[Bool.and_eq_true,Bool.false_or,Bool.not_eq_true',Bool.and_eq_false_iff,Bool.or_eq_false_iff,Bool.not_eq_false',beq_iff_eq,beq_eq_false_iff_ne,ne_eq]at hG
 obtain ⟨_,⟨_,q3⟩,q2⟩:=hG
 rcases z1x hsh with e|e|e
 ·exact absurd e h1
 ·refine ⟨e,?_⟩
  rcases q2 with q2|q2
  ·exact absurd e q2
  ·exact q2.1.1
 ·rcases q3 with q3|q3
  ·exact absurd e q3
  ·exact absurd q3.1.1 hs
theorem zrk {c:Circ} {item:Int} (h:(zbp c item).2=true):(zbp c item).1∈c.Holds∧(zbp c item).1.Got=item:=by
 unfold zbp at h ⊢
 cases hq:c.Holds.find? (fun h=>h.Got==item) with
 |none=>rw[hq]at h;cases h
 |some o=>exact ⟨List.mem_of_find?_eq_some hq,by have:=List.find?_some hq;simpa using this⟩
theorem zo9 {c d:Circ} {item:Int} (h:d.Holds=c.Holds):zbp d item=zbp c item:=by unfold zbp;rw[h]
theorem z0v {c:Circ} (m:MidP c) (h:FitP c) (hln:c.Loans.length<100000000) {item branch:Int}:zq2 (qep c item branch) (qfz c item branch):=by
 rcases z13 m item with ⟨h1,h2,-⟩|⟨i,x,h1,h2,hx,hid,-⟩
 ·unfold qep qfz
  simp -zeta only[qcd,zil m.short]
  rw[h1,h2]
  exact zex
 ·subst hid
  rw[za3m m.short h1 hx,za3v m.short h2 hx]
  have hmem:=List.mem_of_getElem? hx
  have hC:∀d:Circ,d.Holds=c.Holds→¬x.Custody.State=5→((zbp d x.ID).2=true→(zbp d x.ID).1.State=2):=by
   intro d hd h5 hk
   rw[zo9 hd]at hk ⊢
   have:=zrk hk
   exact (z1a h hmem h5 this.1 this.2).1
  have mv:∀kind:Int,¬x.Custody.State=5→zq2 (bndC i x.ID (qbi i kind branch 0 ⟨c,0⟩)) (bndR x.ID (qai c x.ID kind branch 0)):=by
   intro kind h5
   refine z4r (Q:=fun d=>∃u,d=zcp c i x ⟨c.Today,x.ID,kind,branch,0⟩ u∧MidP d) ?_ ?_
   ·rcases zjj m hx kind branch 0 with ⟨u,ha,m1,m2,hm2⟩|⟨e,he,m1,m2⟩
    ·exact .inl ⟨_,m1,m2,u,rfl,hm2⟩
    ·exact .inr ⟨c,e,he,m1,m2,m.short⟩
   ·rintro d ⟨u,rfl,hd⟩
    exact ⟨hd,zht u x,zji hx _ u,rfl,hC _ rfl h5⟩
  cases hp:zhl x.Custody with
  |true=>
   simp only[cond_true]
   have h5:¬x.Custody.State=5:=by
    intro e
    rw[zf8,e]at hp
    cases hp
   have hl:=h.itemG x hmem
   rw[hp]at hl
   unfold zr4 at hl
   cases hb:(decide (branch<1)||decide (4<branch)) with
   |true=>
    simp only[cond_true]
    have dm:=zim (kind:=4) (branch:=branch) (who:=0) m.short (by have:=m.moves;omega) hx
    rw[z0u hb]at dm
    have e1:qfh (i:Int) branch ⟨c,0⟩=some ((),⟨c,1⟩):=by
     unfold qfh
     simp only[zag,hx]
     rw[dm]
     try rfl
    rw[e1]
    show zq2 (zpc i x.ID ⟨c,1⟩) _
    rw[zj5 m.short _ _ 1 (by decide)]
    exact zex
   |false=>
    simp only[cond_false]
    have hbr:rng 1 4 branch=true:=by
     rw[zby]
     simp only[Bool.or_eq_false_iff,decide_eq_false_iff_not]at hb
     omega
    cases hn:c.Loans.find? (fun n=>n.Item==x.ID) with
    |none=>rw[hn]at hl;cases hl
    |some n=>
     refine z4r (zuj m hln hx hn hbr) ?_
     rintro d ⟨hd,u,ch,nc,-,rfl⟩
     exact ⟨hd,zht u x,zji hx ⟨c.Today,x.ID,4,branch,0⟩ u,rfl,hC _ rfl h5⟩
  |false=>
   simp only[cond_false]
   cases h8:x.Custody.State==8 with
   |true=>exact mv 4 (by have:x.Custody.State=8:=(by simpa using h8);omega)
   |false=>
    simp only[cond_false]
    cases h11:x.Custody.State==11 with
    |true=>exact mv 14 (by have:x.Custody.State=11:=(by simpa using h11);omega)
    |false=>
     simp only[cond_false]
     cases h6:x.Custody.State==6 with
     |true=>exact mv 7 (by have:x.Custody.State=6:=(by simpa using h6);omega)
     |false=>
      simp only[cond_false]
      rw[zj5 m.short _ _ 12 (by decide)]
      exact zex
theorem zm6 (c:Circ) (item branch:Int):qdr c item branch=some true:=by
 unfold qdr
 simp only[za3u,zado]
 cases hb:zmi c&&zou c with
 |false=>rfl
 |true=>
  simp only[Bool.and_eq_true]at hb
  have hm:=zaoc hb.1
  have hf:=fitP hb.2
  have h:=zatw hm hf
  obtain ⟨a,n,e,q1,q2,q3⟩:=z0v h hf (by have:=hm.loans;omega) (item:=item) (branch:=branch)
  simp -zeta only[Bool.not_true,cond_false,q1,q2,zavm q3,za7]
  simp
end Go.Proofs.YtdahfgialanmpaaGreatDoor
