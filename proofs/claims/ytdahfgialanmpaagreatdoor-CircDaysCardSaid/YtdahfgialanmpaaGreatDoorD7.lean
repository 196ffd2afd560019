/- CircDays: a part of the proof of the given statement, which is proved without conditions. -/
import Derived.Test.YtdahfgialanmpaaGreatDoorD6
set_option linter.all false
namespace Go.Proofs.YtdahfgialanmpaaGreatDoor
open Ev
open Go (IntKind)
structure MidP (c:Circ):Prop where
 short:Short c
 moves:c.Moves.length<10000000
 holdsN:c.Holds.length<1000000
 sorted:∀(i:Nat) (x:Hold),c.Holds[i]?=some x→zbn c.Holds i (fun y=>decide (x.ID≤y.ID))=false
 rank:∀o∈c.Holds,rng 0 9 o.Rank=true∧o.ID≠0
 few:∀r,(c.Holds.filter (fun o=>o.Record==r)).length<20
 cal:∀b,CalOk (calS c b)
 rules:∀r∈c.Rules,zo1 r=true
 branch:∀x∈c.Items,rng 1 4 x.Custody.Branch=true
 ids:∀(i:Nat) (x:Item) (j:Nat) (y:Item),c.Items[i]?=some x→c.Items[j]?=some y→x.ID=y.ID→i=j
 chN:c.Charges.length<1000000
theorem zav1 {c:Circ} (hm:SmallP c) (h:FitP c):MidP c:=by
 refine ⟨hm.short,by have:=hm.moves;omega,by have:=hm.holds;omega,zse h.holds,fun o ho=>z2l h ho,fun r=>?_,zaql h,fun r hr=>zaxx h hr,fun x hx=>z2j h hx,fun i x j y hx hy e=>?_,by have:=hm.charges;omega⟩
 ·have:=List.length_filter_le (fun o:Hold=>o.Record==r) c.Holds
  have:=hm.holds
  omega
 ·have hs:=zsn h.items
  rcases Nat.lt_trichotomy i j with hl|hl|hl
  ·have:=zcp (key:=fun y:Item=>y.ID) hs j i x y hl hx hy;omega
  ·exact hl
  ·have:=zcp (key:=fun y:Item=>y.ID) hs i j y x hl hy hx;omega
theorem zlp {c:Circ} (h:MidP c) {i:Nat} {x:Item} (hx:c.Items[i]?=some x):qj c x.ID=some (i:Int):=by
 rw[zaxt h.short.items]
 rcases zbl (fun y:Item=>y.ID==x.ID) c.Items with ⟨h1,h2⟩|⟨j,y,h1,h2,h3,h4⟩
 ·have:=List.find?_eq_none.1 h2 x (List.mem_of_getElem? hx)
  simp at this
 ·rw[h1,h.ids i x j y hx h2 (by simpa using (by simpa using h3:y.ID=x.ID).symm)]
theorem zcv {X Y:Type} {f:X→Y} {l:List X} {j:Nat} {x y:X} (hx:l[j]?=some x) (hf:f y=f x):(l.set j y).map f=l.map f:=by
 rw[List.map_set,hf]
 apply List.ext_getElem?
 intro k
 rw[List.getElem?_set]
 split
 ·rename_i e
  subst e
  split
  ·rw[List.getElem?_map,hx];rfl
  ·rename_i hk
   have:=(List.getElem?_eq_some_iff.1 hx).1
   exact absurd (by simpa using this) hk
 ·rfl
theorem zav2 {l m:List Item} (e:m.map (fun x=>x.ID)=l.map (fun x=>x.ID)) (h:∀(i:Nat) (x:Item) (j:Nat) (y:Item),l[i]?=some x→l[j]?=some y→x.ID=y.ID→i=j) :
 ∀(i:Nat) (x:Item) (j:Nat) (y:Item),m[i]?=some x→m[j]?=some y→x.ID=y.ID→i=j:=by
 have key:∀(i:Nat) (x:Item),m[i]?=some x→∃x',l[i]?=some x'∧x'.ID=x.ID:=by
  intro i x hx
  have h1:(m.map (fun x=>x.ID))[i]?=some x.ID:=by rw[List.getElem?_map,hx];rfl
  rw[e,List.getElem?_map]at h1
  cases hl:l[i]? with
  |none=>rw[hl]at h1;cases h1
  |some x'=>rw[hl]at h1;exact ⟨x',rfl,by simpa using h1⟩
 intro i x j y hx hy hxy
 obtain ⟨x',hx',ex⟩:=key i x hx
 obtain ⟨y',hy',ey⟩:=key j y hy
 exact h i x' j y' hx' hy' (by rw[ex,ey,hxy])
theorem z99 {c:Circ} (h:MidP c) {i:Nat} {x:Item} (hx:c.Items[i]?=some x) {m:Move} {u:Custody} (hu:rng 1 4 u.Branch=true) (hl:c.Moves.length<5000000):MidP (zgq c i x m u):=by
 refine ⟨zwc h.short (by omega) hx,?_,h.holdsN,h.sorted,h.rank,h.few,h.cal,h.rules,fun y hy=>?_,?_,h.chN⟩
 ·show (c.Moves++[m]).length<_
  simp;omega
 ·rcases List.mem_or_eq_of_mem_set hy with hy|hy
  ·exact h.branch y hy
  ·rw[hy];exact hu
 ·exact zav2 (zcv hx rfl) h.ids
theorem zm2 {c:Custody} {m:Move} {u:Custody} (h:za8 c m=(u,0)):rng 1 4 u.Branch=true:=by
 have:=zhf (c:=c) (m:=m) (by rw[h];rfl)
 rw[h]at this
 exact this
theorem zjx {c:Circ} (h:MidP c) {i:Nat} {x:Item} (hx:c.Items[i]?=some x) (kind branch who:Int) :
 (∃u,za8 x.Custody ⟨c.Today,x.ID,kind,branch,who⟩=(u,0)∧qbm (i:Int) kind branch who ⟨c,0⟩=some ((),⟨zgq c i x ⟨c.Today,x.ID,kind,branch,who⟩ u,0⟩)∧
  qav c x.ID kind branch who=some (zgq c i x ⟨c.Today,x.ID,kind,branch,who⟩ u,0)∧MidP (zgq c i x ⟨c.Today,x.ID,kind,branch,who⟩ u))∨
 (∃e,e≠0∧qbm (i:Int) kind branch who ⟨c,0⟩=some ((),⟨c,e⟩)∧qav c x.ID kind branch who=some (zbp,e)):=by
 have hmv:=h.moves
 have dm:=zfx (kind:=kind) (branch:=branch) (who:=who) h.short (by omega) hx
 have rm:=zaan (kind:=kind) (branch:=branch) (who:=who) h.short (by omega) (zlp h hx) hx rfl
 rw[dm,rm]
 cases ha:za8 x.Custody ⟨c.Today,x.ID,kind,branch,who⟩ with
 |mk u e=>
  by_cases hE:zf5 c e=0
  ·left
   simp only[hE,beq_self_eq_true,cond_true]
   have he:e=0∧c.Moves.length<2000:=by
    unfold zf5 at hE
    cases hb:(e==0&&decide (2000≤(c.Moves.length:Int))) with
    |true=>rw[hb]at hE;cases hE
    |false=>
     rw[hb]at hE
     simp only[cond_false]at hE
     subst hE
     simp only[beq_self_eq_true,Bool.true_and,decide_eq_false_iff_not]at hb
     exact ⟨rfl,by omega⟩
   obtain ⟨rfl,hlen⟩:=he
   exact ⟨u,rfl,rfl,rfl,z99 h hx (zm2 ha) (by omega)⟩
  ·right
   have hE2:(zf5 c e==0)=false:=by simpa using hE
   simp only[hE2,cond_false]
   exact ⟨zf5 c e,hE,rfl,rfl⟩
theorem z0z {c:Circ} (h:MidP c) {i:Nat} {x:Item} (hx:c.Items[i]?=some x):∃v,qdu c x=some v∧qew c x.ID=some v∧(getH c.Holds v).2=!(v==0)∧(v≠0→∃o∈c.Holds,o.ID=v∧getH c.Holds v=(o,true)∧zca x.Record c.Today o=true):=by
 have hf:(c.Holds.filter (zca x.Record c.Today)).length<20:=by
  have e:c.Holds.filter (zca x.Record c.Today)=(c.Holds.filter (fun o=>o.Record==x.Record)).filter (zca x.Record c.Today):=by
   rw[List.filter_filter]
   apply List.filter_congr
   intro o _
   unfold zca
   cases o.Record==x.Record<;>simp
  rw[e]
  have:=List.length_filter_le (zca x.Record c.Today) (c.Holds.filter (fun o=>o.Record==x.Record))
  have:=h.few x.Record
  omega
 have q1:=za46 (l:=c.Holds) (x:=x) (branch:=x.Custody.Branch) (day:=c.Today) (vlocal:=c.Local) h.holdsN hf (fun o ho=>(h.rank o ho).1)
 have q2:=za45 (l:=c.Holds) (x:=x) (branch:=x.Custody.Branch) (day:=c.Today) (vlocal:=c.Local) h.holdsN h.sorted
 rw[zaag (fun o ho=>(h.rank o (List.mem_filter.1 (zgg ho)).1).2) (fun _=>rfl)]at q1
 refine ⟨_,by unfold qdu;rw[q1],by unfold qew;rw[zlp h hx];simp only[zai,hx,q2],?_,?_⟩
 ·rcases zug (branch:=x.Custody.Branch) (vlocal:=c.Local) (x:=x) (q:=za9 (c.Holds.filter (zca x.Record c.Today))) (f:=0) with e|⟨o,ho,e⟩
  ·rw[e]
   unfold getH
   have:c.Holds.find? (fun h=>h.ID==0)=none:=by
    rw[List.find?_eq_none]
    intro o ho
    have:=(h.rank o ho).2
    simpa using this
   rw[this]
   try rfl
  ·rw[e]
   have hm:=(List.mem_filter.1 (zgg ho)).1
   rw[zfj h.sorted hm]
   have:=(h.rank o hm).2
   simp[this]
 ·intro hv
  rcases zug (branch:=x.Custody.Branch) (vlocal:=c.Local) (x:=x) (q:=za9 (c.Holds.filter (zca x.Record c.Today))) (f:=0) with e|⟨o,ho,e⟩
  ·exact absurd e hv
  ·have hm:=List.mem_filter.1 (zgg ho)
   exact ⟨o,hm.1,e.symm,by rw[e];exact zfj h.sorted hm.1,hm.2⟩
end Go.Proofs.YtdahfgialanmpaaGreatDoor
namespace Go.Proofs.YtdahfgialanmpaaGreatDoor
open Ev
open Go (IntKind)
theorem za4d {α:Type} (a b:Bool) (x y:α):(bif a then (bif b then x else y) else y)=bif a&&b then x else y:=by cases a<;>rfl
def okS (state u:Int):Bool:=(state==3&&rng 1 109572 u)||(state==2&&u==0)
def gotH (x:Hold) (item state u:Int):Hold:=⟨x.ID,x.Patron,x.Record,x.Item,x.Pickup,x.Placed,state,item,u,x.Asleep,x.Rank⟩
def zez (l:List Hold) (id item state u:Int):List Hold×Int:=
 match l.find? (fun h=>h.ID==id) with
 |none=>([],9)
 |some x=>bif !(rng 1 9999 item)||!(okS state u) then ([],1)
  else bif !(x.State==1)&&((!(x.State==2)||!(x.Got==item))||!(state==3)) then ([],12)
  else bif l.any (fun o=>o.Got==item&&!(o.ID==id)) then ([],7)
  else (l.set (fIdx (fun h=>h.ID==id) l).toNat (gotH x item state u),0)
theorem z13 {l:List Hold} (hl:l.length<1000000000):qd1 l=some l:=by
 unfold qd1;rw[zjm hl];rfl
theorem za5k {l:List Hold} {i:Nat} {x y:Hold} (hl:l.length<1000000000) (hx:l[i]?=some x):qfd l (i:Int) y=some (l.set i y):=by
 unfold qfd
 simp only[z13 hl,zai,hx,Int.toNat_natCast]
theorem zaxb (state u:Int):(!(okS state u))=(!(state==3&&rng 1 109572 u)&&(!(state==2)||!(u==0))):=by
 unfold okS
 cases (state==3&&rng 1 109572 u)<;>cases state==2<;>cases u==0<;>rfl
theorem zaoa {l:List Hold} {id item state u:Int} (hl:l.length<1000000000):qaq l id item state u=some (zez l id item state u):=by
 unfold qaq qay zez
 rw[z03 (p:=fun (g:Unit×Int×Unit) x0=>qeq x0 g.2.1) (g:=((),(id,()))) (fun x=>x.ID==id) hl (fun x _=>rfl)]
 have hc:=zaxn (p:=fun (g:Unit×Int×Int×Unit) x0=>qc1 x0 g.2.1 g.2.2.1) (g:=((),(item,id,()))) (fun o=>o.Got==item&&!(o.ID==id)) hl (fun o _=>by
  simp -zeta only[qc1,zbc];rfl)
 rcases zbl (fun x:Hold=>x.ID==id) l with ⟨h1,h2⟩|⟨i,x,h1,h2,h3,h4⟩
 ·simp only[h1,h2,zr6,cond_true]
 ·simp -zeta only[h1,h4,zp4,cond_false,zai,h2,za5c,k_or,zbc,zig,Int.toNat_natCast]
  dsimp only
  rw[zaxb]
  cases (!(rng 1 9999 item)||(!(state==3&&rng 1 109572 u)&&(!(state==2)||!(u==0)))) with
  |true=>rfl
  |false=>
   simp only[cond_false,za4d]
   cases (!(x.State==1)&&((!(x.State==2)||!(x.Got==item))||!(state==3))) with
   |true=>rfl
   |false=>
    simp only[cond_false,hc]
    cases l.any (fun o=>o.Got==item&&!(o.ID==id)) with
    |true=>rfl
    |false=>simp only[cond_false,za5k hl h2];rfl
theorem zaxm {l:List Hold} {y:Hold} (hl:l.length<1000000000):qby l y=some (l.map (fun x=>bif x.ID==y.ID then y else x)):=by
 have h:=zbk (step:=zov) (fun (i:Nat) (s:List Hold)=>s.length≤i) (fun i s=>(l,(i:Int),y,s,())) l
  (fun i x s=>.inl (s++[bif x.ID==y.ID then y else x])) (fun s=>(s,())) (by rw[zaz];omega)
  (fun s _=>by simp only[zov,dge,cond_false])
  (fun i x s hx hi=>by
   have hlt:=(List.getElem?_eq_some_iff.1 hx).1
   have l1:∀z:Hold,decide (s.length+([z]:List Hold).length≤LIM)=true:=fun z=>zgt (by simp;omega)
   refine ⟨?_,fun s' hs'=>?_⟩
   ·simp only[zov,dlt hlt,zai,hx,cond_true,l1,zam (show i<9223372036854775807 by omega)]
    cases x.ID==y.ID<;>rfl
   ·cases hs'
    simp
    omega) [] (by simp)
 rw[zdg]at h
 unfold qby
 rw[show zab zov (l,0,y,([]:List Hold),())=_ from h]
 simp only
 congr 1
 have key:∀(l o:List Hold),l.foldl (fun s x=>s++[bif x.ID==y.ID then y else x]) o=o++l.map (fun x=>bif x.ID==y.ID then y else x):=by
  intro l
  induction l with
  |nil=>intro o;simp
  |cons x l ih=>intro o;rw[List.foldl_cons,ih];simp
 rw[key,List.nil_append]
theorem z29 {l:List Hold} (hsort:∀i x,l[i]?=some x→zbn l i (fun y=>decide (x.ID≤y.ID))=false) {i:Nat} {x y:Hold} (hx:l[i]?=some x) (hy:y.ID=x.ID):l.map (fun z=>bif z.ID==y.ID then y else z)=l.set i y:=by
 apply List.ext_getElem?
 intro j
 rw[List.getElem?_map,List.getElem?_set]
 have hlt:=(List.getElem?_eq_some_iff.1 hx).1
 split
 ·rename_i e
  subst e
  simp only[hx,Option.map_some,hlt,if_true,hy,beq_self_eq_true,cond_true]
 ·rename_i e
  cases hj:l[j]? with
  |none=>rfl
  |some z=>
   have hne:¬z.ID=y.ID:=by
    rw[hy]
    rcases Nat.lt_or_gt_of_ne e with h|h
    ·have:=zcp (key:=fun y:Hold=>y.ID) hsort j i x z h hx hj;omega
    ·have:=zcp (key:=fun y:Hold=>y.ID) hsort i j z x h hj hx;omega
   have hb:(z.ID==y.ID)=false:=by simpa using hne
   simp only[Option.map_some,hb,cond_false]
theorem zaxa (state u:Int):((!(state==2)&&!(state==3))||(state==3&&(decide (u<1)||!(rng 0 109572 u)))||(state==2&&!(u==0)))=!(okS state u):=by
 unfold okS
 by_cases h3:state=3
 ·subst h3
  unfold rng
  by_cases h1:u<1
  ·have:¬1≤u:=by omega
   simp[h1,this]
  ·have a:1≤u:=by omega
   have b:0≤u:=by omega
   simp[h1,a,b]
 ·have e3:(state==3)=false:=by simpa using h3
  rw[e3]
  cases state==2<;>cases u==0<;>rfl
theorem zaol {l:List Hold} {id item state u:Int} (hl:l.length<1000000000) (hsort:∀i x,l[i]?=some x→zbn l i (fun y=>decide (x.ID≤y.ID))=false):qbp l id item state u=some (zez l id item state u):=by
 unfold qbp zez
 rw[z01 hl]
 unfold getH
 rcases zbl (fun x:Hold=>x.ID==id) l with ⟨h1,h2⟩|⟨i,x,h1,h2,h3,h4⟩
 ·rw[h2];rfl
 ·have hxid:x.ID=id:=by simpa using h3
  have hw:=zbu (step:=zos) (fun i=>(l,id,item,state,u,(i:Int),x,())) l (fun o=>!(o.ID==id)&&o.Got==item) (fun _ _=>(.inr ([],7,()):(List Hold×Int×Int×Int×Hold×Unit)⊕(List Hold×Int×Unit))) (.inl (l,item,state,u,x,())) hl
   (by simp only[zos,dge,cond_false])
   (fun j y hy=>by
    have hlt:=(List.getElem?_eq_some_iff.1 hy).1
    simp -zeta only[zos,dlt hlt,zai,hy,cond_true,zbc,zam (show j<9223372036854775807 by omega)]
    rfl)
  rw[zid]at hw
  rw[h4]
  simp -zeta only[Bool.not_true,cond_false,zaox,zaoz,k_or,zbc,zig,h1,Int.toNat_natCast]
  dsimp only
  rw[←zaxa]
  have eb:∀a b c d:Bool,((a||b||c)||d)=(a||(b||c||d)):=by decide
  cases hq:(!(rng 1 9999 item)||(!(state==2)&&!(state==3)||(state==3&&(decide (u<1)||!(rng 0 109572 u)))||(state==2&&!(u==0)))) with
  |true=>
   rw[←eb]at hq
   rw[hq]
   try rfl
  |false=>
   rw[←eb]at hq
   rw[hq]
   simp only[cond_false,za4d]
   cases (!(x.State==1)&&((!(x.State==2)||!(x.Got==item))||!(state==3))) with
   |true=>rfl
   |false=>
    simp only[cond_false]
    rw[show zab zos (l,id,item,state,u,0,x,())=_ from hw]
    have ea:l.any (fun o=>o.Got==item&&!(o.ID==id))=(l.find? (fun o=>!(o.ID==id)&&o.Got==item)).isSome:=by
     rw[Bool.eq_iff_iff,List.find?_isSome,List.any_eq_true]
     constructor
     ·rintro ⟨o,ho,hp⟩;exact ⟨o,ho,by rw[Bool.and_comm];exact hp⟩
     ·rintro ⟨o,ho,hp⟩;exact ⟨o,ho,by rw[Bool.and_comm];exact hp⟩
    rw[ea]
    cases l.find? (fun o=>!(o.ID==id)&&o.Got==item) with
    |some o=>rfl
    |none=>
     simp only[Option.isSome_none,cond_false]
     have:=zaxm (l:=l) (y:=gotH x item state u) hl
     rw[z29 hsort h2 (y:=gotH x item state u) rfl]at this
     rw[show qby l (⟨x.ID,x.Patron,x.Record,x.Item,x.Pickup,x.Placed,state,item,u,x.Asleep,x.Rank⟩:Hold)=_ from this]
def zb9 (o:Hold):Int×Int×Int:=(o.ID,o.Rank,o.Record)
theorem zsd {c:Circ} (h:MidP c) {l:List Hold} (e:l.map zb9=c.Holds.map zb9):MidP (zay c l):=by
 have hlen:l.length=c.Holds.length:=by have:=congrArg List.length e;simpa using this
 have key:∀(i:Nat) (x:Hold),l[i]?=some x→∃x',c.Holds[i]?=some x'∧zb9 x'=zb9 x:=by
  intro i x hx
  have h1:(l.map zb9)[i]?=some (zb9 x):=by rw[List.getElem?_map,hx];rfl
  rw[e,List.getElem?_map]at h1
  cases hl:c.Holds[i]? with
  |none=>rw[hl]at h1;cases h1
  |some x'=>rw[hl]at h1;exact ⟨x',rfl,by simpa using h1⟩
 refine ⟨zfw h.short (by rw[hlen];exact h.short.holds),h.moves,?_,?_,?_,?_,h.cal,h.rules,h.branch,h.ids,h.chN⟩
 ·show l.length<_;rw[hlen];exact h.holdsN
 ·intro i x hx
  obtain ⟨x',hx',ek⟩:=key i x hx
  have hs:=h.sorted i x' hx'
  cases i with
  |zero=>rfl
  |succ j=>
   show zbn l (j+1) _=false
   unfold zbn at hs ⊢
   simp only at hs ⊢
   cases hj:l[j]? with
   |none=>rfl
   |some y=>
    obtain ⟨y',hy',ey⟩:=key j y hj
    rw[hy']at hs
    unfold zb9 at ek ey
    simp only[Prod.mk.injEq]at ek ey
    simp only at hs;rw[ek.1,ey.1]at hs
    exact hs
 ·intro o ho
  obtain ⟨i,hi⟩:=List.getElem?_of_mem ho
  obtain ⟨x',hx',ek⟩:=key i o hi
  have:=h.rank x' (List.mem_of_getElem? hx')
  unfold zb9 at ek
  simp only[Prod.mk.injEq]at ek
  rw[←ek.1,←ek.2.1]
  exact this
 ·intro r
  have e1:∀m:List Hold,(m.filter (fun o=>o.Record==r)).length=((m.map zb9).filter (fun k=>k.2.2==r)).length:=by
   intro m
   rw[List.filter_map,List.length_map]
   try rfl
  show (l.filter (fun o=>o.Record==r)).length<20
  rw[e1,e,←e1]
  exact h.few r
theorem znn {l:List Hold} {id item state u:Int} (h:(zez l id item state u).2=0):(zez l id item state u).1.map zb9=l.map zb9:=by
 unfold zez at h ⊢
 rcases zbl (fun x:Hold=>x.ID==id) l with ⟨h1,h2⟩|⟨i,x,h1,h2,h3,h4⟩
 ·rw[h2]at h;cases h
 ·rw[h4]at h ⊢
  simp only at h ⊢
  cases hq:(!(rng 1 9999 item)||!(okS state u)) with
  |true=>rw[hq]at h;cases h
  |false=>
   rw[hq]at h
   simp only[cond_false]at h ⊢
   cases hq2:(!(x.State==1)&&((!(x.State==2)||!(x.Got==item))||!(state==3))) with
   |true=>rw[hq2]at h;cases h
   |false=>
    rw[hq2]at h
    simp only[cond_false]at h ⊢
    cases hq3:l.any (fun o=>o.Got==item&&!(o.ID==id)) with
    |true=>rw[hq3]at h;cases h
    |false=>
     simp only[cond_false,h1,Int.toNat_natCast]
     exact zcv h2 rfl
end Go.Proofs.YtdahfgialanmpaaGreatDoor
namespace Go.Proofs.YtdahfgialanmpaaGreatDoor
open Ev
open Go (IntKind)
structure Frame (c d:Circ):Prop where
 ids:d.Items.map (fun x=>x.ID)=c.Items.map (fun x=>x.ID)
 holds:d.Holds.map zb9=c.Holds.map zb9
 patrons:d.Patrons=c.Patrons
 loans:d.Loans=c.Loans
 charges:d.Charges=c.Charges
 rules:d.Rules=c.Rules
 cals:d.Cals=c.Cals
 today:d.Today=c.Today
 here:d.Local=c.Local
 nh:d.NextHold=c.NextHold
 nc:d.NextCharge=c.NextCharge
 br:d.Items.map (fun x=>x.Custody.Branch)=c.Items.map (fun x=>x.Custody.Branch)
 recs:d.Items.map (fun x=>x.Record)=c.Items.map (fun x=>x.Record)
theorem Frame.refl (c:Circ):Frame c c:=⟨rfl,rfl,rfl,rfl,rfl,rfl,rfl,rfl,rfl,rfl,rfl,rfl,rfl⟩
theorem Frame.trans {a b c:Circ} (h:Frame a b) (k:Frame b c):Frame a c:=
 ⟨k.ids.trans h.ids,k.holds.trans h.holds,k.patrons.trans h.patrons,k.loans.trans h.loans,k.charges.trans h.charges,k.rules.trans h.rules,k.cals.trans h.cals,k.today.trans h.today,k.here.trans h.here,k.nh.trans h.nh,k.nc.trans h.nc,k.br.trans h.br,k.recs.trans h.recs⟩
theorem zg2 {c:Circ} {i:Nat} {x:Item} (hx:c.Items[i]?=some x) (m:Move) {u:Custody} (hu:u.Branch=x.Custody.Branch):Frame c (zgq c i x m u):=
 ⟨zcv hx rfl,rfl,rfl,rfl,rfl,rfl,rfl,rfl,rfl,rfl,rfl,zcv hx hu,zcv hx rfl⟩
theorem zgv {c:Custody} {m:Move} {u:Custody} (h:za8 c m=(u,0)) (hk:(zcz m.Kind==2)=false):u.Branch=c.Branch:=by
 unfold za8 at h
 cases e1:(!(zjj c)||!(zne m)) with
 |true=>rw[e1]at h;cases h
 |false=>
  rw[e1]at h
  simp only[cond_false]at h
  cases e2:!(zj4 c.State m.Kind) with
  |true=>rw[e2]at h;cases h
  |false=>
   rw[e2]at h
   simp only[cond_false]at h
   cases e3:(m.Kind==3&&c.State==5&&!(m.Who==c.Who)) with
   |true=>rw[e3]at h;cases h
   |false=>
    rw[e3]at h
    simp only[cond_false]at h
    cases e4:!(zaat c m) with
    |true=>rw[e4]at h;cases h
    |false=>
     rw[e4]at h
     simp only[cond_false,hk]at h
     cases e5:(zcz m.Kind==4||(zcz m.Kind==5||zcz m.Kind==8)) with
     |true=>rw[e5]at h;cases h;rfl
     |false=>
      rw[e5]at h
      simp only[cond_false]at h
      cases e6:(zcz m.Kind==6) with
      |true=>rw[e6]at h;cases h;rfl
      |false=>
       rw[e6]at h
       simp only[cond_false]at h
       cases e7:(zcz m.Kind==9||zcz m.Kind==10) with
       |true=>rw[e7]at h;cases h;rfl
       |false=>rw[e7]at h;cases h;rfl
theorem zfv {c:Circ} {l:List Hold} (e:l.map zb9=c.Holds.map zb9):Frame c (zay c l):=⟨rfl,e,rfl,rfl,rfl,rfl,rfl,rfl,rfl,rfl,rfl,rfl,rfl⟩
def SimD (a:Option (Unit×Circ_desk)) (b:Option (Circ×Int)) (Q:Circ→Prop):Prop:=
 (∃c,a=some ((),⟨c,0⟩)∧b=some (c,0)∧Q c)∨∃c e,e≠0∧a=some ((),⟨c,e⟩)∧b=some (zbp,e)∧Short c
def zakb (a b:Option (Circ×Int)):Prop:=∃c e,a=some (c,e)∧b=some (c,e)∧Short c
theorem zh5 {e:Int}:zakb (some (zbp,e)) (some (zbp,e)):=⟨_,_,rfl,rfl,ziy⟩
theorem zhj (c:Circ) (e0:Int) (h0:e0≠0):qw ⟨c,e0⟩=some ((zbp,e0),⟨c,e0⟩):=by
 have h:(e0==0)=false:=by simpa using h0
 unfold qw
 simp only[h,Bool.not_false,cond_true]
 try rfl
theorem zp3 {c:Circ} (h:MidP c) {b n:Int} (hb:rng 1 4 b=true):∃d e,qe0 b n ⟨c,0⟩=some (d,⟨c,e⟩)∧qb4 (calS c b) c.Today n=some (d,e):=by
 obtain ⟨d,e,hq⟩:=znz (h.cal b) c.Today n
 refine ⟨d,e,?_,hq⟩
 unfold qe0
 simp only[zaou hb,zaaj (h.cal b),hq]
 by_cases he:e=0
 ·subst he;rfl
 ·have he2:(e==0)=false:=by simpa using he
  simp only[he2,Bool.not_false,cond_true,qu,beq_self_eq_true]
theorem zm4 {c:Circ} (h:MidP c) {b n e0:Int} (hb:rng 1 4 b=true) (h0:e0≠0):∃d,qe0 b n ⟨c,e0⟩=some (d,⟨c,e0⟩):=by
 obtain ⟨d,e,hq⟩:=znz (h.cal b) c.Today n
 have h2:(e0==0)=false:=by simpa using h0
 refine ⟨d,?_⟩
 unfold qe0
 simp only[zaou hb,zaaj (h.cal b),hq]
 cases e==0<;>simp only[Bool.not_false,Bool.not_true,cond_true,cond_false,qu,h2]
theorem z4b {c:Circ} (h:MidP c) {i:Nat} {x:Item} (hx:c.Items[i]?=some x) (o:Hold):SimD (qd2 (i:Int) o ⟨c,0⟩) (qfb c x.ID o) (fun d=>(MidP d∧Frame c d)∧(∃u,d.Items=c.Items.set i (znj u x))∧∃st u,zez c.Holds o.ID x.ID st u=(d.Holds,0)):=by
 obtain ⟨r,b,hr,_⟩:=zaxw (p:=o.Patron) (x:=x) h.short
 have hb:=h.branch x (List.mem_of_getElem? hx)
 unfold qd2 qfb
 simp -zeta only[beq_self_eq_true,Bool.not_true,cond_false,zlp h hx,zai,hx,zaxo h.short,hr]
 rcases zjx h hx 5 x.Custody.Branch o.Patron with ⟨u,ha,m1,m2,hm2⟩|⟨e,he,m1,m2⟩
 ·have hf:=zg2 hx ⟨c.Today,x.ID,5,x.Custody.Branch,o.Patron⟩ (zgv ha rfl)
  rw[m1,m2]
  have hh:(zgq c i x ⟨c.Today,x.ID,5,x.Custody.Branch,o.Patron⟩ u).Holds=c.Holds:=rfl
  have hI:(zgq c i x ⟨c.Today,x.ID,5,x.Custody.Branch,o.Patron⟩ u).Items=c.Items.set i (znj u x):=rfl
  generalize zgq c i x ⟨c.Today,x.ID,5,x.Custody.Branch,o.Patron⟩ u=c2 at hm2 hf hh hI
  dsimp only
  have core:∀days:Int,∃d e,qe0 x.Custody.Branch days ⟨c2,0⟩=some (d,⟨c2,e⟩)∧qb4 (calS c2 x.Custody.Branch) c2.Today days=some (d,e):=fun days=>zp3 hm2 hb
  cases b
  all_goals
   simp only[cond_true,cond_false,beq_self_eq_true,Bool.not_true,za69 hb]
   obtain ⟨d,e,l1,l2⟩:=core _
   rw[l1,l2]
   by_cases he:e=0
   ·subst he
    simp only[beq_self_eq_true,Bool.not_true,cond_true,cond_false,zaoa hm2.short.holds,zaol hm2.short.holds hm2.sorted]
    have ck:=znn (l:=c2.Holds) (id:=o.ID) (item:=x.ID) (state:=3) (u:=d)
    generalize hcq:zez c2.Holds o.ID x.ID 3 d=q at ck
    obtain ⟨l,e⟩:=q
    by_cases he:e=0
    ·subst he
     exact .inl ⟨zay c2 l,rfl,rfl,⟨zsd hm2 (ck rfl),hf.trans (zfv (ck rfl))⟩,⟨u,hI⟩,3,d,by rw[←hh];exact hcq⟩
    ·have he2:(e==0)=false:=by simpa using he
     simp only[zes c2 l e he,he2,Bool.not_false,cond_true]
     exact .inr ⟨_,e,he,rfl,rfl,hm2.short⟩
   ·have he2:(e==0)=false:=by simpa using he
    simp only[he2,Bool.not_false,cond_true,cond_false]
    exact .inr ⟨_,e,he,rfl,rfl,hm2.short⟩
 ·have he2:(e==0)=false:=by simpa using he
  rw[m1,m2]
  dsimp only
  cases b
  all_goals
   simp only[cond_true,cond_false,he2,Bool.not_false]
   obtain ⟨d,l1⟩:=zm4 (n:=_) h hb he
   rw[l1]
   simp only[he2,cond_false]
   exact .inr ⟨_,e,he,rfl,rfl,h.short⟩
theorem ziv {c:Circ} {i:Nat} {x:Item} (hx:c.Items[i]?=some x) (kind:Int):qc8 (i:Int) kind ⟨c,0⟩=qbm (i:Int) kind x.Custody.Branch 0 ⟨c,0⟩:=by
 unfold qc8
 simp only[beq_self_eq_true,cond_true,zai,hx]
 cases qbm (i:Int) kind x.Custody.Branch 0 ⟨c,0⟩ with
 |none=>rfl
 |some p=>rfl
theorem zpz (c:Circ) (i e0:Int) (h0:e0≠0):qcy i ⟨c,e0⟩=some ((),⟨c,e0⟩):=by
 have h:(e0==0)=false:=by simpa using h0
 unfold qcy
 simp only[h,Bool.not_false,cond_true]
theorem zaj4 {X:Type} {l:List X} {i:Nat} {x:X} (h:l[i]?=some x):l.set i x=l:=by
 obtain ⟨h1,h2⟩:=List.getElem?_eq_some_iff.1 h
 rw[←h2,List.set_getElem_self]
theorem zag9 {l:List Hold} (hs:∀i x,l[i]?=some x→zbn l i (fun y=>decide (x.ID≤y.ID))=false) {o p:Hold} (ho:o∈l) (hp:p∈l) (e:o.ID=p.ID):o=p:=by
 have h1:=zfj hs ho
 have h2:=zfj hs hp
 rw[e,h2]at h1
 cases h1
 try rfl
def Put (c d:Circ) (i:Nat) (x:Item):Prop:=(∃u,d.Items=c.Items.set i (znj u x))∧∃v,qdu c x=some v∧((v=0∧d.Holds=c.Holds)∨∃st u,zez c.Holds v x.ID st u=(d.Holds,0)∧(st=3→∀o∈c.Holds,o.ID=v→o.Pickup=x.Custody.Branch))
theorem zrj {c:Circ} (h:MidP c) {i:Nat} {x:Item} (hx:c.Items[i]?=some x):SimD (qcy (i:Int) ⟨c,0⟩) (qex c x.ID) (fun d=>(MidP d∧Frame c d)∧Put c d i x):=by
 obtain ⟨v,p1,p2,g1,g2⟩:=z0z h hx
 have mv:∀kind branch who:Int,(zcz kind==2)=false→SimD (qbm (i:Int) kind branch who ⟨c,0⟩) (qav c x.ID kind branch who) (fun d=>(MidP d∧Frame c d)∧d.Holds=c.Holds∧∃u,d.Items=c.Items.set i (znj u x)):=by
  intro kind branch who hk
  rcases zjx h hx kind branch who with ⟨u,ha,m1,m2,hm2⟩|⟨e,he,m1,m2⟩
  ·exact .inl ⟨_,m1,m2,⟨hm2,zg2 hx _ (zgv ha hk)⟩,rfl,u,rfl⟩
  ·exact .inr ⟨_,e,he,m1,m2,h.short⟩
 unfold qcy qex
 simp -zeta only[beq_self_eq_true,Bool.not_true,cond_false,zlp h hx,zai,hx,p1,p2,z05 h.short.holds,z01 h.short.holds,ziv hx,zbc]
 by_cases hv:v=0
 ·subst hv
  generalize getH c.Holds 0=q at g1 ⊢
  obtain ⟨o,ok⟩:=q
  simp only[beq_self_eq_true,Bool.not_true]at g1
  subst g1
  dsimp only
  simp only[Bool.not_false,Bool.true_and,beq_self_eq_true,cond_true]
  cases x.Branch==x.Custody.Branch with
  |false=>
   simp only[Bool.not_false,cond_true]
   rcases mv 6 x.Branch 0 rfl with ⟨d,m1,m2,hQ,hH,hI⟩|⟨d,e,he,m1,m2,hsd⟩
   ·rw[m1,m2];exact .inl ⟨d,rfl,rfl,hQ,hI,0,p1,.inl ⟨rfl,hH⟩⟩
   ·rw[m1,m2];exact .inr ⟨d,e,he,rfl,rfl,hsd⟩
  |true=>
   simp only[Bool.not_true,cond_false]
   cases x.Custody.State==3 with
   |true=>exact .inl ⟨c,rfl,rfl,⟨h,Frame.refl c⟩,⟨x.Custody,(zaj4 hx).symm⟩,0,p1,.inl ⟨rfl,rfl⟩⟩
   |false=>
    simp only[Bool.not_false,cond_true,cond_false]
    rcases mv 2 x.Custody.Branch 0 rfl with ⟨d,m1,m2,hQ,hH,hI⟩|⟨d,e,he,m1,m2,hsd⟩
    ·rw[m1,m2];exact .inl ⟨d,rfl,rfl,hQ,hI,0,p1,.inl ⟨rfl,hH⟩⟩
    ·rw[m1,m2];exact .inr ⟨d,e,he,rfl,rfl,hsd⟩
 ·have hv2:(v==0)=false:=by simpa using hv
  obtain ⟨o,ho,hoi,hg,hw⟩:=g2 hv
  rw[hg,hv2]
  dsimp only
  simp only[Bool.not_true,Bool.false_and,cond_false]
  cases hpk:o.Pickup==x.Custody.Branch with
  |true=>
   simp only[cond_true]
   rcases z4b h hx o with ⟨d,m1,m2,hQ,hI,st,u,hH⟩|⟨d,e,he,m1,m2,hsd⟩
   ·rw[m1,m2];exact .inl ⟨d,rfl,rfl,hQ,hI,v,p1,.inr ⟨st,u,by rw[←hoi];exact hH,fun _ o2 ho2 hv2=>by rw[zag9 h.sorted ho2 ho (hv2.trans hoi.symm)];simpa using hpk⟩⟩
   ·rw[m1,m2];exact .inr ⟨d,e,he,rfl,rfl,hsd⟩
  |false=>
   simp only[cond_false]
   rcases mv 6 o.Pickup o.Patron rfl with ⟨d,m1,m2,⟨hm2,hf⟩,hH,hI⟩|⟨d,e,he,m1,m2,hsd⟩
   ·rw[m1,m2]
    simp only[beq_self_eq_true,Bool.not_true,cond_true,cond_false,zaoa hm2.short.holds,zaol hm2.short.holds hm2.sorted]
    have ck:=znn (l:=d.Holds) (id:=v) (item:=x.ID) (state:=2) (u:=0)
    generalize hcq:zez d.Holds v x.ID 2 0=q at ck
    obtain ⟨l,e⟩:=q
    by_cases he:e=0
    ·subst he
     exact .inl ⟨zay d l,rfl,rfl,⟨zsd hm2 (ck rfl),hf.trans (zfv (ck rfl))⟩,hI,v,p1,.inr ⟨2,0,by rw[←hH];exact hcq,fun h=>absurd h (by decide)⟩⟩
    ·have he2:(e==0)=false:=by simpa using he
     simp only[zes d l e he,he2,Bool.not_false,cond_true]
     exact .inr ⟨_,e,he,rfl,rfl,hm2.short⟩
   ·have he2:(e==0)=false:=by simpa using he
    rw[m1,m2]
    simp only[he2,cond_false,Bool.not_false,cond_true]
    exact .inr ⟨d,e,he,rfl,rfl,hsd⟩
end Go.Proofs.YtdahfgialanmpaaGreatDoor
namespace Go.Proofs.YtdahfgialanmpaaGreatDoor
open Ev
open Go (IntKind)
theorem z00 {c:Circ} {i:Nat} {x:Item} (hx:c.Items[i]?=some x) (m:Move) (u:Custody):(zgq c i x m u).Items[i]?=some (znj u x):=by
 show (c.Items.set i (znj u x))[i]?=_
 rw[List.getElem?_set_self (List.getElem?_eq_some_iff.1 hx).1]
end Go.Proofs.YtdahfgialanmpaaGreatDoor
namespace Go.Proofs.YtdahfgialanmpaaGreatDoor
open Ev
open Go (IntKind)
theorem z78 {c d:Circ} (h:Frame c d):d.Items.length=c.Items.length:=by
 have:=congrArg List.length h.ids
 simpa using this
theorem zgu (c:Circ) (record e:Int) (n i k:Nat) (he:e≠0) :
 zau zdv (k+1) (record,(n:Int),(i:Int),⟨c,e⟩,())=some (.inl (⟨c,e⟩,()))∨zau zdv (k+1) (record,(n:Int),(i:Int),⟨c,e⟩,())=some (.inr (⟨c,e⟩,())):=by
 have h:(e==0)=false:=by simpa using he
 simp only[zau,zdv]
 cases decide ((i:Int)<(n:Int)) with
 |false=>exact .inl rfl
 |true=>
  simp only[cond_true,h,Bool.not_false]
  refine .inr ?_
  first|rfl|trivial
def Rest (r:Int) (c d:Circ):Prop:=d.Items.map (fun x=>x.Record)=c.Items.map (fun x=>x.Record)∧∀(j:Nat) (y:Item),c.Items[j]?=some y→¬y.Record=r→d.Items[j]?=some y
theorem Rest.refl (r:Int) (c:Circ):Rest r c c:=⟨rfl,fun _ _ h _=>h⟩
theorem Rest.trans {r:Int} {a b c:Circ} (h:Rest r a b) (k:Rest r b c):Rest r a c:=⟨k.1.trans h.1,fun j y hy hr=>k.2 j y (h.2 j y hy hr) hr⟩
theorem zajx {c d:Circ} {i:Nat} {x:Item} {record w:Int} (hx:c.Items[i]?=some x) (hp:Put c d i x) (hq:((x.Record==record&&x.Custody.State==3)&&!(w==0))=true):Rest record c d:=by
 obtain ⟨⟨u,hI⟩,-⟩:=hp
 simp only[Bool.and_eq_true,beq_iff_eq]at hq
 refine ⟨by rw[hI];exact zcv hx rfl,fun j y hy hr=>?_⟩
 rw[hI,List.getElem?_set]
 split
 ·rename_i e
  subst e
  rw[hx]at hy
  cases hy
  exact absurd hq.1.1 hr
 ·exact hy
theorem z4j {record:Int} {n:Nat} {v:Circ} (hn:n<1000000000):∀(k i:Nat) (c:Circ),i+k=n→MidP c→c.Items.length=n→
 (∃d,zau zdv (k+2) (record,(n:Int),(i:Int),⟨c,0⟩,())=some (.inl (⟨d,0⟩,()))∧zau zhz (k+2) (record,(i:Int),c,v,())=some (.inl (d,v,()))∧MidP d∧Frame c d∧Rest record c d)∨
 (∃d e,e≠0∧Short d∧(zau zdv (k+2) (record,(n:Int),(i:Int),⟨c,0⟩,())=some (.inl (⟨d,e⟩,()))∨zau zdv (k+2) (record,(n:Int),(i:Int),⟨c,0⟩,())=some (.inr (⟨d,e⟩,())))∧
  zau zhz (k+2) (record,(i:Int),c,v,())=some (.inr (e,zbp,()))):=by
 intro k
 induction k with
 |zero=>
  intro i c hi h hl
  have:i=n:=by omega
  subst this
  refine .inl ⟨c,?_,?_,h,Frame.refl c,Rest.refl _ c⟩
  ·simp only[zau,zdv,dge,cond_false]
  ·simp only[zau,zhz,hl,dge,cond_false]
 |succ k ih=>
  intro i c hi h hl
  have hlt:i<n:=by omega
  have hx:c.Items[i]?=some (c.Items[i]'(by omega)):=List.getElem?_eq_getElem (by omega)
  generalize c.Items[i]'(by omega)=x at hx
  obtain ⟨w,p1,p2,g1,g2⟩:=z0z h hx
  have hsu:=zam (show i<9223372036854775807 by omega)
  have s1:zdv (record,(n:Int),(i:Int),⟨c,0⟩,())=(bif (x.Record==record&&x.Custody.State==3)&&!(w==0) then (match qcy (i:Int) ⟨c,0⟩ with|some (_,v6)=>some (.inl (record,(n:Int),((i+1:Nat):Int),v6,()))|none=>none) else some (.inl (record,(n:Int),((i+1:Nat):Int),⟨c,0⟩,()))):=by
   simp -zeta only[zdv,dlt hlt,cond_true,beq_self_eq_true,Bool.not_true,cond_false,zai,hx,p1,zbc,hsu]
   try rfl
  have s2:zhz (record,(i:Int),c,v,())=(bif (x.Record==record&&x.Custody.State==3)&&!(w==0) then (match qex c x.ID with|some (r5,r6)=>(bif !(r6==0) then some (.inr (.inr (r6,zbp,()))) else some (.inl (record,((i+1:Nat):Int),r5,v,())))|none=>none) else some (.inl (record,((i+1:Nat):Int),c,v,()))):=by
   simp -zeta only[zhz,hl,dlt hlt,cond_true,zai,hx,p2,k_or,hsu]
   dsimp only
   cases x.Record==record<;>cases x.Custody.State==3<;>cases w==0<;>rfl
  rw[zau,zau,s1,s2]
  cases hq:(x.Record==record&&x.Custody.State==3)&&!(w==0) with
  |false=>
   simp only[cond_false]
   exact ih (i+1) c (by omega) h hl
  |true=>
   simp only[cond_true]
   rcases zrj h hx with ⟨d,q1,q2,⟨hd,hf⟩,hput⟩|⟨d,e,he,q1,q2,hsd⟩
   ·rw[q1,q2]
    simp only[beq_self_eq_true,Bool.not_true,cond_false]
    rcases ih (i+1) d (by omega) hd (by rw[z78 hf,hl]) with ⟨d2,a1,a2,a3,a4,a5⟩|⟨d2,e,he,hsd,a1,a2⟩
    ·exact .inl ⟨d2,a1,a2,a3,hf.trans a4,(zajx hx hput hq).trans a5⟩
    ·exact .inr ⟨d2,e,he,hsd,a1,a2⟩
   ·have he2:(e==0)=false:=by simpa using he
    rw[q1,q2]
    simp only[he2,Bool.not_false,cond_true]
    exact .inr ⟨d,e,he,hsd,zgu d record e n (i+1) (k+1) he,rfl⟩
theorem zadz {c:Circ} (h:MidP c) (record:Int):SimD (qbd record ⟨c,0⟩) (qbx c record) (fun d=>MidP d∧Frame c d∧Rest record c d):=by
 have hi:=h.short.items
 unfold qbd qbx
 rcases z4j (record:=record) (v:=zbp) hi c.Items.length 0 c (by omega) h rfl with ⟨d,a1,a2,a3,a4⟩|⟨d,e,he,hsd,a1,a2⟩
 ·have w1:=zav _ (by rw[zaz];omega) a1
  have w2:=zav _ (by rw[zaz];omega) a2
  rw[show zab zdv (record,(c.Items.length:Int),0,⟨c,0⟩,())=_ from w1,show zab zhz (record,0,c,(⟨0,[],[],[],[],[],[],⟨⟨0,[]⟩,⟨0,[]⟩,⟨0,[]⟩,⟨0,[]⟩⟩,[],0,0,false⟩:Circ),())=_ from w2]
  exact .inl ⟨d,rfl,rfl,a3,a4⟩
 ·have w2:=zav _ (by rw[zaz];omega) a2
  rw[show zab zhz (record,0,c,(⟨0,[],[],[],[],[],[],⟨⟨0,[]⟩,⟨0,[]⟩,⟨0,[]⟩,⟨0,[]⟩⟩,[],0,0,false⟩:Circ),())=_ from w2]
  rcases a1 with a1|a1
  ·have w1:=zav _ (by rw[zaz];omega) a1
   rw[show zab zdv (record,(c.Items.length:Int),0,⟨c,0⟩,())=_ from w1]
   exact .inr ⟨d,e,he,rfl,rfl,hsd⟩
  ·have w1:=zav _ (by rw[zaz];omega) a1
   rw[show zab zdv (record,(c.Items.length:Int),0,⟨c,0⟩,())=_ from w1]
   exact .inr ⟨d,e,he,rfl,rfl,hsd⟩
theorem zm5 (c:Circ) (record e:Int) (he:e≠0):qbd record ⟨c,e⟩=some ((),⟨c,e⟩):=by
 unfold qbd
 rcases zgu c record e c.Items.length 0 0 he with a1|a1
 ·have w1:=zav _ (by rw[zaz];omega) a1
  rw[show zab zdv (record,(c.Items.length:Int),0,⟨c,e⟩,())=_ from w1]
 ·have w1:=zav _ (by rw[zaz];omega) a1
  rw[show zab zdv (record,(c.Items.length:Int),0,⟨c,e⟩,())=_ from w1]
end Go.Proofs.YtdahfgialanmpaaGreatDoor
namespace Go.Proofs.YtdahfgialanmpaaGreatDoor
open Ev
open Go (IntKind)
end Go.Proofs.YtdahfgialanmpaaGreatDoor
namespace Go.Proofs.YtdahfgialanmpaaGreatDoor
open Ev
open Go (IntKind)
theorem zhc {l:List Hold}:(∀i x,l[i]?=some x→zbn l i (fun y=>decide (x.ID≤y.ID))=false)↔l.Pairwise (fun a b=>a.ID<b.ID):=by
 constructor
 ·intro h
  rw[List.pairwise_iff_getElem]
  intro i j hi hj hij
  exact zcp (key:=fun y:Hold=>y.ID) h j i l[i] l[j] hij (List.getElem?_eq_getElem hi) (List.getElem?_eq_getElem hj)
 ·intro h i x hx
  cases i with
  |zero=>rfl
  |succ j=>
   unfold zbn
   simp only
   have hi:=(List.getElem?_eq_some_iff.1 hx)
   have hj:j<l.length:=by have:=hi.1;omega
   rw[List.getElem?_eq_getElem hj]
   have:=(List.pairwise_iff_getElem.1 h) j (j+1) hj hi.1 (by omega)
   rw[hi.2]at this
   simp only[decide_eq_false_iff_not]
   omega
theorem z2i {c:Circ} (h:MidP c) (p:Hold→Bool):MidP (zay c (c.Holds.filter p)):=by
 obtain ⟨h1,h2,h3,h4,h5,h6,h7,h8,h9,h10,h11⟩:=h
 have hl:=List.length_filter_le p c.Holds
 refine ⟨zfw h1 (by omega),h2,by show (c.Holds.filter p).length<_;omega,zhc.2 ((zhc.1 h4).filter p),fun o ho=>h5 o (List.mem_filter.1 ho).1,fun r=>?_,h7,h8,h9,h10,h11⟩
 show ((c.Holds.filter p).filter _).length<20
 rw[List.filter_filter]
 have e:c.Holds.filter (fun a=>a.Record==r&&p a)=(c.Holds.filter (fun o=>o.Record==r)).filter p:=by
  rw[List.filter_filter]
  apply List.filter_congr
  intro o _
  exact Bool.and_comm _ _
 have h6r:=h6 r
 rw[e]
 have:=List.length_filter_le p (c.Holds.filter (fun o=>o.Record==r))
 omega
theorem zkc {l:List Hold} (hsort:∀i x,l[i]?=some x→zbn l i (fun y=>decide (x.ID≤y.ID))=false) {o:Hold} (ho:o∈l):zd5 l o.ID=(l.filter (fun x=>!(x.ID==o.ID)),o,0):=by
 have:=zfj hsort ho
 unfold getH at this
 unfold zd5
 cases hq:l.find? (fun h=>h.ID==o.ID) with
 |none=>rw[hq]at this;cases this
 |some x=>rw[hq]at this;cases this;rfl
theorem z77 {c d:Circ} (h:Frame c d) {i:Nat} {x:Item} (hx:c.Items[i]?=some x):∃y,d.Items[i]?=some y∧y.ID=x.ID∧y.Custody.Branch=x.Custody.Branch:=by
 have h1:(c.Items.map (fun x=>x.ID))[i]?=some x.ID:=by rw[List.getElem?_map,hx];rfl
 have h2:(c.Items.map (fun x=>x.Custody.Branch))[i]?=some x.Custody.Branch:=by rw[List.getElem?_map,hx];rfl
 rw[←h.ids,List.getElem?_map]at h1
 rw[←h.br,List.getElem?_map]at h2
 cases hy:d.Items[i]? with
 |none=>rw[hy]at h1;cases h1
 |some y=>rw[hy]at h1 h2;exact ⟨y,rfl,by simpa using h1,by simpa using h2⟩
def za6t (c d:Circ) (o:Hold):Prop:=∃b,b=zay c (c.Holds.filter (fun x=>!(x.ID==o.ID)))∧Frame b d
def zeo (c:Circ):Prop:=∀o∈c.Holds,o.State=3→∃(i:Nat) (x:Item),c.Items[i]?=some x∧x.ID=o.Got∧x.Custody.Branch=o.Pickup
theorem zmf {c d:Circ} (h:zeo c) (hf:Frame c d) (hH:∀o∈d.Holds,o.State=3→o∈c.Holds∨∃(i:Nat) (x:Item),c.Items[i]?=some x∧x.ID=o.Got∧x.Custody.Branch=o.Pickup):zeo d:=by
 intro o ho hs
 have:∃(i:Nat) (x:Item),c.Items[i]?=some x∧x.ID=o.Got∧x.Custody.Branch=o.Pickup:=by
  rcases hH o ho hs with h1|h1
  ·exact h o h1 hs
  ·exact h1
 obtain ⟨i,x,hx,h1,h2⟩:=this
 obtain ⟨y,hy,h3,h4⟩:=z77 hf hx
 exact ⟨i,y,hy,h3.trans h1,h4.trans h2⟩
theorem z5u {l m:List Hold} {v item st u:Int} (h:zez l v item st u=(m,0)):∀o∈m,o∈l∨∃x∈l,x.ID=v∧o=gotH x item st u:=by
 unfold zez at h
 rcases zbl (fun x:Hold=>x.ID==v) l with ⟨h1,h2⟩|⟨i,x,h1,h2,h3,h4⟩
 ·rw[h2]at h;cases h
 ·rw[h4]at h
  simp only at h
  cases hq:(!(rng 1 9999 item)||!(okS st u)) with
  |true=>rw[hq]at h;cases h
  |false=>
   rw[hq]at h
   simp only[cond_false]at h
   cases hq2:(!(x.State==1)&&((!(x.State==2)||!(x.Got==item))||!(st==3))) with
   |true=>rw[hq2]at h;cases h
   |false=>
    rw[hq2]at h
    simp only[cond_false]at h
    cases hq3:l.any (fun o=>o.Got==item&&!(o.ID==v)) with
    |true=>rw[hq3]at h;cases h
    |false=>
     rw[hq3]at h
     simp only[cond_false,h1,Int.toNat_natCast,Prod.mk.injEq,and_true]at h
     subst h
     intro o ho
     rcases List.mem_or_eq_of_mem_set ho with ho|ho
     ·exact .inl ho
     ·exact .inr ⟨x,List.mem_of_getElem? h2,by simpa using h3,ho⟩
theorem zaa1 {c d:Circ} {i:Nat} {x:Item} (hx:c.Items[i]?=some x) (hf:Frame c d) (hp:Put c d i x) (h:zeo c):zeo d:=by
 obtain ⟨-,v,-,hp⟩:=hp
 refine zmf h hf (fun o ho hs=>?_)
 rcases hp with ⟨-,hp⟩|⟨st,u,hp,hk⟩
 ·rw[hp]at ho;exact .inl ho
 ·rcases z5u hp o ho with h1|⟨y,hy,hv,rfl⟩
  ·exact .inl h1
  ·exact .inr ⟨i,x,hx,rfl,(hk hs y hy hv).symm⟩
theorem zi5 {c:Circ} (h:zeo c) (p:Hold→Bool):zeo (zay c (c.Holds.filter p)):=fun o ho hs=>h o (List.mem_filter.1 ho).1 hs
theorem zag6 {c:Circ} (h:MidP c) {o:Hold} (ho:o∈c.Holds) (hr:o.State=3→∃(i:Nat) (x:Item),c.Items[i]?=some x∧x.ID=o.Got∧x.Custody.Branch=o.Pickup) :
 SimD (qem o ⟨c,0⟩) (qfo c o.ID) (fun d=>MidP d∧za6t c d o∧(zeo c→zeo d)):=by
 have hn:=h.holdsN
 have dd:=ziu (c:=c) (id:=o.ID) (by omega) h.sorted
 have rc:=za44 (l:=c.Holds) (id:=o.ID) (by omega)
 rw[zkc h.sorted ho]at dd rc
 simp only[beq_self_eq_true,cond_true]at dd
 unfold qem qfo
 rw[rc]
 dsimp only
 simp only[beq_self_eq_true,Bool.not_true,cond_false]
 rw[show (⟨c.Today,c.Items,c.Patrons,c.Loans,c.Holds.filter (fun x=>!(x.ID==o.ID)),c.Charges,c.Rules,c.Cals,c.Moves,c.NextHold,c.NextCharge,c.Local⟩:Circ)=zay c (c.Holds.filter (fun x=>!(x.ID==o.ID))) from rfl]
 have mb:=z2i h (fun x=>!(x.ID==o.ID))
 by_cases hst:o.State=3
 ·have hst2:(o.State==3)=true:=by simpa using hst
  obtain ⟨i,x,hx,hid,hbr⟩:=hr hst
  have hf:fIdx (fun y=>y.ID==o.Got) c.Items=(i:Int):=by
   have:=zlp h hx
   rw[zaxt h.short.items,hid]at this
   simpa using this
  simp only[hst2,Bool.not_true,cond_false,zr4 h.short,hf,zp4,beq_self_eq_true,ziv hx]
  rw[←hid,←hbr]
  rcases zjx h hx 2 x.Custody.Branch 0 with ⟨u,ha,m1,m2,hm2⟩|⟨e,he,m1,m2⟩
  ·rcases zjx mb hx 2 x.Custody.Branch 0 with ⟨u2,ha2,-,q2,hq2⟩|⟨e,he,q1,q2⟩
   ·have eu:u2=u:=by
     have:=ha2.symm.trans (show za8 x.Custody ⟨(zay c (c.Holds.filter fun x=>!(x.ID==o.ID))).Today,x.ID,2,x.Custody.Branch,0⟩=_ from ha)
     cases this;rfl
    subst eu
    rw[m1,show qav _ x.ID 2 x.Custody.Branch 0=_ from q2]
    have dd2:=ziu (c:=zgq c i x ⟨c.Today,x.ID,2,x.Custody.Branch,0⟩ u2) (id:=o.ID) (by show c.Holds.length<_;omega) h.sorted
    rw[show zd5 (zgq c i x ⟨c.Today,x.ID,2,x.Custody.Branch,0⟩ u2).Holds o.ID=_ from zkc h.sorted ho]at dd2
    simp only[beq_self_eq_true,cond_true]at dd2
    dsimp only
    simp only[dd2,beq_self_eq_true,Bool.not_true,cond_false]
    rw[show zay (zgq c i x ⟨c.Today,x.ID,2,x.Custody.Branch,0⟩ u2) (c.Holds.filter (fun x=>!(x.ID==o.ID)))=zgq (zay c (c.Holds.filter (fun x=>!(x.ID==o.ID)))) i x ⟨(zay c (c.Holds.filter (fun x=>!(x.ID==o.ID)))).Today,x.ID,2,x.Custody.Branch,0⟩ u2 from rfl]
    rcases zrj hq2 (z00 (c:=zay c (c.Holds.filter fun x=>!(x.ID==o.ID))) hx ⟨(zay c (c.Holds.filter fun x=>!(x.ID==o.ID))).Today,x.ID,2,x.Custody.Branch,0⟩ u2) with ⟨d,a1,a2,⟨hd,hfr⟩,hput⟩|⟨d,e,he,a1,a2,hsd⟩
    ·rw[a1,show qex _ x.ID=_ from a2]
     have hfm:=zg2 (c:=zay c (c.Holds.filter fun x=>!(x.ID==o.ID))) hx ⟨(zay c (c.Holds.filter fun x=>!(x.ID==o.ID))).Today,x.ID,2,x.Custody.Branch,0⟩ (zgv ha2 rfl)
     exact .inl ⟨d,rfl,rfl,hd,⟨_,rfl,hfm.trans hfr⟩,fun hr=>zaa1 (z00 (c:=zay c (c.Holds.filter fun x=>!(x.ID==o.ID))) hx ⟨(zay c (c.Holds.filter fun x=>!(x.ID==o.ID))).Today,x.ID,2,x.Custody.Branch,0⟩ u2) hfr hput (zmf (zi5 hr _) hfm (fun o ho _=>.inl ho))⟩
    ·rw[a1,show qex _ x.ID=_ from a2]
     exact .inr ⟨d,e,he,rfl,rfl,hsd⟩
   ·exfalso
    have dm1:=zfx (kind:=2) (branch:=x.Custody.Branch) (who:=0) h.short (by have:=h.moves;omega) hx
    have dm2:=zfx (c:=zay c (c.Holds.filter fun x=>!(x.ID==o.ID))) (kind:=2) (branch:=x.Custody.Branch) (who:=0) mb.short (by have:=h.moves;show c.Moves.length<_;omega) hx
    rw[m1]at dm1
    rw[q1]at dm2
    cases hE:zf5 c (za8 x.Custody ⟨c.Today,x.ID,2,x.Custody.Branch,0⟩).2==0 with
    |true=>
     rw[show zf5 (zay c (c.Holds.filter fun x=>!(x.ID==o.ID))) (za8 x.Custody ⟨(zay c (c.Holds.filter fun x=>!(x.ID==o.ID))).Today,x.ID,2,x.Custody.Branch,0⟩).2=zf5 c (za8 x.Custody ⟨c.Today,x.ID,2,x.Custody.Branch,0⟩).2 from rfl,hE]at dm2
     simp only[cond_true,Option.some.injEq,Prod.mk.injEq,Circ_desk.mk.injEq]at dm2
     exact he dm2.2.2
    |false=>
     rw[hE]at dm1
     simp only[cond_false,Option.some.injEq,Prod.mk.injEq,Circ_desk.mk.injEq]at dm1
     have:(zf5 c (za8 x.Custody ⟨c.Today,x.ID,2,x.Custody.Branch,0⟩).2==0)=true:=by rw[←dm1.2.2];rfl
     rw[hE]at this
     cases this
  ·have he2:(e==0)=false:=by simpa using he
   have rm2:=zaan (c:=zay c (c.Holds.filter fun x=>!(x.ID==o.ID))) (kind:=2) (branch:=x.Custody.Branch) (who:=0) mb.short (by have:=h.moves;show c.Moves.length<_;omega) (zlp mb hx) hx rfl
   have rm1:=zaan (kind:=2) (branch:=x.Custody.Branch) (who:=0) h.short (by have:=h.moves;omega) (zlp h hx) hx rfl
   rw[m2]at rm1
   have e2:qav (zay c (c.Holds.filter fun x=>!(x.ID==o.ID))) x.ID 2 x.Custody.Branch 0=some (zbp,e):=by
    rw[rm2]
    cases hE:zf5 c (za8 x.Custody ⟨c.Today,x.ID,2,x.Custody.Branch,0⟩).2==0 with
    |true=>
     rw[hE]at rm1
     simp only[cond_true,Option.some.injEq,Prod.mk.injEq]at rm1
     exact absurd rm1.2 he
    |false=>
     rw[hE]at rm1
     simp only[cond_false,Option.some.injEq,Prod.mk.injEq]at rm1
     rw[show zf5 (zay c (c.Holds.filter fun x=>!(x.ID==o.ID))) (za8 x.Custody ⟨(zay c (c.Holds.filter fun x=>!(x.ID==o.ID))).Today,x.ID,2,x.Custody.Branch,0⟩).2=zf5 c (za8 x.Custody ⟨c.Today,x.ID,2,x.Custody.Branch,0⟩).2 from rfl,hE]
     simp only[cond_false]
     rw[←rm1.2]
   rw[m1,show qav _ x.ID 2 x.Custody.Branch 0=_ from e2]
   simp only[zhk _ _ _ he,zpz _ _ _ he,he2,Bool.not_false,cond_true]
   exact .inr ⟨c,e,he,rfl,rfl,h.short⟩
 ·have hst2:(o.State==3)=false:=by simpa using hst
  simp only[hst2,Bool.not_false,cond_true,dd]
  exact .inl ⟨_,rfl,rfl,mb,⟨_,rfl,Frame.refl _⟩,fun hr=>zi5 hr _⟩
theorem z2m {c:Circ} (h:FitP c) {o:Hold} (ho:o∈c.Holds) (hst:o.State=3):∃(i:Nat) (x:Item),c.Items[i]?=some x∧x.ID=o.Got∧x.Custody.Branch=o.Pickup:=by
 have hg:=h.holdG o ho
 unfold zgi at hg
 have h1:(o.State==1)=false:=by rw[hst];rfl
 have h3:(o.State==3)=true:=by rw[hst];rfl
 rw[h1,h3]at hg
 simp only[Bool.and_eq_true,Bool.false_or]at hg
 rcases zbl (fun x:Item=>x.ID==o.Got) c.Items with ⟨q1,q2⟩|⟨i,x,q1,q2,q3,q4⟩
 ·rw[q2]at hg;cases hg.2
 ·rw[q4]at hg
  simp only[Bool.true_and,Bool.and_eq_true,Bool.not_eq_true',Bool.or_eq_false_iff,Bool.not_eq_false',beq_iff_eq]at hg
  exact ⟨i,x,q2,by simpa using q3,hg.2.1.2.1.2⟩
end Go.Proofs.YtdahfgialanmpaaGreatDoor
namespace Go.Proofs.YtdahfgialanmpaaGreatDoor
open Ev
open Go (IntKind)
def za6r (c:Circ) (l:List Charge) (n:Int):Circ:=⟨c.Today,c.Items,c.Patrons,c.Loans,c.Holds,l,c.Rules,c.Cals,c.Moves,c.NextHold,n,c.Local⟩
end Go.Proofs.YtdahfgialanmpaaGreatDoor
namespace Go.Proofs.YtdahfgialanmpaaGreatDoor
open Ev
open Go (IntKind)
end Go.Proofs.YtdahfgialanmpaaGreatDoor
namespace Go.Proofs.YtdahfgialanmpaaGreatDoor
open Ev
open Go (IntKind)
end Go.Proofs.YtdahfgialanmpaaGreatDoor
namespace Go.Proofs.YtdahfgialanmpaaGreatDoor
open Ev
open Go (IntKind)
theorem zagk {c:Circ} (h:Short c) {l:List Charge} (hl:l.length<1000000000) (n:Int):Short (za6r c l n):=by
 obtain ⟨a1,a2,a3,a4,a5,a6,a7,a8,a9,a10,a11,a12,a13⟩:=h
 exact ⟨a1,a2,a3,a4,hl,a6,a7,a8,a9,a10,a11,a12,a13⟩
end Go.Proofs.YtdahfgialanmpaaGreatDoor
namespace Go.Proofs.YtdahfgialanmpaaGreatDoor
open Ev
open Go (IntKind)
end Go.Proofs.YtdahfgialanmpaaGreatDoor
namespace Go.Proofs.YtdahfgialanmpaaGreatDoor
open Ev
open Go (IntKind)
end Go.Proofs.YtdahfgialanmpaaGreatDoor
namespace Go.Proofs.YtdahfgialanmpaaGreatDoor
open Ev
open Go (IntKind)
def zgd {σ τ β:Type} (φ:σ→τ):Option (σ⊕β)→Option (τ⊕β)
 |some (.inl s)=>some (.inl (φ s))
 |some (.inr b)=>some (.inr b)
 |none=>none
theorem zfn {σ τ β:Type} (φ:σ→τ) (b:Bool) (x y:Option (σ⊕β)):zgd φ (bif b then x else y)=bif b then zgd φ x else zgd φ y:=by cases b<;>rfl
theorem zms {σ τ β:Type} (φ:σ→τ) (s:σ):zgd (β:=β) φ (some (.inl s))=some (.inl (φ s)):=rfl
theorem zmt {σ τ β:Type} (φ:σ→τ) (b:β):zgd φ (some (.inr b))=some (.inr b):=rfl
theorem zi8 {σ τ β:Type} (φ:σ→τ):zgd (β:=β) φ none=none:=rfl
theorem z8j {σ τ β:Type} {f:σ→Option (σ⊕β)} {g:τ→Option (τ⊕β)} (φ:σ→τ) (h:∀s,g (φ s)=zgd φ (f s)):∀(k:Nat) (s:σ),zau g k (φ s)=zau f k s:=by
 intro k
 induction k with
 |zero=>intro s;rfl
 |succ k ih=>
  intro s
  rw[zau,zau,h]
  cases hf:f s with
  |none=>rfl
  |some q=>
   cases q with
   |inl s'=>exact ih s'
   |inr b=>rfl
theorem zo4 {σ τ β:Type} {f:σ→Option (σ⊕β)} {g:τ→Option (τ⊕β)} (φ:σ→τ) (h:∀s,g (φ s)=zgd φ (f s)) (s:σ):zab g (φ s)=zab f s:=z8j φ h _ s
theorem zajn (l:List Charge) (p amount:Int):qb7 l p amount=qbk l p amount:=by
 have h:=zo4 (f:=z02) (g:=zi1) (fun s=>(s.2.1,s.2.2.1,s.1,(s.1.length:Int),s.2.2.2.1,s.2.2.2.2.1,())) (by
  rintro ⟨l,p,a,i,o,u⟩
  simp only[z02,zi1,zfn]
  cases getI l i with
  |none=>cases decide (i<(l.length:Int))<;>rfl
  |some x=>simp only[zfn,zms,zmt,zi8]) (l,p,amount,0,[],())
 unfold qb7 qbk
 rw[show zab zi1 (p,amount,l,(l.length:Int),0,([]:List Charge),())=_ from h]
theorem zajo (l:List Hold) (day:Int):qbv l day=qbt l day:=by
 have h:=zo4 (f:=z04) (g:=zhy) (fun s=>(s.2.1,s.1,(s.1.length:Int),s.2.2.1,s.2.2.2.1,())) (by
  rintro ⟨l,d,i,o,u⟩
  simp only[z04,zhy,zfn]
  cases getI l i with
  |none=>cases decide (i<(l.length:Int))<;>rfl
  |some x=>simp only[zfn,zms,zmt,zi8]) (l,day,0,[],())
 unfold qbv qbt
 rw[show zab zhy (day,l,(l.length:Int),0,([]:List Int),())=_ from h]
theorem zajl (p:Int):∀(l:List Charge) (r:Int),(payS p l r).1.length≤l.length:=by
 intro l
 induction l with
 |nil=>intro r;exact Nat.le_refl _
 |cons x l ih=>
  intro r
  unfold payS
  have h1:=ih r
  have h2:=ih (r-(if x.Amount-x.Paid<r then x.Amount-x.Paid else r))
  cases x.Patron==p with
  |true=>
   simp only[cond_true]
   cases decide (x.Paid+(if x.Amount-x.Paid<r then x.Amount-x.Paid else r)<x.Amount) with
   |true=>simp only[cond_true,List.length_cons];omega
   |false=>simp only[cond_false,List.length_cons];omega
  |false=>simp only[cond_false,List.length_cons];omega
theorem zaae {c:Circ} (hs:Short c) (h:FitP c) {p amount:Int}:zakc (qf8 c p amount) (qf9 c p amount):=by
 unfold qf8 qf9
 rw[zaos hs.patrons,zi3 hs.patrons,zajn]
 have hc:=z1z h.charges
 rw[za47 (by have:=hc.1;omega) hc.2]
 dsimp only
 cases (getP c.Patrons p).2 with
 |false=>exact zrd
 |true=>
  simp only[Bool.not_true,cond_false]
  cases (decide (amount<1)||decide (100000000<amount)) with
  |true=>exact zrd
  |false=>
   simp only[cond_false,beq_self_eq_true,Bool.not_true]
   have:=zajl p c.Charges amount
   exact ⟨_,_,_,rfl,rfl,zagk hs (l:=(payS p c.Charges amount).1) (by have:=hs.charges;omega) c.NextCharge⟩
end Go.Proofs.YtdahfgialanmpaaGreatDoor
namespace Go.Proofs.YtdahfgialanmpaaGreatDoor
open Ev
open Go (IntKind)
theorem za26 (d:Array Int) (hs:∀i j,i≤j→j<d.size→d[i]!≤d[j]!):∀m,m≤d.size→(Go.Lib.compactUpTo d m).Pairwise (fun a b=>a<b)∧(∀x,x∈Go.Lib.compactUpTo d m↔∃j,j<m∧d[j]! = x):=by
 intro m
 induction m with
 |zero=>intro _;simp[Go.Lib.compactUpTo]
 |succ m ih=>
  intro hm
  obtain ⟨h1,h2⟩:=ih (by omega)
  have e:Go.Lib.compactUpTo d (m+1)=Go.Lib.compactUpTo d m++(if Go.Lib.keeps d m=true then [d[m]!] else []):=by
   unfold Go.Lib.compactUpTo
   rw[List.range_succ,List.filter_append,List.map_append]
   congr 1
   simp only[List.filter_cons,List.filter_nil]
   split<;>rfl
  rw[e]
  by_cases hk:Go.Lib.keeps d m=true
  ·rw[if_pos hk]
   have hk2:m=0∨¬d[m]! = d[m-1]!:=by
    unfold Go.Lib.keeps at hk
    exact of_decide_eq_true hk
   have hlt:∀x∈Go.Lib.compactUpTo d m,x<d[m]!:=by
    intro x hx
    obtain ⟨j,hj,rfl⟩:=(h2 x).1 hx
    have a:=hs j (m-1) (by omega) (by omega)
    have b:=hs (m-1) m (by omega) (by omega)
    rcases hk2 with h|h
    ·omega
    ·omega
   constructor
   ·rw[List.pairwise_append]
    refine ⟨h1,by simp,fun a ha b hb=>?_⟩
    have:b=d[m]!:=by simpa using hb
    rw[this]
    exact hlt a ha
   ·intro x
    rw[List.mem_append,h2]
    constructor
    ·rintro (⟨j,hj,e⟩|hx)
     ·exact ⟨j,by omega,e⟩
     ·have:x=d[m]!:=by simpa using hx
      exact ⟨m,by omega,this.symm⟩
    ·rintro ⟨j,hj,e⟩
     by_cases hjm:j=m
     ·right
      rw[←e,hjm]
      simp
     ·left
      exact ⟨j,by omega,e⟩
  ·rw[if_neg hk,List.append_nil]
   have hk2:¬m=0∧d[m]! = d[m-1]!:=by
    unfold Go.Lib.keeps at hk
    have:=fun h=>hk (decide_eq_true h)
    constructor
    ·intro h;exact this (.inl h)
    ·by_cases q:d[m]! = d[m-1]!
     ·exact q
     ·exact absurd (.inr q) this
   refine ⟨h1,fun x=>?_⟩
   rw[h2]
   constructor
   ·rintro ⟨j,hj,e⟩
    exact ⟨j,by omega,e⟩
   ·rintro ⟨j,hj,e⟩
    by_cases hjm:j=m
    ·exact ⟨m-1,by omega,by rw[←e,hjm,hk2.2]⟩
    ·exact ⟨j,by omega,e⟩
theorem zagm (l:List Int):(Go.Lib.compact (l.mergeSort fun x y=>decide (x≤y))).Pairwise (fun a b=>a<b)∧∀x,x∈Go.Lib.compact (l.mergeSort fun x y=>decide (x≤y))↔x∈l:=by
 have hp:=List.pairwise_mergeSort (le:=fun x y:Int=>decide (x≤y)) (fun a b c h1 h2=>by simp only[decide_eq_true_eq]at *;omega) (fun a b=>by simp only[Bool.or_eq_true,decide_eq_true_eq];omega) l
 have hm:∀x,x∈(l.mergeSort fun x y=>decide (x≤y))↔x∈l:=fun x=>List.mem_mergeSort
 generalize (l.mergeSort fun x y=>decide (x≤y))=s at hp hm
 have hget:∀i (h:i<s.length),s.toArray[i]! = s[i]:=fun i h=>by simp[h]
 obtain ⟨h1,h2⟩:=za26 s.toArray (fun i j hij hj=>by
  have hj2:j<s.length:=by simpa using hj
  rw[hget i (by omega),hget j hj2]
  by_cases e:i=j
  ·subst e;exact Int.le_refl _
  ·have:=(List.pairwise_iff_getElem.1 hp) i j (by omega) hj2 (by omega)
   simpa using this) s.length (by simp)
 refine ⟨h1,fun x=>?_⟩
 unfold Go.Lib.compact
 rw[h2,←hm]
 constructor
 ·rintro ⟨j,hj,rfl⟩
  rw[hget j hj]
  exact List.getElem_mem hj
 ·intro hx
  obtain ⟨j,hj,e⟩:=List.getElem_of_mem hx
  exact ⟨j,hj,by rw[hget j hj,e]⟩
def expQ (day:Int) (o:Hold):Bool:=o.State==3&&decide (o.Until<day)
theorem zsa {X Y:Type} (q:X→Bool) (f:X→Y):∀(l:List X) (s:List Y),l.foldl (fun s x=>bif q x then s++[f x] else s) s=s++(l.filter q).map f:=by
 intro l
 induction l with
 |nil=>intro s;simp
 |cons x l ih=>
  intro s
  rw[List.foldl_cons,ih,List.filter_cons]
  cases q x<;>simp
theorem za5a {l:List Hold} {day:Int} (hl:l.length<1000000000):qbt l day=some ((l.filter (expQ day)).map (fun o=>o.ID)):=by
 have h:=zbk (step:=zhy) (fun (i:Nat) (s:List Int)=>s.length≤i) (fun i s=>(day,l,(l.length:Int),(i:Int),s,())) l
  (fun i x s=>.inl (bif expQ day x then s++[x.ID] else s)) (fun s=>(s,())) (by rw[zaz];omega)
  (fun s _=>by simp only[zhy,dge,cond_false])
  (fun i x s hx hi=>by
   have hlt:=(List.getElem?_eq_some_iff.1 hx).1
   have l1:∀z:Int,decide (s.length+([z]:List Int).length≤LIM)=true:=fun z=>zgt (by simp;omega)
   refine ⟨?_,fun s' hs'=>?_⟩
   ·simp -zeta only[zhy,dlt hlt,zai,hx,cond_true,zbc,l1,zam (show i<9223372036854775807 by omega)]
    unfold expQ
    cases (x.State==3&&decide (x.Until<day))<;>rfl
   ·cases hs'
    cases expQ day x<;>simp<;>omega) [] (by simp)
 rw[zdg,zsa,List.nil_append]at h
 unfold qbt
 rw[show zab zhy (day,l,(l.length:Int),0,([]:List Int),())=_ from h]
theorem zaon {c:Circ} (hs:Short c):qbu c=some (Go.Lib.compact (((c.Items.filter (fun x=>x.Custody.State==3)).map (fun x=>x.Record)).mergeSort fun x y=>decide (x≤y))):=by
 have hl:=hs.items
 have h:=zbk (step:=zou) (fun (i:Nat) (s:List Int)=>s.length≤i) (fun i s=>(c.Items,(c.Items.length:Int),(i:Int),s,())) c.Items
  (fun i x s=>.inl (bif x.Custody.State==3 then s++[x.Record] else s)) (fun s=>(s,())) (by rw[zaz];omega)
  (fun s _=>by simp only[zou,dge,cond_false])
  (fun i x s hx hi=>by
   have hlt:=(List.getElem?_eq_some_iff.1 hx).1
   have l1:∀z:Int,decide (s.length+([z]:List Int).length≤LIM)=true:=fun z=>zgt (by simp;omega)
   refine ⟨?_,fun s' hs'=>?_⟩
   ·simp only[zou,dlt hlt,zai,hx,cond_true,l1,zam (show i<9223372036854775807 by omega)]
    cases x.Custody.State==3<;>rfl
   ·cases hs'
    cases x.Custody.State==3<;>simp<;>omega) [] (by simp)
 rw[zdg,zsa (fun x:Item=>x.Custody.State==3),List.nil_append]at h
 have hf:=List.length_filter_le (fun x:Item=>x.Custody.State==3) c.Items
 have l1:decide (((c.Items.filter (fun x=>x.Custody.State==3)).map (fun x=>x.Record)).length≤LIM)=true:=by rw[decide_eq_true_eq,List.length_map];unfold LIM;omega
 have l2:decide ((((c.Items.filter (fun x=>x.Custody.State==3)).map (fun x=>x.Record)).mergeSort fun x y=>decide (x≤y)).length≤LIM)=true:=by rw[decide_eq_true_eq,List.length_mergeSort,List.length_map];unfold LIM;omega
 unfold qbu
 rw[show zab zou (c.Items,(c.Items.length:Int),0,([]:List Int),())=_ from h]
 simp only[qdg,qdy,l1,l2,cond_true]
theorem zp2 {c:Circ} {id e:Int} (hs:Short c) (he:e≠0):qc7 id ⟨c,e⟩=some (fIdx (fun x=>x.ID==id) c.Items,⟨c,e⟩):=by
 have he2:(e==0)=false:=by simpa using he
 unfold qc7
 simp only[zan5 hs.items]
 cases decide (fIdx (fun x:Item=>x.ID==id) c.Items<0) with
 |true=>simp only[cond_true,qu,he2,cond_false]
 |false=>rfl
theorem zp0 {c:Circ} (hs:Short c) (o:Hold) {e:Int} (he:e≠0):qem o ⟨c,e⟩=some ((),⟨c,e⟩):=by
 have he2:(e==0)=false:=by simpa using he
 unfold qem
 simp only[zhk c _ e he,zp2 hs he,he2,Bool.not_false,cond_true]
 cases !(o.State==3)<;>rfl
theorem zr2 {ids:List Int} {n:Nat} {v:Circ} {c:Circ} {e:Int} (hn:ids.length=n) (hl:n<1000000000) (hs:Short c) (he:e≠0):∀k i:Nat,i+k=n→zau zec (k+1) (ids,(n:Int),(i:Int),v,⟨c,e⟩,())=some (v,⟨c,e⟩,()):=by
 intro k
 induction k with
 |zero=>
  intro i hi
  have:i=n:=by omega
  subst this
  simp only[zau,zec,dge,cond_false]
 |succ k ih=>
  intro i hi
  have hlt:i<n:=by omega
  have hx:ids[i]?=some (ids[i]'(by omega)):=List.getElem?_eq_getElem (by omega)
  have hst:zec (ids,(n:Int),(i:Int),v,⟨c,e⟩,())=some (.inl (ids,(n:Int),((i+1:Nat):Int),v,⟨c,e⟩,())):=by
   simp only[zec,dlt hlt,cond_true,zai,hx,z05 hs.holds,zp0 hs _ he,zam (show i<9223372036854775807 by omega)]
   cases (getH c.Holds (ids[i]'(by omega))).2<;>rfl
  rw[zau,hst]
  exact ih (i+1) (by omega)
theorem zagr {ids:List Int} {n:Nat} {v:Circ} (hn:ids.length=n) (hl:n<1000000000) (hnd:ids.Nodup):∀(k i:Nat) (c:Circ),i+k=n→MidP c→zeo c→(∀id∈ids.drop i,∃o∈c.Holds,o.ID=id)→
 (∃d,zau zec (k+1) (ids,(n:Int),(i:Int),v,⟨c,0⟩,())=some (v,⟨d,0⟩,())∧zau zmd (k+1) (ids,(i:Int),c,v,())=some (.inl (d,v,()))∧MidP d∧d.Items.map (fun x=>x.Record)=c.Items.map (fun x=>x.Record))∨
 (∃d e,e≠0∧Short d∧zau zec (k+1) (ids,(n:Int),(i:Int),v,⟨c,0⟩,())=some (v,⟨d,e⟩,())∧zau zmd (k+1) (ids,(i:Int),c,v,())=some (.inr (e,zbp,()))):=by
 intro k
 induction k with
 |zero=>
  intro i c hi h hr hh
  have:i=n:=by omega
  subst this
  refine .inl ⟨c,?_,?_,h,rfl⟩
  ·simp only[zau,zec,dge,cond_false]
  ·simp only[zau,zmd,hn,dge,cond_false]
 |succ k ih=>
  intro i c hi h hr hh
  have hlt:i<n:=by omega
  have hdrop:ids.drop i=ids[i]'(by omega)::ids.drop (i+1):=List.drop_eq_getElem_cons (by omega)
  have hx:ids[i]?=some (ids[i]'(by omega)):=List.getElem?_eq_getElem (by omega)
  rw[hdrop]at hh
  have hnd2:(ids.drop i).Nodup:=List.Nodup.sublist (List.drop_sublist i ids) hnd
  rw[hdrop,List.nodup_cons]at hnd2
  generalize ids[i]'(by omega)=x at hx hh hnd2 hdrop
  obtain ⟨o,ho,hid⟩:=hh x (List.mem_cons_self ..)
  subst hid
  have hg:=zfj h.sorted ho
  have hsu:=zam (show i<9223372036854775807 by omega)
  rcases zag6 h ho (hr o ho) with ⟨d,a1,a2,hd,⟨b,rfl,hf⟩,hrd⟩|⟨d,e,he,a1,a2,hsd⟩
  ·have s1:zec (ids,(n:Int),(i:Int),v,⟨c,0⟩,())=some (.inl (ids,(n:Int),((i+1:Nat):Int),v,⟨d,0⟩,())):=by
    simp only[zec,dlt hlt,cond_true,zai,hx,z05 h.short.holds,hg,a1,hsu]
   have s2:zmd (ids,(i:Int),c,v,())=some (.inl (ids,((i+1:Nat):Int),d,v,())):=by
    simp only[zmd,hn,dlt hlt,cond_true,zai,hx,a2,beq_self_eq_true,Bool.not_true,cond_false,hsu]
   have hd2:∀id∈ids.drop (i+1),∃p∈d.Holds,p.ID=id:=by
    intro id hid
    obtain ⟨p,hp,e⟩:=hh id (List.mem_cons_of_mem _ hid)
    have hne:¬p.ID=o.ID:=by
     intro q
     rw[e]at q
     rw[q]at hid
     exact hnd2.1 hid
    have hp2:p∈c.Holds.filter (fun x=>!(x.ID==o.ID)):=List.mem_filter.2 ⟨hp,by simpa using hne⟩
    have hk:zb9 p∈d.Holds.map zb9:=by rw[hf.holds];exact List.mem_map_of_mem hp2
    obtain ⟨p',hp',e'⟩:=List.mem_map.1 hk
    unfold zb9 at e'
    simp only[Prod.mk.injEq]at e'
    exact ⟨p',hp',e'.1.trans e⟩
   rw[zau,zau,s1,s2]
   rcases ih (i+1) d (by omega) hd (hrd hr) hd2 with ⟨d2,b1,b2,b3,b4⟩|⟨d2,e,he,hsd,b1,b2⟩
   ·exact .inl ⟨d2,b1,b2,b3,b4.trans hf.recs⟩
   ·exact .inr ⟨d2,e,he,hsd,b1,b2⟩
  ·have he2:(e==0)=false:=by simpa using he
   have s1:zec (ids,(n:Int),(i:Int),v,⟨c,0⟩,())=some (.inl (ids,(n:Int),((i+1:Nat):Int),v,⟨d,e⟩,())):=by
    simp only[zec,dlt hlt,cond_true,zai,hx,z05 h.short.holds,hg,a1,hsu]
   have s2:zmd (ids,(i:Int),c,v,())=some (.inr (.inr (e,zbp,()))):=by
    simp only[zmd,hn,dlt hlt,cond_true,zai,hx,a2,he2,Bool.not_false,cond_false]
    try rfl
   rw[zau,zau,s1,s2]
   exact .inr ⟨d,e,he,hsd,zr2 hn hl hsd he k (i+1) (by omega),rfl⟩
def zlq (last:Int) (l:List Item) (r:Int):Int:=l.foldl (fun r x=>bif (x.Custody.State==3&&decide (last<x.Record))&&(r==0||decide (x.Record<r)) then x.Record else r) r
theorem zoc (last:Int):∀(l:List Item) (r:Int),(∀x∈l,1≤x.Record)→
 (zlq last l r=r∨∃x∈l,x.Custody.State=3∧last<x.Record∧zlq last l r=x.Record)∧(∀x∈l,x.Custody.State=3→last<x.Record→zlq last l r≠0∧zlq last l r≤x.Record)∧(r≠0→zlq last l r≠0∧zlq last l r≤r):=by
 intro l
 induction l with
 |nil=>intro r _;exact ⟨.inl rfl,by simp,fun h=>⟨h,Int.le_refl _⟩⟩
 |cons y l ih=>
  intro r hr
  have hy:=hr y (List.mem_cons_self ..)
  have ih:=fun r=>ih r (fun x hx=>hr x (List.mem_cons_of_mem _ hx))
  have e:zlq last (y::l) r=zlq last l (bif (y.Custody.State==3&&decide (last<y.Record))&&(r==0||decide (y.Record<r)) then y.Record else r):=rfl
  rw[e]
  cases hq:(y.Custody.State==3&&decide (last<y.Record))&&(r==0||decide (y.Record<r)) with
  |true=>
   simp only[cond_true]
   simp only[Bool.and_eq_true,Bool.or_eq_true,beq_iff_eq,decide_eq_true_eq]at hq
   obtain ⟨h1,h2,h3⟩:=ih y.Record
   have h3:=h3 (by omega)
   refine ⟨?_,?_,fun h=>⟨h3.1,by rcases hq.2 with q|q<;>omega⟩⟩
   ·rcases h1 with h1|⟨x,hx,a,b,c⟩
    ·exact .inr ⟨y,List.mem_cons_self ..,hq.1.1,hq.1.2,h1⟩
    ·exact .inr ⟨x,List.mem_cons_of_mem _ hx,a,b,c⟩
   ·intro x hx a b
    rcases List.mem_cons.1 hx with rfl|hx
    ·exact h3
    ·exact h2 x hx a b
  |false=>
   simp only[cond_false]
   obtain ⟨h1,h2,h3⟩:=ih r
   refine ⟨?_,?_,h3⟩
   ·rcases h1 with h1|⟨x,hx,a,b,c⟩
    ·exact .inl h1
    ·exact .inr ⟨x,List.mem_cons_of_mem _ hx,a,b,c⟩
   ·intro x hx a b
    rcases List.mem_cons.1 hx with rfl|hx
    ·have a2:(x.Custody.State==3)=true:=by simpa using a
     have b2:decide (last<x.Record)=true:=by simpa using b
     rw[a2,b2]at hq
     simp only[Bool.and_self,Bool.true_and,Bool.or_eq_false_iff,beq_eq_false_iff_ne,ne_eq,decide_eq_false_iff_not]at hq
     have h3:=h3 hq.1
     exact ⟨h3.1,by omega⟩
    ·exact h2 x hx a b
theorem zg0 {last:Int} {c v:Circ} (hl:c.Items.length<1000000000):zab zoy (last,0,0,c,v,())=some (zlq last c.Items 0,c,v,()):=by
 have h:=zxi (step:=zoy) (fun i (s:Int)=>(last,s,(i:Int),c,v,())) c.Items (fun x r=>bif (x.Custody.State==3&&decide (last<x.Record))&&(r==0||decide (x.Record<r)) then x.Record else r) (fun s=>(s,c,v,())) hl
  (fun s=>by simp only[zoy,dge,cond_false])
  (fun i x s hx=>by
   have hi:=(List.getElem?_eq_some_iff.1 hx).1
   simp only[zoy,dlt hi,cond_true,zai,hx,zam (show i<9223372036854775807 by omega)]
   cases x.Custody.State==3<;>cases decide (last<x.Record)<;>cases s==0<;>cases decide (x.Record<s)<;>rfl) 0
 exact h
theorem zyd {all:List Int} {n:Nat} {v:Circ} {c:Circ} {e:Int} (hn:all.length=n) (hl:n<1000000000) (he:e≠0):∀k i:Nat,i+k=n→zau zcj (k+1) (all,(n:Int),(i:Int),v,⟨c,e⟩,())=some (v,⟨c,e⟩,()):=by
 intro k
 induction k with
 |zero=>
  intro i hi
  have:i=n:=by omega
  subst this
  simp only[zau,zcj,dge,cond_false]
 |succ k ih=>
  intro i hi
  have hlt:i<n:=by omega
  have hx:all[i]?=some (all[i]'(by omega)):=List.getElem?_eq_getElem (by omega)
  have hst:zcj (all,(n:Int),(i:Int),v,⟨c,e⟩,())=some (.inl (all,(n:Int),((i+1:Nat):Int),v,⟨c,e⟩,())):=by
   simp only[zcj,dlt hlt,cond_true,zai,hx,zm5 c _ e he,zam (show i<9223372036854775807 by omega)]
  rw[zau,hst]
  exact ih (i+1) (by omega)
theorem day2 {all:List Int} {n:Nat} {v w:Circ} (hn:all.length=n) (hl:n<1000000000):∀(k i:Nat) (last:Int) (c:Circ),i+k=n→MidP c→(∀x∈c.Items,1≤x.Record)→
 (∀r,last<r→(r∈all.drop i↔∃x∈c.Items,x.Custody.State=3∧x.Record=r))→(∀r∈all.drop i,last<r)→(all.drop i).Pairwise (fun a b=>a<b)→
 (∃d,zau zcj (k+1) (all,(n:Int),(i:Int),v,⟨c,0⟩,())=some (v,⟨d,0⟩,())∧zau zf9 (k+1) (last,c,w,())=some (0,d,())∧MidP d)∨
 (∃d e,e≠0∧Short d∧zau zcj (k+1) (all,(n:Int),(i:Int),v,⟨c,0⟩,())=some (v,⟨d,e⟩,())∧zau zf9 (k+1) (last,c,w,())=some (e,zbp,())):=by
 intro k
 induction k with
 |zero=>
  intro i last c hi h hr hall hlast hp
  have:i=n:=by omega
  subst this
  have hnil:all.drop i=[]:=List.drop_eq_nil_of_le (by omega)
  obtain ⟨q1,q2,q3⟩:=zoc last c.Items 0 hr
  have h0:zlq last c.Items 0=0:=by
   rcases q1 with q1|⟨x,hx,a,b,-⟩
   ·exact q1
   ·have:=(hall x.Record b).2 ⟨x,hx,a,rfl⟩
    rw[hnil]at this
    cases this
  refine .inl ⟨c,?_,?_,h⟩
  ·simp only[zau,zcj,dge,cond_false]
  ·simp only[zau,zf9,zg0 h.short.items,h0,beq_self_eq_true,cond_true]
 |succ k ih=>
  intro i last c hi h hr hall hlast hp
  have hlt:i<n:=by omega
  have hdrop:all.drop i=all[i]'(by omega)::all.drop (i+1):=List.drop_eq_getElem_cons (by omega)
  have hx:all[i]?=some (all[i]'(by omega)):=List.getElem?_eq_getElem (by omega)
  rw[hdrop]at hall hlast hp
  generalize all[i]'(by omega)=r at hx hall hlast hp hdrop
  rw[List.pairwise_cons]at hp
  have hlr:=hlast r (List.mem_cons_self ..)
  obtain ⟨x0,hx0,s0,rfl⟩:=(hall r hlr).1 (List.mem_cons_self ..)
  obtain ⟨q1,q2,q3⟩:=zoc last c.Items 0 hr
  have hnext:zlq last c.Items 0=x0.Record:=by
   have a:=q2 x0 hx0 s0 hlr
   rcases q1 with q1|⟨y,hy,b1,b2,b3⟩
   ·exact absurd q1 a.1
   ·have:=(hall y.Record b2).2 ⟨y,hy,b1,rfl⟩
    rcases List.mem_cons.1 this with e|e
    ·rw[b3,e]
    ·have:=hp.1 _ e
     have:=a.2
     omega
  have hpos:=hr x0 hx0
  have hne:(x0.Record==0)=false:=by
   have:¬x0.Record=0:=by omega
   simpa using this
  have hsu:=zam (show i<9223372036854775807 by omega)
  rcases zadz h x0.Record with ⟨d,a1,a2,hd,hf,hrest⟩|⟨d,e,he,a1,a2,hsd⟩
  ·have s1:zcj (all,(n:Int),(i:Int),v,⟨c,0⟩,())=some (.inl (all,(n:Int),((i+1:Nat):Int),v,⟨d,0⟩,())):=by
    simp only[zcj,dlt hlt,cond_true,zai,hx,a1,hsu]
   have s2:zf9 (last,c,w,())=some (.inl (x0.Record,d,w,())):=by
    simp only[zf9,zg0 h.short.items,hnext,hne,cond_false,a2,beq_self_eq_true,Bool.not_true]
   rw[zau,zau,s1,s2]
   have back:∀(j:Nat) (y:Item),d.Items[j]?=some y→∃y',c.Items[j]?=some y'∧y'.Record=y.Record:=by
    intro j y hy
    have h1:(d.Items.map (fun x=>x.Record))[j]?=some y.Record:=by rw[List.getElem?_map,hy];rfl
    rw[hrest.1,List.getElem?_map]at h1
    cases hc:c.Items[j]? with
    |none=>rw[hc]at h1;cases h1
    |some y'=>rw[hc]at h1;exact ⟨y',rfl,by simpa using h1⟩
   have hr2:∀x∈d.Items,1≤x.Record:=by
    intro y hy
    obtain ⟨j,hj⟩:=List.getElem?_of_mem hy
    obtain ⟨y',hy',e⟩:=back j y hj
    rw[←e]
    exact hr y' (List.mem_of_getElem? hy')
   have hall2:∀r,x0.Record<r→(r∈all.drop (i+1)↔∃x∈d.Items,x.Custody.State=3∧x.Record=r):=by
    intro r hlr2
    constructor
    ·intro hm
     obtain ⟨y,hy,b1,b2⟩:=(hall r (by omega)).1 (List.mem_cons_of_mem _ hm)
     obtain ⟨j,hj⟩:=List.getElem?_of_mem hy
     exact ⟨y,List.mem_of_getElem? (hrest.2 j y hj (by omega)),b1,b2⟩
    ·rintro ⟨y,hy,b1,b2⟩
     obtain ⟨j,hj⟩:=List.getElem?_of_mem hy
     obtain ⟨y',hy',e⟩:=back j y hj
     have h3:=hrest.2 j y' hy' (by omega)
     rw[hj]at h3
     cases h3
     have:=(hall r (by omega)).2 ⟨y,List.mem_of_getElem? hy',b1,b2⟩
     rcases List.mem_cons.1 this with e2|e2
     ·omega
     ·exact e2
   rcases ih (i+1) x0.Record d (by omega) hd hr2 hall2 hp.1 hp.2 with ⟨d2,b1,b2,b3⟩|⟨d2,e,he,hsd,b1,b2⟩
   ·exact .inl ⟨d2,b1,b2,b3⟩
   ·exact .inr ⟨d2,e,he,hsd,b1,b2⟩
  ·have he2:(e==0)=false:=by simpa using he
   have s1:zcj (all,(n:Int),(i:Int),v,⟨c,0⟩,())=some (.inl (all,(n:Int),((i+1:Nat):Int),v,⟨d,e⟩,())):=by
    simp only[zcj,dlt hlt,cond_true,zai,hx,a1,hsu]
   have s2:zf9 (last,c,w,())=some (.inr (e,zbp,())):=by
    simp only[zf9,zg0 h.short.items,hnext,hne,cond_false,a2,he2,Bool.not_false,cond_true]
    try rfl
   rw[zau,zau,s1,s2]
   exact .inr ⟨d,e,he,hsd,zyd hn hl he k (i+1) (by omega),rfl⟩
def zef (c:Circ) (n:Int):Circ:=⟨n,c.Items,c.Patrons,c.Loans,c.Holds,c.Charges,c.Rules,c.Cals,c.Moves,c.NextHold,c.NextCharge,c.Local⟩
theorem zad6 {c:Circ} (h:MidP c) (n:Int):MidP (zef c n):=by
 obtain ⟨⟨a1,a2,a3,a4,a5,a6,a7,a8,a9,a10,a11,a12,a13⟩,h2,h3,h4,h5,h6,h7,h8,h9,h10,h11⟩:=h
 exact ⟨⟨a1,a2,a3,a4,a5,a6,a7,a8,a9,a10,a11,a12,a13⟩,h2,h3,h4,h5,h6,h7,h8,h9,h10,h11⟩
theorem zv5 {c:Circ} (h:FitP c) {x:Item} (hx:x∈c.Items):1≤x.Record:=by
 have h:=h.items
 unfold zix at h
 simp only[Bool.and_eq_true]at h
 obtain ⟨i,hi⟩:=List.getElem?_of_mem hx
 have:=(zj3.1 h.2.1) i x hi
 rw[Nat.zero_add]at this
 simp only[Bool.not_eq_true',Bool.or_eq_false_iff,Bool.not_eq_false']at this
 have h2:=this.1
 unfold zcy at h2
 simp only[Bool.and_eq_true,zcg]at h2
 omega
theorem zmg (d:Circ):(Go.Lib.compact (((d.Items.filter (fun x=>x.Custody.State==3)).map (fun x=>x.Record)).mergeSort fun x y=>decide (x≤y))).length≤d.Items.length:=by
 have q1:∀(l:List Int) (k:Nat),(Go.Lib.compactUpTo l.toArray k).length≤k:=by
  intro l k
  unfold Go.Lib.compactUpTo
  rw[List.length_map]
  have:=List.length_filter_le (Go.Lib.keeps l.toArray) (List.range k)
  rw[List.length_range]at this
  exact this
 have q2:=q1 (((d.Items.filter (fun x=>x.Custody.State==3)).map (fun x=>x.Record)).mergeSort fun x y=>decide (x≤y)) (((d.Items.filter (fun x=>x.Custody.State==3)).map (fun x=>x.Record)).mergeSort fun x y=>decide (x≤y)).length
 unfold Go.Lib.compact
 rw[List.length_mergeSort,List.length_map]at q2
 have:=List.length_filter_le (fun x:Item=>x.Custody.State==3) d.Items
 rw[List.length_mergeSort,List.length_map]
 omega
theorem z7s {c:Circ} (m:MidP c) (h:FitP c) (hh:c.Holds.length<100000) (hi:c.Items.length<100000) (hrec:∀x∈c.Items,1≤x.Record):zakb (qam c) (qq c):=by
 unfold qam qq
 simp only[zajo,qb9]
 cases decide (109572≤c.Today) with
 |true=>exact zh5
 |false=>
  simp only[cond_false,za5a m.short.holds]
  have m1:=zad6 m (wr .i64 (c.Today+1))
  have r1:zeo (zef c (wr .i64 (c.Today+1))):=fun o ho hs=>z2m h ho hs
  have hmem:∀id∈(c.Holds.filter (expQ (wr .i64 (c.Today+1)))).map (fun o=>o.ID),∃o∈(zef c (wr .i64 (c.Today+1))).Holds,o.ID=id:=by
   intro id hid
   obtain ⟨o,ho,e⟩:=List.mem_map.1 hid
   exact ⟨o,(List.mem_filter.1 ho).1,e⟩
  have hnd:((c.Holds.filter (expQ (wr .i64 (c.Today+1)))).map (fun o=>o.ID)).Nodup:=by
   have h1:=(zhc.1 m.sorted).filter (expQ (wr .i64 (c.Today+1)))
   rw[List.nodup_iff_pairwise_ne,List.pairwise_map]
   exact h1.imp (fun h=>by omega)
  have hlen:((c.Holds.filter (expQ (wr .i64 (c.Today+1)))).map (fun o=>o.ID)).length<1000000:=by
   rw[List.length_map]
   have:=List.length_filter_le (expQ (wr .i64 (c.Today+1))) c.Holds
   omega
  generalize (c.Holds.filter (expQ (wr .i64 (c.Today+1)))).map (fun o=>o.ID)=ids at hmem hnd hlen
  rw[show (⟨wr .i64 (c.Today+1),c.Items,c.Patrons,c.Loans,c.Holds,c.Charges,c.Rules,c.Cals,c.Moves,c.NextHold,c.NextCharge,c.Local⟩:Circ)=zef c (wr .i64 (c.Today+1)) from rfl]
  have hrec1:∀r∈(zef c (wr .i64 (c.Today+1))).Items.map (fun x=>x.Record),1≤r:=by
   intro r hr
   obtain ⟨x,hx,rfl⟩:=List.mem_map.1 hr
   exact hrec x hx
  have hil:(zef c (wr .i64 (c.Today+1))).Items.length<100000:=hi
  generalize zef c (wr .i64 (c.Today+1))=c1 at m1 r1 hmem hrec1 hil
  rcases zagr (v:=zbp) (n:=ids.length) rfl (by omega) hnd ids.length 0 c1 (by omega) m1 r1 (by rw[List.drop_zero];exact hmem) with ⟨d,a1,a2,hd,hrd⟩|⟨d,e,he,hsd,a1,a2⟩
  ·have w1:=zav _ (by rw[zaz];omega) a1
   have w2:=zav _ (by rw[zaz];omega) a2
   rw[show zab zec (ids,(ids.length:Int),0,(⟨0,[],[],[],[],[],[],⟨⟨0,[]⟩,⟨0,[]⟩,⟨0,[]⟩,⟨0,[]⟩⟩,[],0,0,false⟩:Circ),⟨c1,0⟩,())=_ from w1,
    show zab zmd (ids,0,c1,(⟨0,[],[],[],[],[],[],⟨⟨0,[]⟩,⟨0,[]⟩,⟨0,[]⟩,⟨0,[]⟩⟩,[],0,0,false⟩:Circ),())=_ from w2]
   simp only[zaon hd.short]
   have hcs:=zagm ((d.Items.filter (fun x=>x.Custody.State==3)).map (fun x=>x.Record))
   have hcl:=zmg d
   have hdi:=hd.short.items
   generalize Go.Lib.compact (((d.Items.filter (fun x=>x.Custody.State==3)).map (fun x=>x.Record)).mergeSort fun x y=>decide (x≤y))=all at hcs hcl
   have hrd2:∀x∈d.Items,1≤x.Record:=fun x hx=>hrec1 _ (by rw[←hrd];exact List.mem_map_of_mem hx)
   have hall:∀r,r∈all↔∃x∈d.Items,x.Custody.State=3∧x.Record=r:=by
    intro r
    rw[hcs.2,List.mem_map]
    constructor
    ·rintro ⟨x,hx,e⟩
     have:=List.mem_filter.1 hx
     exact ⟨x,this.1,by simpa using this.2,e⟩
    ·rintro ⟨x,hx,hs,e⟩
     exact ⟨x,List.mem_filter.2 ⟨hx,by simpa using hs⟩,e⟩
   rcases day2 (v:=zbp) (w:=zbp) (n:=all.length) rfl (by omega) all.length 0 0 d (by omega) hd hrd2 (fun r _=>by rw[List.drop_zero];exact hall r) (fun r hr=>by
    rw[List.drop_zero]at hr
    obtain ⟨x,hx,-,e⟩:=(hall r).1 hr
    have:=hrd2 x hx
    omega) (by rw[List.drop_zero];exact hcs.1) with ⟨d2,b1,b2,hd2⟩|⟨d2,e,he,hsd,b1,b2⟩
   ·have w1:=zav _ (by rw[zaz];omega) b1
    have w2:=zav _ (by rw[zaz];omega) b2
    rw[show zab zcj (all,(all.length:Int),0,zbp,⟨d,0⟩,())=_ from w1,show zab zf9 (0,d,zbp,())=_ from w2]
    exact ⟨d2,0,rfl,rfl,hd2.short⟩
   ·have w1:=zav _ (by rw[zaz];omega) b1
    have w2:=zav _ (by rw[zaz];omega) b2
    rw[show zab zcj (all,(all.length:Int),0,zbp,⟨d,0⟩,())=_ from w1,show zab zf9 (0,d,zbp,())=_ from w2]
    simp only[zhj d2 e he]
    exact zh5
  ·have w1:=zav _ (by rw[zaz];omega) a1
   have w2:=zav _ (by rw[zaz];omega) a2
   rw[show zab zec (ids,(ids.length:Int),0,(⟨0,[],[],[],[],[],[],⟨⟨0,[]⟩,⟨0,[]⟩,⟨0,[]⟩,⟨0,[]⟩⟩,[],0,0,false⟩:Circ),⟨c1,0⟩,())=_ from w1,
    show zab zmd (ids,0,c1,(⟨0,[],[],[],[],[],[],⟨⟨0,[]⟩,⟨0,[]⟩,⟨0,[]⟩,⟨0,[]⟩⟩,[],0,0,false⟩:Circ),())=_ from w2]
   simp only[zaon hsd]
   have hcl:=zmg d
   have hdi:=hsd.items
   generalize Go.Lib.compact (((d.Items.filter (fun x=>x.Custody.State==3)).map (fun x=>x.Record)).mergeSort fun x y=>decide (x≤y))=all at hcl
   have w3:=zav _ (by rw[zaz];omega) (zyd (all:=all) (v:=zbp) (c:=d) rfl (by omega) he all.length 0 (by omega))
   rw[show zab zcj (all,(all.length:Int),0,zbp,⟨d,e⟩,())=_ from w3]
   simp only[zhj d e he]
   exact zh5
theorem zqy (c:Circ) (patron amount:Int):qd4 c patron amount=some true:=by
 unfold qd4
 simp only[za5j,zaej]
 cases hb:zmr c&&zo0 c with
 |false=>rfl
 |true=>
  simp only[Bool.and_eq_true]at hb
  have hm:=zap7 hb.1
  have hf:=fitP hb.2
  have h:=zav1 hm hf
  obtain ⟨a,n,e,q1,q2,q3⟩:=zaae h.short hf (p:=patron) (amount:=amount)
  obtain ⟨a',e',p1,p2,p3⟩:=z7s h hf (by have:=hm.holds;omega) (by have:=hm.items;omega) (fun x hx=>zv5 hf hx)
  simp -zeta only[Bool.not_true,cond_false,q1,q2,p1,p2,zaaq q3,zaaq p3,zbc]
  simp
end Go.Proofs.YtdahfgialanmpaaGreatDoor
