/- CircLends: a part of the proof of the given statement, which is proved without conditions. -/
import Derived.Test.YtdahfgialanmpaaGreatDoorL6
set_option linter.all false
namespace Go.Proofs.YtdahfgialanmpaaGreatDoor
open Ev
open Go (IntKind)
def outL (l:List Loan) (n:Loan):List Loan×Int:=
 bif decide (0≤fIdx (fun x=>x.Item==n.Item) l) then ([],7)
 else bif !(zbn (insS (fun x=>decide (n.Item<x.Item)) n l)==0) then ([],zbn (insS (fun x=>decide (n.Item<x.Item)) n l)) else (insS (fun x=>decide (n.Item<x.Item)) n l,0)
theorem za1x {l:List Loan} {n:Loan} (hl:l.length<100000000):qbp l n=some (outL l n):=by
 have hl2:l.length<1000000000:=by omega
 have hi:(insS (fun x=>decide (n.Item<x.Item)) n l).length<1000000000:=by rw[zgq];omega
 unfold qbp qab outL
 dsimp only
 rw[zpj hl2]
 rcases za6 (fun x:Loan=>x.Item==n.Item) l with ⟨h1,h2⟩|⟨i,x,h1,h2,h3,h4⟩
 ·have hc:qdn l=some l:=by unfold qdn;rw[zit hl2];rfl
  have e:=zuy (p:=fun x:Loan=>decide (n.Item<x.Item)) (x:=n) hl2
  have hI:∀i:Int,qd5 l i [n]=zfy l i [n]:=fun _=>rfl
  have hf:qbl (fun (g:Unit×Loan×Unit) x0=>qcw x0 g.2.1) l ((),(n,()))=some (match l.find? (fun x=>decide (n.Item<x.Item)) with|some x=>(x,fIdx (fun x=>decide (n.Item<x.Item)) l)|none=>((⟨0,0,0,0,0,false⟩:Loan),-1)):=by
   unfold qbl
   rw[zalw (p:=fun (g:Unit×Loan×Unit) x0=>qcw x0 g.2.1) (g:=((),(n,()))) (fun x=>decide (n.Item<x.Item)) hl2 (fun x _=>rfl)]
   rcases za6 (fun x:Loan=>decide (n.Item<x.Item)) l with ⟨h1,h2⟩|⟨i,x,h1,h2,h3,h4⟩
   ·simp only[h1,h2,zg6,cond_true]
   ·simp only[h1,h4,zg5,cond_false,zah,h2]
  have d:decide ((0:Int)≤-1)=false:=rfl
  simp only[h1,h2,d,cond_false,hf,hc]
  rcases za6 (fun x:Loan=>decide (n.Item<x.Item)) l with ⟨g1,g2⟩|⟨i,x,g1,g2,g3,g4⟩
  ·rw[g1]at e
   simp only[zg6,cond_true]at e
   simp only[g2,zg6,cond_true,hI,e,zalk hi]
  ·rw[g1]at e
   simp only[zg5,cond_false]at e
   simp only[g4,g1,zg5,cond_false,hI,e,zalk hi]
 ·have d:decide ((0:Int)≤(i:Int))=true:=by rw[decide_eq_true_eq];omega
  simp only[h4,h1,d,cond_true]
theorem zo9 {X:Type} {p q:X→Bool}:∀{l:List X},(∀x∈l,p x=q x)→l.findIdx? p=l.findIdx? q:=by
 intro l
 induction l with
 |nil=>intros;rfl
 |cons x l ih=>
  intro h
  rw[List.findIdx?_cons,List.findIdx?_cons,h x (List.mem_cons_self ..),ih (fun y hy=>h y (List.mem_cons_of_mem _ hy))]
theorem z15 {l:List Loan} {n:Loan} (hl:l.length<1000000000):zad zkz (l,0,n,())=some (l,(match l.findIdx? (fun x=>!(decide (x.Item<n.Item))) with|some k=>(k:Int)|none=>(l.length:Int)),n,()):=by
 have h:=zbm (step:=zkz) (fun i=>(l,(i:Int),n,())) l (fun x=>!(decide (x.Item<n.Item))) (fun i _=>(l,(i:Int),n,())) (l,(l.length:Int),n,()) hl
  (by simp only[zkz,dge,cond_false])
  (fun i x hx=>by
   have hi:=(List.getElem?_eq_some_iff.1 hx).1
   simp only[zkz,dlt hi,zah,hx,cond_true,zam (show i<9223372036854775807 by omega)]
   cases decide (x.Item<n.Item)<;>rfl)
 rw[show zad zkz (l,0,n,())=_ from h]
 congr 1
 have key:∀(m:List Loan) (i:Nat) (d:Int),zeg (fun x:Loan=>!(decide (x.Item<n.Item))) (fun i _=>(l,(i:Int),n,())) (l,d,n,()) i m=(l,(match m.findIdx? (fun x=>!(decide (x.Item<n.Item))) with|some k=>((i+k:Nat):Int)|none=>d),n,()):=by
  intro m
  induction m with
  |nil=>intro i d;rfl
  |cons x m ih=>
   intro i d
   rw[List.findIdx?_cons]
   simp only[zeg]
   cases !(decide (x.Item<n.Item)) with
   |true=>rfl
   |false=>
    simp only[cond_false,Bool.false_eq_true,if_false]
    rw[ih]
    cases m.findIdx? (fun x=>!(decide (x.Item<n.Item))) with
    |none=>rfl
    |some k=>simp only[Option.map_some];rw[show i+1+k=i+(k+1) by omega]
 rw[key l 0]
 simp
theorem za1y {l:List Loan} {n:Loan} (hl:l.length<100000000):qbq l n=some (outL l n):=by
 have hl2:l.length<1000000000:=by omega
 have hi:(insS (fun x=>decide (n.Item<x.Item)) n l).length<1000000000:=by rw[zgq];omega
 unfold qbq outL
 rw[zak3 hl2]
 dsimp only
 rcases za6 (fun x:Loan=>x.Item==n.Item) l with ⟨h1,h2⟩|⟨i,x,h1,h2,h3,h4⟩
 ·have d:decide ((0:Int)≤-1)=false:=rfl
  have ec:l.findIdx? (fun x=>!(decide (x.Item<n.Item)))=l.findIdx? (fun x=>decide (n.Item<x.Item)):=zo9 (fun x hx=>by
   have hne:¬x.Item=n.Item:=by
    rw[List.find?_eq_none]at h2
    have:=h2 x hx
    simpa using this
   rw[Bool.eq_iff_iff]
   simp
   omega)
  simp only[h1,d,cond_false,z15 hl2,ec]
  have fin:∀k:Nat,k≤l.length→insS (fun x=>decide (n.Item<x.Item)) n l=l.take k++n::l.drop k→
   (bif decide (0≤(0:Int))&&(decide ((0:Int)≤(k:Int))&&decide ((k:Int)≤(l.length:Int))) then
    bif decide (([]:List Loan).length+((l.take (k:Int).toNat).drop (0:Int).toNat).length≤LIM) then
    bif decide ((([])++((l.take (k:Int).toNat).drop (0:Int).toNat)).length+([n]:List Loan).length≤LIM) then
    bif decide (0≤(k:Int))&&(decide ((k:Int)≤(l.length:Int))&&decide ((l.length:Int)≤(l.length:Int))) then
    bif decide (((([])++((l.take (k:Int).toNat).drop (0:Int).toNat))++([n]:List Loan)).length+((l.take (l.length:Int).toNat).drop (k:Int).toNat).length≤LIM) then
    (match qfb (((([])++((l.take (k:Int).toNat).drop (0:Int).toNat))++([n]:List Loan))++((l.take (l.length:Int).toNat).drop (k:Int).toNat)) with
    |some (r6,r7)=>some (r6,r7)
    |none=>none)
    else none
    else none
    else none
    else none
    else none)=some (bif !(zbn (insS (fun x=>decide (n.Item<x.Item)) n l)==0) then ([],zbn (insS (fun x=>decide (n.Item<x.Item)) n l)) else (insS (fun x=>decide (n.Item<x.Item)) n l,0)):=by
   intro k hk e
   have d1:decide ((0:Int)≤(k:Int))=true:=by rw[decide_eq_true_eq];omega
   have d2:decide ((k:Int)≤(l.length:Int))=true:=by rw[decide_eq_true_eq];omega
   have t1:decide (([]:List Loan).length+(l.take k).length≤LIM)=true:=zfn (by simp;omega)
   have t2:decide ((l.take k).length+([n]:List Loan).length≤LIM)=true:=zfn (by simp;omega)
   have t3:decide ((l.take k++[n]).length+(l.drop k).length≤LIM)=true:=zfn (by simp;omega)
   have e2:(l.take k++[n])++l.drop k=insS (fun x=>decide (n.Item<x.Item)) n l:=by rw[e];simp
   simp only[d1,d2,Int.toNat_natCast,Int.toNat_zero,List.drop_zero,List.nil_append,List.take_length,t1,t2,t3,Int.le_refl,decide_true,Bool.and_self,cond_true,e2,za2g hi]
  cases hx:l.findIdx? (fun x=>decide (n.Item<x.Item)) with
  |none=>exact fin l.length (Nat.le_refl _) (by rw[zre hx];simp)
  |some k=>
   obtain ⟨e1,e2⟩:=zrf (x:=n) hx
   exact fin k e2 e1
 ·have d:decide ((0:Int)≤(i:Int))=true:=by rw[decide_eq_true_eq];omega
  simp only[h1,d,cond_true]
end Go.Proofs.YtdahfgialanmpaaGreatDoor
namespace Go.Proofs.YtdahfgialanmpaaGreatDoor
open Ev
open Go (IntKind)
def zcw (l:List Hold) (id:Int):List Hold×Hold×Int:=
 match l.find? (fun h=>h.ID==id) with|some h=>(l.filter (fun x=>!(x.ID==id)),h,0)|none=>([],zhi,9)
theorem z0k {l:List Hold} (hsort:∀i x,l[i]?=some x→zb5 l i (fun y=>decide (x.ID≤y.ID))=false) {i:Nat} {x:Hold} (hx:l[i]?=some x):l.take i++l.drop (i+1)=l.filter (fun y=>!(y.ID==x.ID)):=by
 have hlt:=(List.getElem?_eq_some_iff.1 hx).1
 have e:l=l.take i++x::l.drop (i+1):=by
  have h2:l[i]=x:=(List.getElem?_eq_some_iff.1 hx).2
  rw[←h2,←List.drop_eq_getElem_cons hlt,List.take_append_drop]
 have hA:(l.take i).filter (fun y=>!(y.ID==x.ID))=l.take i:=by
  rw[List.filter_eq_self]
  intro y hy
  obtain ⟨j,hj⟩:=List.getElem?_of_mem hy
  have hj2:=(List.getElem?_eq_some_iff.1 hj).1
  rw[List.length_take]at hj2
  rw[List.getElem?_take_of_lt (by omega)]at hj
  have:=zf9 (key:=fun y:Hold=>y.ID) hsort i j y x (by omega) hj hx
  have hne:¬y.ID=x.ID:=by omega
  simpa using hne
 have hB:(l.drop (i+1)).filter (fun y=>!(y.ID==x.ID))=l.drop (i+1):=by
  rw[List.filter_eq_self]
  intro y hy
  obtain ⟨j,hj⟩:=List.getElem?_of_mem hy
  rw[List.getElem?_drop]at hj
  have:=zf9 (key:=fun y:Hold=>y.ID) hsort (i+1+j) i x y (by omega) hx hj
  have hne:¬y.ID=x.ID:=by omega
  simpa using hne
 conv=>rhs;rw[e]
 rw[List.filter_append,hA,List.filter_cons,hB]
 simp
theorem za2c {l:List Hold} {id:Int} (hl:l.length<100000000) (hsort:∀i x,l[i]?=some x→zb5 l i (fun y=>decide (x.ID≤y.ID))=false):qeg l id=some (zcw l id):=by
 have hl2:l.length<1000000000:=by omega
 unfold qeg qa8 zcw
 rw[zzk (p:=fun (g:Unit×Int×Unit) x0=>qef x0 g.2.1) (g:=((),(id,()))) (fun x=>x.ID==id) hl2 (fun x _=>rfl)]
 dsimp only
 rcases za6 (fun x:Hold=>x.ID==id) l with ⟨h1,h2⟩|⟨i,x,h1,h2,h3,h4⟩
 ·simp only[h1,h2,zg6,cond_true]
  try rfl
 ·have hlt:=(List.getElem?_eq_some_iff.1 h2).1
  have hc:qdo l=some l:=by unfold qdo;rw[zit hl2];rfl
  have hid:x.ID=id:=by simpa using h3
  have hd:qd8 l (i:Int) ((i+1:Nat):Int)=some (l.take i++l.drop (i+1)):=by
   show zhv l (i:Int) ((i+1:Nat):Int)=_
   unfold zhv
   have d1:decide ((0:Int)≤(i:Int))=true:=by rw[decide_eq_true_eq];omega
   have d2:decide ((i:Int)≤((i+1:Nat):Int))=true:=by rw[decide_eq_true_eq];omega
   have d3:decide (((i+1:Nat):Int)≤(l.length:Int))=true:=by rw[decide_eq_true_eq];omega
   have d4:decide (l.length≤1073741824)=true:=by rw[decide_eq_true_eq];omega
   simp only[d1,d2,d3,d4,Bool.and_self,cond_true,Int.toNat_natCast]
  simp only[h4,h1,zg5,cond_false,hc,zam (show i<9223372036854775807 by omega),hd,zah,h2]
  rw[z0k hsort h2,hid]
theorem za1v {l:List Hold} {id:Int} (hl:l.length<100000000):qbn l id=some (zcw l id):=by
 have hl2:l.length<1000000000:=by omega
 unfold qbn zcw
 rw[z8o hl2]
 unfold getH
 cases hf:l.find? (fun h=>h.ID==id) with
 |none=>rfl
 |some h=>
  have hw:=zbc (step:=zns) (fun (i:Nat) (s:List Hold)=>s.length≤i) (fun i s=>(l,id,(i:Int),zhi,h,s,())) l
   (fun i y s=>.inl (bif !(y.ID==id) then s++[y] else s)) (fun s=>(zhi,h,s,())) (by rw[za2];omega)
   (fun s _=>by simp only[zns,dge,cond_false])
   (fun i y s hx hi=>by
    have hlt:=(List.getElem?_eq_some_iff.1 hx).1
    have l1:decide (s.length+([y]:List Hold).length≤LIM)=true:=zfn (by simp;omega)
    refine ⟨?_,fun s' hs'=>?_⟩
    ·simp only[zns,dlt hlt,zah,hx,cond_true,l1,zam (show i<9223372036854775807 by omega)]
     cases !(y.ID==id)<;>rfl
    ·cases hs'
     cases !(y.ID==id)<;>simp<;>omega) [] (by simp)
  rw[zcu]at hw
  simp only[Bool.not_true,cond_false]
  rw[show zad zns (l,id,0,(⟨0,0,0,0,0,0,0,0,0,0,0⟩:Hold),h,([]:List Hold),())=_ from hw,zec]
  try rfl
def zdr (c:Circ) (l:List Hold):Circ:=⟨c.Today,c.Items,c.Patrons,c.Loans,l,c.Charges,c.Rules,c.Cals,c.Moves,c.NextHold,c.NextCharge,c.Local⟩
theorem zov (c:Circ) (l:List Hold):qcp l 0 ⟨c,0⟩=some ((),⟨zdr c l,0⟩):=rfl
theorem zl3 (c:Circ) (l:List Hold) (e:Int) (he:e≠0):qcp l e ⟨c,0⟩=some ((),⟨zdr c c.Holds,e⟩):=by
 have h:(e==0)=false:=by simpa using he
 unfold qcp qt
 simp only[h,Bool.not_false,cond_true,beq_self_eq_true,cond_false]
 try rfl
end Go.Proofs.YtdahfgialanmpaaGreatDoor
namespace Go.Proofs.YtdahfgialanmpaaGreatDoor
open Ev
open Go (IntKind)
def zmj {X:Type} (i:Int) (upd:X→X):Nat→List X→List X
 |_,[]=>[]
 |k,x::l=>(bif (k:Int)==i then upd x else x)::zmj i upd (k+1) l
theorem z2u {X:Type} {i:Nat} {upd:X→X}:∀{l:List X} {k:Nat},i<k→zmj (i:Int) upd k l=l:=by
 intro l
 induction l with
 |nil=>intros;rfl
 |cons x l ih=>
  intro k h
  have:((k:Int)==(i:Int))=false:=by
   have hne:¬(k:Int)=(i:Int):=by omega
   simpa using hne
  simp only[zmj,this,cond_false]
  rw[ih (by omega)]
theorem zabs {X:Type} {upd:X→X} {x:X}:∀{l:List X} {k j:Nat},l[j]?=some x→zmj ((k+j:Nat):Int) upd k l=l.set j (upd x):=by
 intro l
 induction l with
 |nil=>intro k j h;simp at h
 |cons y l ih=>
  intro k j h
  cases j with
  |zero=>
   simp at h
   subst h
   have:((k:Int)==((k+0:Nat):Int))=true:=by simp
   simp only[zmj,this,cond_true,List.set_cons_zero]
   rw[z2u (by omega)]
  |succ j=>
   have hne:((k:Int)==((k+(j+1):Nat):Int))=false:=by
    have:¬(k:Int)=((k+(j+1):Nat):Int):=by omega
    simpa using this
   simp only[zmj,hne,cond_false,List.set_cons_succ]
   have:=ih (k:=k+1) (j:=j) (by simpa using h)
   rw[show k+1+j=k+(j+1) by omega]at this
   rw[this]
theorem z89 {X β:Type} {i:Int} {upd:X→X} {g:List X→β}:∀{l:List X} {k:Nat} {s:List X},zcz (fun (k:Nat) x (s:List X)=>.inl (s++[bif (k:Int)==i then upd x else x])) g k l s=g (s++zmj i upd k l):=by
 intro l
 induction l with
 |nil=>intro k s;simp[zcz,zmj]
 |cons x l ih=>intro k s;simp only[zcz,zmj];rw[ih];simp
def zahf (u:Custody) (x:Item):Item:=⟨x.ID,x.Record,x.Branch,x.Kind,x.Price,x.Call,u⟩
def zago (c:Circ) (i:Nat) (x:Item) (m:Move) (u:Custody):Circ:=⟨c.Today,c.Items.set i (zahf u x),c.Patrons,c.Loans,c.Holds,c.Charges,c.Rules,c.Cals,c.Moves++[m],c.NextHold,c.NextCharge,c.Local⟩
def zu7 (c:Circ) (e:Int):Int:=bif e==0&&decide (2000≤(c.Moves.length:Int)) then 13 else e
theorem zq4 {c:Circ} {i:Nat} {x:Item} {kind branch who:Int} (hs:Short c) (hm:c.Moves.length<100000000) (hx:c.Items[i]?=some x) :
 qbj (i:Int) kind branch who ⟨c,0⟩=some ((),bif zu7 c (zbo x.Custody ⟨c.Today,x.ID,kind,branch,who⟩).2==0 then ⟨zago c i x ⟨c.Today,x.ID,kind,branch,who⟩ (zbo x.Custody ⟨c.Today,x.ID,kind,branch,who⟩).1,0⟩ else ⟨c,zu7 c (zbo x.Custody ⟨c.Today,x.ID,kind,branch,who⟩).2⟩):=by
 have hc1:qcs c.Items=some c.Items:=by unfold qcs;rw[zit hs.items];rfl
 have hc2:qdm c.Moves=some c.Moves:=by unfold qdm;rw[zit hs.moves];rfl
 have l1:decide (c.Moves.length+([(⟨c.Today,x.ID,kind,branch,who⟩:Move)]:List Move).length≤LIM)=true:=zfn (by simp;omega)
 unfold qbj zu7
 simp -zeta only[beq_self_eq_true,Bool.not_true,cond_false,zah,hx,za2b,za7]
 generalize zbo x.Custody ⟨c.Today,x.ID,kind,branch,who⟩=q
 obtain ⟨u,e⟩:=q
 dsimp only
 cases hb:(e==0&&decide (2000≤(c.Moves.length:Int))) with
 |true=>
  simp only[cond_true,qt,beq_self_eq_true]
  try rfl
 |false=>
  simp only[cond_false]
  cases he:e==0 with
  |true=>
   have:e=0:=by simpa using he
   subst this
   simp only[Bool.not_true,cond_false,cond_true,hc1,hc2,zah,hx,Int.toNat_natCast,l1]
   try rfl
  |false=>
   simp only[Bool.not_false,cond_true,cond_false,qt,beq_self_eq_true]
theorem zvd {c:Circ} {i:Nat} {m:Move} {u:Custody} (hs:Short c):zad zgv ((i:Int),0,c,zeo,m,u,[],())=some (c,zeo,m,zmj (i:Int) (zahf u) 0 c.Items,()):=by
 have h:=zbc (step:=zgv) (fun (k:Nat) (s:List Item)=>s.length≤k) (fun k s=>((i:Int),(k:Int),c,zeo,m,u,s,())) c.Items
  (fun k x s=>.inl (s++[bif (k:Int)==(i:Int) then zahf u x else x])) (fun s=>(c,zeo,m,s,())) (by rw[za2];have:=hs.items;omega)
  (fun s _=>by simp only[zgv,dge,cond_false])
  (fun k x s hx hi=>by
   have hlt:=(List.getElem?_eq_some_iff.1 hx).1
   have:=hs.items
   have l1:∀y:Item,decide (s.length+([y]:List Item).length≤LIM)=true:=fun y=>zfn (by simp;omega)
   refine ⟨?_,fun s' hs'=>?_⟩
   ·simp only[zgv,dlt hlt,zah,hx,cond_true,l1,zam (show k<9223372036854775807 by omega)]
    cases (k:Int)==(i:Int)<;>rfl
   ·cases hs'
    simp
    omega) [] (by simp)
 rw[z89]at h
 exact h
theorem za1w {c:Circ} {item:Int} {i:Nat} {x:Item} {kind branch who:Int} (hs:Short c) (hm:c.Moves.length<100000000) (hat:qk c item=some (i:Int)) (hx:c.Items[i]?=some x) (hid:x.ID=item) :
 qbo c item kind branch who=some (bif zu7 c (zbo x.Custody ⟨c.Today,x.ID,kind,branch,who⟩).2==0 then (zago c i x ⟨c.Today,x.ID,kind,branch,who⟩ (zbo x.Custody ⟨c.Today,x.ID,kind,branch,who⟩).1,0) else (zeo,zu7 c (zbo x.Custody ⟨c.Today,x.ID,kind,branch,who⟩).2)):=by
 subst hid
 unfold qbo zu7
 rw[hat]
 simp only[zah,hx,zall]
 generalize zbo x.Custody ⟨c.Today,x.ID,kind,branch,who⟩=q
 obtain ⟨u,e⟩:=q
 simp only
 cases he:e==0 with
 |false=>simp only[Bool.not_false,cond_true,Bool.false_and,cond_false,he];rfl
 |true=>
  have:e=0:=by simpa using he
  subst this
  simp only[Bool.not_true,cond_false,Bool.true_and]
  cases decide (2000≤(c.Moves.length:Int)) with
  |true=>rfl
  |false=>
   have hw:=zvd (i:=i) (m:=⟨c.Today,x.ID,kind,branch,who⟩) (u:=u) hs
   have l1:decide (c.Moves.length≤LIM)=true:=by rw[decide_eq_true_eq];unfold LIM;omega
   have l2:decide (c.Moves.length+([(⟨c.Today,x.ID,kind,branch,who⟩:Move)]:List Move).length≤LIM)=true:=zfn (by simp;omega)
   have es:=zabs (upd:=zahf u) (l:=c.Items) (k:=0) (j:=i) hx
   rw[Nat.zero_add]at es
   rw[es]at hw
   simp only[cond_false]
   rw[show zad zgv ((i:Int),0,c,(⟨0,[],[],[],[],[],[],⟨⟨0,[]⟩,⟨0,[]⟩,⟨0,[]⟩,⟨0,[]⟩⟩,[],0,0,false⟩:Circ),(⟨c.Today,x.ID,kind,branch,who⟩:Move),u,([]:List Item),())=_ from hw]
   simp only[l1,l2,cond_true]
   try rfl
end Go.Proofs.YtdahfgialanmpaaGreatDoor
namespace Go.Proofs.YtdahfgialanmpaaGreatDoor
open Ev
open Go (IntKind)
theorem za1o {l:List Loan} {p:Int} (hl:l.length<1000000000):qb3 l p=some (l.filter (fun x=>x.Patron==p)):=by
 have h:=zbc (step:=znq) (fun (i:Nat) (s:List Loan)=>s.length≤i) (fun i s=>(l,p,(i:Int),s,())) l
  (fun i y s=>.inl (bif y.Patron==p then s++[y] else s)) (fun s=>(s,())) (by rw[za2];omega)
  (fun s _=>by simp only[znq,dge,cond_false])
  (fun i y s hx hi=>by
   have hlt:=(List.getElem?_eq_some_iff.1 hx).1
   have l1:decide (s.length+([y]:List Loan).length≤LIM)=true:=zfn (by simp;omega)
   refine ⟨?_,fun s' hs'=>?_⟩
   ·simp only[znq,dlt hlt,zah,hx,cond_true,l1,zam (show i<9223372036854775807 by omega)]
    cases y.Patron==p<;>rfl
   ·cases hs'
    cases y.Patron==p<;>simp<;>omega) [] (by simp)
 rw[zcu]at h
 unfold qb3
 rw[show zad znq (l,p,0,[],())=_ from h,zec,List.nil_append]
theorem z8g {branch:Int} {vlocal:Bool} {x:Item}:∀{q:List Hold} {f:Int},zf3 branch vlocal x q f=f∨∃h∈q,zf3 branch vlocal x q f=h.ID:=by
 intro q
 induction q with
 |nil=>intro f;exact .inl rfl
 |cons h q ih=>
  intro f
  have lift:∀g:Int,(zf3 branch vlocal x q g=g∨∃o∈q,zf3 branch vlocal x q g=o.ID)→(g=f∨g=h.ID)→(zf3 branch vlocal x q g=f∨∃o∈h::q,zf3 branch vlocal x q g=o.ID):=by
   intro g hg hgf
   rcases hg with hg|⟨o,ho,hg⟩
   ·rcases hgf with e|e
    ·exact .inl (by rw[hg,e])
    ·exact .inr ⟨h,List.mem_cons_self ..,by rw[hg,e]⟩
   ·exact .inr ⟨o,List.mem_cons_of_mem _ ho,hg⟩
  simp only[zf3,zs9]
  cases (!(h.Item==0)&&!(h.Item==x.ID)) with
  |true=>exact lift f ih (.inl rfl)
  |false=>
   cases (vlocal&&h.Pickup==branch) with
   |true=>exact .inr ⟨h,List.mem_cons_self ..,rfl⟩
   |false=>
    cases f==0 with
    |true=>exact lift h.ID ih (.inr rfl)
    |false=>exact lift f ih (.inl rfl)
theorem z55 {c:Circ} (h:FitP c) {x:Item} {branch day:Int} {vlocal:Bool} {v:Int} (hv:v=zf3 branch vlocal x (za5 (c.Holds.filter (zcj x.Record day))) 0):(getH c.Holds v).2=!(v==0):=by
 rcases z8g (branch:=branch) (vlocal:=vlocal) (x:=x) (q:=za5 (c.Holds.filter (zcj x.Record day))) (f:=0) with e|⟨o,ho,e⟩
 ·rw[e]at hv
  subst hv
  unfold getH
  have:c.Holds.find? (fun h=>h.ID==0)=none:=by
   rw[List.find?_eq_none]
   intro o ho
   have:=(zge h ho).2
   simpa using this
  rw[this]
  try rfl
 ·rw[e]at hv
  subst hv
  have hm:=(List.mem_filter.1 (zhq ho)).1
  rw[zxe (zem h.holds) hm]
  have:=(zge h hm).2
  simp[this]
end Go.Proofs.YtdahfgialanmpaaGreatDoor
namespace Go.Proofs.YtdahfgialanmpaaGreatDoor
open Ev
open Go (IntKind)
theorem zpu {c:Circ} (hm:SmallP c) (h:FitP c) {item patron branch:Int} {i:Nat} {x:Item} {p:Patron} (hat:qk c item=some (i:Int)) (hx:c.Items[i]?=some x) (hp:getP c.Patrons patron=(p,true)) :
 ∃a b,qes c x p branch=some (a,b)∧qfa c item patron branch=some (a,b):=by
 have hs:=hm.short
 have hxm:=List.mem_of_getElem? hx
 have hpi:=(zaej hp).2
 have hb:=z0w h hxm
 have hpk:=zali (l:=c.Holds) (x:=x) (branch:=x.Custody.Branch) (day:=c.Today) (vlocal:=c.Local) (by have:=hm.holds;omega) (zem h.holds)
 have hpk2:=zaua (x:=x) (branch:=x.Custody.Branch) (day:=c.Today) (vlocal:=c.Local) hm h
 rw[hpk]at hpk2
 have hget:=z55 h (x:=x) (branch:=x.Custody.Branch) (day:=c.Today) (vlocal:=c.Local) rfl
 generalize zf3 x.Custody.Branch c.Local x (za5 (c.Holds.filter (zcj x.Record c.Today))) 0=v at hpk hpk2 hget
 have e1:qdj c x=some v:=by unfold qdj;rw[hpk2]
 have e2:qf0 c item=some v:=by unfold qf0;rw[hat];simp only[zah,hx,hpk]
 obtain ⟨r,b,hr,hrm⟩:=zauk (p:=patron) (x:=x) hs
 unfold qes qfa
 rw[hat]
 simp -zeta only[zf5 hs.patrons,hp,zah,hx,e1,e2,za13 hs.holds,z8o hs.holds,za15 hs h.charges,za2l hs h.charges,hpi,zaud hs,hr,za06 hs.loans,za1o hs.loans,zg5,k_or,za7]
 dsimp only
 simp only[Bool.not_true,Bool.or_self,cond_false]
 cases (!(x.Custody.State==3)&&!(x.Custody.State==5)) with
 |true=>exact ⟨_,_,rfl,rfl⟩
 |false=>
  cases hbr:x.Custody.Branch==branch with
  |false=>exact ⟨_,_,rfl,rfl⟩
  |true=>
   have hbr2:branch=x.Custody.Branch:=(by simpa using hbr:x.Custody.Branch=branch).symm
   subst hbr2
   simp only[cond_false,Bool.not_true]
   cases (x.Custody.State==5&&!(x.Custody.Who==patron)) with
   |true=>exact ⟨_,_,rfl,rfl⟩
   |false=>
    simp only[cond_false]
    have tail:∃a b2,(bif decide (0<((zep p c.Today (owed patron c.Charges) (zrl patron c.Today c.Loans)).length:Int)) then (some (0,14):Option (Int×Int)) else
     bif !b then some (0,15) else bif decide (r.Loans≤((c.Loans.filter (fun x=>x.Patron==patron)).length:Int)) then some (0,15) else qf2 r (calS c x.Custody.Branch) c.Today p.Until)=some (a,b2):=by
     obtain ⟨a,b2,hq⟩:=zw9 (r:=r) (zof h x.Custody.Branch) c.Today p.Until
     rw[hq]
     exact zdj ⟨_,_,rfl⟩ (zdj ⟨_,_,rfl⟩ (zdj ⟨_,_,rfl⟩ ⟨_,_,rfl⟩))
    have tl:∀rr:Rule,∀bb:Bool,(bb=true→rr∈c.Rules)→(bif (!bb||decide (rr.Loans≤((c.Loans.filter (fun x=>x.Patron==patron)).length:Int))) then (some (0,15):Option (Int×Int)) else qf2 rr (calS c x.Custody.Branch) c.Today p.Until)=(bif (!bb||decide (rr.Loans≤((c.Loans.filter (fun x=>x.Patron==patron)).length:Int))) then some (0,15) else qc2 rr (calS c x.Custody.Branch) c.Today p.Until):=fun rr bb hh=>by
     cases bb with
     |false=>rfl
     |true=>rw[z8u (zof h _) (z87 h (hh rfl))]
    obtain ⟨a,b2,ht⟩:=tail
    cases hb0:decide (0<((zep p c.Today (owed patron c.Charges) (zrl patron c.Today c.Loans)).length:Int)) with
    |true=>
     simp only[cond_true]
     cases x.Custody.State==3 with
     |false=>exact ⟨_,_,rfl,rfl⟩
     |true=>
      generalize getH c.Holds v=gh at hget ⊢
      obtain ⟨o,ok⟩:=gh
      simp only at hget
      subst hget
      cases v==0<;>cases o.Patron==patron<;>exact ⟨_,_,rfl,rfl⟩
    |false=>
     rw[hb0]at ht
     simp only[cond_false]at ht ⊢
     have key:∀(bb:Bool),bb=b→∃a b2,(match (some (r,bb):Option (Rule×Bool)) with
      |some (r14,r15)=>(bif (!r15||decide (r14.Loans≤((c.Loans.filter (fun x=>x.Patron==patron)).length:Int))) then (some (0,15):Option (Int×Int)) else match qcn c x.Custody.Branch with
       |some r20=>(match qc2 r14 r20 c.Today p.Until with|some (r22,r23)=>some (r22,r23)|none=>none)
       |none=>none)
      |none=>none)=some (a,b2)∧(match (some (r,bb):Option (Rule×Bool)) with
      |some (r14,r15)=>(bif (!r15||decide (r14.Loans≤((c.Loans.filter (fun x=>x.Patron==patron)).length:Int))) then (some (0,15):Option (Int×Int)) else match qp c x.Custody.Branch with
       |some r20=>(match qf2 r14 r20 c.Today p.Until with|some (r22,r23)=>some (r22,r23)|none=>none)
       |none=>none)
      |none=>none)=some (a,b2):=by
      intro bb hbb
      subst hbb
      simp only[za11 hb,za36 hb]
      cases bb with
      |false=>exact ⟨_,_,rfl,rfl⟩
      |true=>
       rw[z8u (zof h _) (z87 h (hrm rfl))]
       obtain ⟨a,b2,hq⟩:=zw9 (r:=r) (zof h x.Custody.Branch) c.Today p.Until
       rw[hq]
       cases decide (r.Loans≤((c.Loans.filter (fun x=>x.Patron==patron)).length:Int))<;>exact ⟨_,_,rfl,rfl⟩
     obtain ⟨a,b2,k1,k2⟩:=key b rfl
     cases x.Custody.State==3 with
     |false=>exact ⟨a,b2,k1,k2⟩
     |true=>
      generalize getH c.Holds v=gh at hget ⊢
      obtain ⟨o,ok⟩:=gh
      simp only at hget
      subst hget
      cases v==0 with
      |true=>exact ⟨a,b2,k1,k2⟩
      |false=>
       cases o.Patron==patron with
       |true=>exact ⟨a,b2,k1,k2⟩
       |false=>exact ⟨_,_,rfl,rfl⟩
end Go.Proofs.YtdahfgialanmpaaGreatDoor
namespace Go.Proofs.YtdahfgialanmpaaGreatDoor
open Ev
open Go (IntKind)
def zph (patron:Int) (x:Item) (h:Hold):Bool:=h.Patron==patron&&h.State==1&&zasq h x
theorem za16 (h:Hold) (v:Int) (x:Item):qdh h v x=some (zph v x h):=by
 unfold qdh zph
 simp -zeta only[za10,k_or,za7]
 try rfl
def zaeo:List Hold→Hold→Hold
 | [],h=>h
 |x::l,_=>zaeo l x
def z05 (patron:Int) (x:Item) (l:List Hold) (h:Hold):Bool×Hold:=match l.find? (zph patron x) with|some o=>(true,o)|none=>(false,zaeo l h)
theorem zve {c v:Circ} {patron due:Int} {x:Item} (hl:c.Holds.length<1000000):∀(k i:Nat) (h:Hold),i+k=c.Holds.length→
 za8 zdv (k+2) (patron,due,false,(i:Int),c,v,x,h,())=some (due,(z05 patron x (c.Holds.drop i) h).1,c,v,(z05 patron x (c.Holds.drop i) h).2,()):=by
 intro k
 induction k with
 |zero=>
  intro i h hi
  have:i=c.Holds.length:=by omega
  subst this
  rw[List.drop_length]
  simp only[za8,zdv,dge,cond_false,z05,List.find?_nil,zaeo]
 |succ k ih=>
  intro i h hi
  have hlt:i<c.Holds.length:=by omega
  have hx:c.Holds[i]?=some c.Holds[i]:=List.getElem?_eq_getElem hlt
  rw[List.drop_eq_getElem_cons hlt]
  have st:zdv (patron,due,false,(i:Int),c,v,x,h,())=some (.inl (patron,due,zph patron x c.Holds[i],((i+1:Nat):Int),c,v,x,c.Holds[i],())):=by
   simp -zeta only[zdv,dlt hlt,zah,hx,cond_true,Bool.not_false,za2h,za7,zam (show i<9223372036854775807 by omega)]
   try rfl
  rw[za8,st]
  simp only
  cases hq:zph patron x c.Holds[i]with
  |true=>
   simp only[z05,List.find?_cons,hq]
   rw[za8]
   simp only[zdv]
   cases decide (((i+1:Nat):Int)<(c.Holds.length:Int))<;>rfl
  |false=>
   rw[ih (i+1) c.Holds[i] (by omega)]
   simp only[z05,List.find?_cons,hq,zaeo]
end Go.Proofs.YtdahfgialanmpaaGreatDoor
namespace Go.Proofs.YtdahfgialanmpaaGreatDoor
open Ev
open Go (IntKind)
theorem zl4 (c:Circ) (l:List Loan) (e e0:Int) (h0:e0≠0):qco l e ⟨c,e0⟩=some ((),⟨zbl c c.Loans,e0⟩):=by
 have h:(e0==0)=false:=by simpa using h0
 unfold qco qt
 simp only[h,cond_false]
 cases !(e==0)<;>simp only[cond_true,cond_false,h]<;>rfl
theorem zg4 (c:Circ) (id e0:Int) (h0:e0≠0):qe5 id ⟨c,e0⟩=some ((),⟨c,e0⟩):=by
 have h:(e0==0)=false:=by simpa using h0
 unfold qe5
 simp only[h,cond_false]
theorem zq2 {c:Circ} {id:Int} (hl:c.Holds.length<100000000) (hsort:∀i x,c.Holds[i]?=some x→zb5 c.Holds i (fun y=>decide (x.ID≤y.ID))=false) :
 qe5 id ⟨c,0⟩=some ((),bif (zcw c.Holds id).2.2==0 then ⟨zdr c (zcw c.Holds id).1,0⟩ else ⟨zdr c c.Holds,(zcw c.Holds id).2.2⟩):=by
 unfold qe5
 simp only[beq_self_eq_true,cond_true,za2c hl hsort]
 generalize zcw c.Holds id=q
 obtain ⟨l,o,e⟩:=q
 simp only
 by_cases he:e=0
 ·subst he
  rw[zov]
  try rfl
 ·have h:(e==0)=false:=by simpa using he
  rw[zl3 c l e he,h]
  try rfl
theorem zox (c:Circ) (n e0:Int) (h0:e0≠0):qbi n ⟨c,e0⟩=some ((zeo,0,e0),⟨c,e0⟩):=by
 have h:(e0==0)=false:=by simpa using h0
 unfold qbi
 simp only[h,Bool.not_false,cond_true]
 try rfl
theorem zasd (c:Circ) (n:Int):qbi n ⟨c,0⟩=some ((c,n,0),⟨c,0⟩):=rfl
end Go.Proofs.YtdahfgialanmpaaGreatDoor
namespace Go.Proofs.YtdahfgialanmpaaGreatDoor
open Ev
open Go (IntKind)
theorem zagq {l:List Loan} {n:Loan} (hl:l.length<100000000):(outL l n).1.length<1000000000:=by
 unfold outL
 cases decide (0≤fIdx (fun x=>x.Item==n.Item) l) with
 |true=>simp
 |false=>
  simp only[cond_false]
  cases (!(zbn (insS (fun x=>decide (n.Item<x.Item)) n l)==0)) with
  |true=>simp
  |false=>simp only[cond_false];rw[zgq];omega
theorem zt2 {l:List Hold} {id:Int} (hl:l.length<1000000000):(zcw l id).1.length<1000000000:=by
 unfold zcw
 cases l.find? (fun h=>h.ID==id) with
 |none=>simp
 |some h=>simp only;have:=List.length_filter_le (fun x:Hold=>!(x.ID==id)) l;omega
theorem zu6 {c:Circ} {i:Nat} {x:Item} {m:Move} {u:Custody} (hs:Short c) (hm:c.Moves.length<100000000) (hx:c.Items[i]?=some x):Short (zago c i x m u):=by
 obtain ⟨h1,h2,h3,h4,h5,h6,h7,h8,h9,h10,h11,h12,h13⟩:=hs
 refine ⟨?_,h2,h3,h4,h5,h6,?_,fun z hz=>?_,h9,h10,h11,h12,h13⟩
 ·show (c.Items.set i _).length<_
  rw[List.length_set];exact h1
 ·show (c.Moves++[m]).length<_
  simp;omega
 ·rcases List.mem_or_eq_of_mem_set hz with h|h
  ·exact h8 z h
  ·rw[h];exact h8 x (List.mem_of_getElem? hx)
theorem zjs {c:Circ} {l:List Hold} (hs:Short c) (hl:l.length<1000000000):Short (zdr c l):=by
 obtain ⟨h1,h2,h3,h4,h5,h6,h7,h8,h9,h10,h11,h12,h13⟩:=hs
 exact ⟨h1,h2,h3,hl,h5,h6,h7,h8,h9,h10,h11,h12,h13⟩
end Go.Proofs.YtdahfgialanmpaaGreatDoor
namespace Go.Proofs.YtdahfgialanmpaaGreatDoor
open Ev
open Go (IntKind)
theorem zq3 {c:Circ} {id:Int} (hs:Short c):qds id ⟨c,0⟩=some (fIdx (fun x=>x.ID==id) c.Items,⟨c,bif decide (fIdx (fun x=>x.ID==id) c.Items<0) then 9 else 0⟩):=by
 unfold qds
 simp only[za1c hs.items]
 cases decide (fIdx (fun x:Item=>x.ID==id) c.Items<0)<;>rfl
theorem z06 {c:Circ} (hm:SmallP c) (h:FitP c) {item patron branch:Int}:z2z (qas c item patron branch) (qbx c item patron branch):=by
 have hs:=hm.short
 have hmv:=hm.moves
 have hhl:=hm.holds
 have hln:=hm.loans
 unfold qas qbx
 simp -zeta only[qcf,zq3 hs,zalm hs.patrons]
 rcases za6 (fun x:Item=>x.ID==item) c.Items with ⟨h1,h2⟩|⟨i,x,h1,h2,h3,h4⟩
 ·have hat:qk c item=some (-1):=by rw[zaui hs.items,h1]
  have hml:qfa c item patron branch=some (0,9):=by
   unfold qfa
   rw[hat]
   simp -zeta only[zf5 hs.patrons,zg6,k_or]
   try rfl
  rw[h1,hml]
  simp only[zg6,cond_true]
  cases (getP c.Patrons patron).2<;>exact zck
 ·have hat:qk c item=some (i:Int):=by rw[zaui hs.items,h1]
  have hid:x.ID=item:=by simpa using h3
  rw[h1]
  simp only[zg5,cond_false]
  cases hp:getP c.Patrons patron with
  |mk p ok=>
   cases ok with
   |false=>
    have hml:qfa c item patron branch=some (0,9):=by
     unfold qfa
     rw[hat]
     simp -zeta only[zf5 hs.patrons,hp,k_or]
     try rfl
    rw[hml]
    exact zck
   |true=>
    obtain ⟨a,e,m1,m2⟩:=zpu hm h (branch:=branch) hat h2 hp
    simp only[Bool.not_true,cond_false,beq_self_eq_true,zah,h2,m1,m2,hat]
    by_cases he:e=0
    ·subst he
     have dm:=zq4 (kind:=3) (branch:=branch) (who:=patron) hs (show c.Moves.length<100000000 by omega) h2
     have rm:=za1w (kind:=3) (branch:=branch) (who:=patron) hs (show c.Moves.length<100000000 by omega) hat h2 hid
     generalize zu7 c (zbo x.Custody ⟨c.Today,x.ID,3,branch,patron⟩).2=E at dm rm
     generalize (zbo x.Custody ⟨c.Today,x.ID,3,branch,patron⟩).1=u at dm rm
     have lo:=za1x (l:=c.Loans) (n:=⟨item,patron,c.Today,a,0,false⟩) (by omega)
     have ro:=za1y (l:=c.Loans) (n:=⟨item,patron,c.Today,a,0,false⟩) (by omega)
     have ol:=zagq (l:=c.Loans) (n:=⟨item,patron,c.Today,a,0,false⟩) (by omega)
     generalize outL c.Loans ⟨item,patron,c.Today,a,0,false⟩=q at lo ro ol
     obtain ⟨l,e2⟩:=q
     have hI:=zzk (p:=fun (g:Unit×Int×Item×Unit) x0=>qdh x0 g.2.1 g.2.2.1) (g:=((),(patron,x,()))) (zph patron x) hs.holds (fun o _=>za16 o patron x)
     simp only[dm,rm,lo,za1r hs.holds,hI]
     by_cases hE:E=0
     ·subst hE
      simp only[beq_self_eq_true,cond_true,Bool.not_true,cond_false]
      generalize hc1:zago c i x ⟨c.Today,x.ID,3,branch,patron⟩ u=c1
      have t1:c1.Today=c.Today:=by rw[←hc1];rfl
      have t2:c1.Loans=c.Loans:=by rw[←hc1];rfl
      have t3:c1.Holds=c.Holds:=by rw[←hc1];rfl
      have sc1:Short c1:=by rw[←hc1];exact zu6 hs (by omega) h2
      simp only[t1,t2,ro]
      by_cases hE2:e2=0
      ·subst hE2
       simp only[zow,beq_self_eq_true,Bool.not_true,cond_false]
       have sc2:Short (zbl c1 l):=zjt sc1 ol
       have hH:(zbl c1 l).Holds=c.Holds:=t3
       have dd:∀id:Int,qe5 id ⟨zbl c1 l,0⟩=some ((),bif (zcw c.Holds id).2.2==0 then ⟨zdr (zbl c1 l) (zcw c.Holds id).1,0⟩ else ⟨zdr (zbl c1 l) (zbl c1 l).Holds,(zcw c.Holds id).2.2⟩):=fun id=>by
        have:=zq2 (c:=zbl c1 l) (id:=id) (by rw[hH];omega) (by rw[hH];exact zem h.holds)
        rw[hH]at this
        rw[this,hH]
       have cc:zcx (zbl c1 l) item=zcx c item:=by unfold zcx;rw[hH]
       have rc:=zak6 (c:=zbl c1 l) (item:=item) (by rw[hH];omega)
       rw[cc]at rc
       have kc:(⟨c.Today,c1.Items,c1.Patrons,l,c1.Holds,c1.Charges,c1.Rules,c1.Cals,c1.Moves,c1.NextHold,c1.NextCharge,c1.Local⟩:Circ)=zbl c1 l:=by rw[←t1];rfl
       simp only[kc,rc]
       generalize zbl c1 l=c2 at dd sc2 hH
       have fin:∀id:Int,z2z (match qe5 id ⟨c2,0⟩ with
        |some (_,v)=>(match qbi a v with|some ((r25,r26,r27),v28)=>some (r25,r26,r27)|none=>none)
        |none=>none) (match qbn c2.Holds id with
        |some (r23,r24,r25)=>(bif !(r25==0) then some (zeo,0,r25) else some (zdr c2 r23,a,0))
        |none=>none):=by
        intro id
        rw[dd id,za1v (by rw[hH];omega),hH]
        have cl:=zt2 (l:=c.Holds) (id:=id) hs.holds
        generalize zcw c.Holds id=q at cl ⊢
        obtain ⟨m,o,e⟩:=q
        simp only at cl ⊢
        by_cases he:e=0
        ·subst he
         exact ⟨_,_,_,rfl,rfl,zjs sc2 cl⟩
        ·have he2:(e==0)=false:=by simpa using he
         simp only[he2,cond_false,zox _ _ _ he,Bool.not_false,cond_true]
         exact zck
       generalize zcx c item=q2
       obtain ⟨o,ok⟩:=q2
       cases ok with
       |true=>
        have hw:zad zdv (patron,a,true,0,c2,zeo,x,o,())=some (a,true,c2,zeo,o,()):=by
         refine zba 1 (by rw[za2];omega) ?_
         simp only[za8,zdv]
         cases decide ((0:Int)<(c2.Holds.length:Int))<;>rfl
        simp only[cond_true]
        rw[show zad zdv (patron,a,true,0,c2,(⟨0,[],[],[],[],[],[],⟨⟨0,[]⟩,⟨0,[]⟩,⟨0,[]⟩,⟨0,[]⟩⟩,[],0,0,false⟩:Circ),x,o,())=_ from hw]
        exact fin o.ID
       |false=>
        have hw:=zve (c:=c2) (v:=zeo) (patron:=patron) (due:=a) (x:=x) (by rw[hH];omega) c2.Holds.length 0 o (by omega)
        have hw2:zad zdv (patron,a,false,0,c2,zeo,x,o,())=_:=zba (c2.Holds.length+2) (by rw[za2,hH];omega) hw
        rw[List.drop_zero,hH]at hw2
        simp only[cond_false]
        rw[show zad zdv (patron,a,false,0,c2,(⟨0,[],[],[],[],[],[],⟨⟨0,[]⟩,⟨0,[]⟩,⟨0,[]⟩,⟨0,[]⟩⟩,[],0,0,false⟩:Circ),x,o,())=_ from hw2]
        unfold z05
        rcases za6 (zph patron x) c.Holds with ⟨g1,g2⟩|⟨j,y,g1,g2,g3,g4⟩
        ·rw[g1,g2]
         have d:decide ((0:Int)≤-1)=false:=rfl
         simp only[d,cond_false,zasd]
         exact ⟨c2,a,0,rfl,rfl,sc2⟩
        ·have d:decide ((0:Int)≤(j:Int))=true:=by rw[decide_eq_true_eq];omega
         rw[g1,g4]
         simp only[d,cond_true,zah,g2]
         exact fin y.ID
      ·have he2:(e2==0)=false:=by simpa using hE2
       simp only[zl5 _ _ _ hE2,zg4 _ _ _ hE2,zox _ _ _ hE2,he2,Bool.not_false,cond_true]
       cases (zcx c item).2 with
       |true=>exact zck
       |false=>
        simp only[cond_false]
        rcases za6 (zph patron x) c.Holds with ⟨g1,g2⟩|⟨j,o,g1,g2,g3,g4⟩
        ·rw[g1];exact zck
        ·have d:decide ((0:Int)≤(j:Int))=true:=by rw[decide_eq_true_eq];omega
         simp only[g1,d,cond_true,zah,g2]
         exact zck
     ·have hE2:(E==0)=false:=by simpa using hE
      simp only[hE2,cond_false,zl4 _ _ _ _ hE,zg4 _ _ _ hE,zox _ _ _ hE,Bool.not_false,cond_true]
      cases (zcx c item).2 with
      |true=>exact zck
      |false=>
       simp only[cond_false]
       rcases za6 (zph patron x) c.Holds with ⟨g1,g2⟩|⟨j,o,g1,g2,g3,g4⟩
       ·rw[g1];exact zck
       ·have d:decide ((0:Int)≤(j:Int))=true:=by rw[decide_eq_true_eq];omega
        simp only[g1,d,cond_true,zah,g2]
        exact zck
    ·have he2:(e==0)=false:=by simpa using he
     simp only[he2,Bool.not_false,cond_true]
     exact zck
theorem zme (c:Circ) (item patron branch:Int):qdp c item patron branch=some true:=by
 unfold qdp
 simp only[za2n,zab7]
 cases hb:zlq c&&zn0 c with
 |false=>rfl
 |true=>
  simp only[Bool.and_eq_true]at hb
  obtain ⟨a,n,e,q1,q2,q3⟩:=z06 (item:=item) (patron:=patron) (branch:=branch) (zamz hb.1) (fitP hb.2)
  simp -zeta only[Bool.not_true,cond_false,q1,q2,zauc q3,za7]
  simp
end Go.Proofs.YtdahfgialanmpaaGreatDoor
