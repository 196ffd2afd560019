/- CircHolds: a part of the proof of the given statement, which is proved without conditions. -/
import Derived.Test.YtdahfgialanmpaaGreatDoorH6
set_option linter.all false
namespace Go.Proofs.YtdahfgialanmpaaGreatDoor
open Ev
open Go (IntKind)
def zdy (l:List Hold) (id:Int):List Hold×Hold×Int:=
 match l.find? (fun h=>h.ID==id) with|some h=>(l.filter (fun x=>!(x.ID==id)),h,0)|none=>([],zg1,9)
theorem z11 {l:List Hold} (hsort:∀i x,l[i]?=some x→zbo l i (fun y=>decide (x.ID≤y.ID))=false) {i:Nat} {x:Hold} (hx:l[i]?=some x):l.take i++l.drop (i+1)=l.filter (fun y=>!(y.ID==x.ID)):=by
 have hlt:=(List.getElem?_eq_some_iff.1 hx).1
 have e:l=l.take i++x::l.drop (i+1):=by
  have h2:l[i]=x:=(List.getElem?_eq_some_iff.1 hx).2
  rw[←h2,←List.drop_eq_getElem_cons hlt,List.take_append_drop]
 have hA:(l.take i).filter (fun y=>!(y.ID==x.ID))=l.take i:=by
  rw[List.filter_eq_self]
  intro y hy
  obtain ⟨j,hj⟩:=List.getElem?_of_mem hy
  have hj2:=(List.getElem?_eq_some_iff.1 hj).1
  rw[List.length_take]at hj2
  rw[List.getElem?_take_of_lt (by omega)]at hj
  have:=zcu (key:=fun y:Hold=>y.ID) hsort i j y x (by omega) hj hx
  have hne:¬y.ID=x.ID:=by omega
  simpa using hne
 have hB:(l.drop (i+1)).filter (fun y=>!(y.ID==x.ID))=l.drop (i+1):=by
  rw[List.filter_eq_self]
  intro y hy
  obtain ⟨j,hj⟩:=List.getElem?_of_mem hy
  rw[List.getElem?_drop]at hj
  have:=zcu (key:=fun y:Hold=>y.ID) hsort (i+1+j) i x y (by omega) hx hj
  have hne:¬y.ID=x.ID:=by omega
  simpa using hne
 conv=>rhs;rw[e]
 rw[List.filter_append,hA,List.filter_cons,hB]
 simp
theorem za40 {l:List Hold} {id:Int} (hl:l.length<100000000) (hsort:∀i x,l[i]?=some x→zbo l i (fun y=>decide (x.ID≤y.ID))=false):qep l id=some (zdy l id):=by
 have hl2:l.length<1000000000:=by omega
 unfold qep qa7 zdy
 rw[z0y (p:=fun (g:Unit×Int×Unit) x0=>qeo x0 g.2.1) (g:=((),(id,()))) (fun x=>x.ID==id) hl2 (fun x _=>rfl)]
 dsimp only
 rcases zbc (fun x:Hold=>x.ID==id) l with ⟨h1,h2⟩|⟨i,x,h1,h2,h3,h4⟩
 ·simp only[h1,h2,zr9,cond_true]
  try rfl
 ·have hlt:=(List.getElem?_eq_some_iff.1 h2).1
  have hc:qdy l=some l:=by unfold qdy;rw[zjm hl2];rfl
  have hid:x.ID=id:=by simpa using h3
  have hd:qei l (i:Int) ((i+1:Nat):Int)=some (l.take i++l.drop (i+1)):=by
   show zie l (i:Int) ((i+1:Nat):Int)=_
   unfold zie
   have d1:decide ((0:Int)≤(i:Int))=true:=by rw[decide_eq_true_eq];omega
   have d2:decide ((i:Int)≤((i+1:Nat):Int))=true:=by rw[decide_eq_true_eq];omega
   have d3:decide (((i+1:Nat):Int)≤(l.length:Int))=true:=by rw[decide_eq_true_eq];omega
   have d4:decide (l.length≤1073741824)=true:=by rw[decide_eq_true_eq];omega
   simp only[d1,d2,d3,d4,Bool.and_self,cond_true,Int.toNat_natCast]
  simp only[h4,h1,zmz,cond_false,hc,zam (show i<9223372036854775807 by omega),hd,zah,h2]
  rw[z11 hsort h2,hid]
theorem zanz {l:List Hold} {id:Int} (hl:l.length<100000000):qb0 l id=some (zdy l id):=by
 have hl2:l.length<1000000000:=by omega
 unfold qb0 zdy
 rw[z0x hl2]
 unfold getH
 cases hf:l.find? (fun h=>h.ID==id) with
 |none=>rfl
 |some h=>
  have hw:=zbb (step:=zoo) (fun (i:Nat) (s:List Hold)=>s.length≤i) (fun i s=>(l,id,(i:Int),zg1,h,s,())) l
   (fun i y s=>.inl (bif !(y.ID==id) then s++[y] else s)) (fun s=>(zg1,h,s,())) (by rw[za0];omega)
   (fun s _=>by simp only[zoo,dge,cond_false])
   (fun i y s hx hi=>by
    have hlt:=(List.getElem?_eq_some_iff.1 hx).1
    have l1:decide (s.length+([y]:List Hold).length≤LIM)=true:=zfb (by simp;omega)
    refine ⟨?_,fun s' hs'=>?_⟩
    ·simp only[zoo,dlt hlt,zah,hx,cond_true,l1,zam (show i<9223372036854775807 by omega)]
     cases !(y.ID==id)<;>rfl
    ·cases hs'
     cases !(y.ID==id)<;>simp<;>omega) [] (by simp)
  rw[zb9]at hw
  simp only[Bool.not_true,cond_false]
  rw[show zac zoo (l,id,0,(⟨0,0,0,0,0,0,0,0,0,0,0⟩:Hold),h,([]:List Hold),())=_ from hw,zej]
  try rfl
def zat (c:Circ) (l:List Hold):Circ:=⟨c.Today,c.Items,c.Patrons,c.Loans,l,c.Charges,c.Rules,c.Cals,c.Moves,c.NextHold,c.NextCharge,c.Local⟩
theorem zhr (c:Circ) (l:List Hold):qcs l 0 ⟨c,0⟩=some ((),⟨zat c l,0⟩):=rfl
theorem zdo (c:Circ) (l:List Hold) (e:Int) (he:e≠0):qcs l e ⟨c,0⟩=some ((),⟨zat c c.Holds,e⟩):=by
 have h:(e==0)=false:=by simpa using he
 unfold qcs qt
 simp only[h,Bool.not_false,cond_true,beq_self_eq_true,cond_false]
 try rfl
end Go.Proofs.YtdahfgialanmpaaGreatDoor
namespace Go.Proofs.YtdahfgialanmpaaGreatDoor
open Ev
open Go (IntKind)
def znd {X:Type} (i:Int) (upd:X→X):Nat→List X→List X
 |_,[]=>[]
 |k,x::l=>(bif (k:Int)==i then upd x else x)::znd i upd (k+1) l
theorem z4i {X:Type} {i:Nat} {upd:X→X}:∀{l:List X} {k:Nat},i<k→znd (i:Int) upd k l=l:=by
 intro l
 induction l with
 |nil=>intros;rfl
 |cons x l ih=>
  intro k h
  have:((k:Int)==(i:Int))=false:=by
   have hne:¬(k:Int)=(i:Int):=by omega
   simpa using hne
  simp only[znd,this,cond_false]
  rw[ih (by omega)]
theorem zad2 {X:Type} {upd:X→X} {x:X}:∀{l:List X} {k j:Nat},l[j]?=some x→znd ((k+j:Nat):Int) upd k l=l.set j (upd x):=by
 intro l
 induction l with
 |nil=>intro k j h;simp at h
 |cons y l ih=>
  intro k j h
  cases j with
  |zero=>
   simp at h
   subst h
   have:((k:Int)==((k+0:Nat):Int))=true:=by simp
   simp only[znd,this,cond_true,List.set_cons_zero]
   rw[z4i (by omega)]
  |succ j=>
   have hne:((k:Int)==((k+(j+1):Nat):Int))=false:=by
    have:¬(k:Int)=((k+(j+1):Nat):Int):=by omega
    simpa using this
   simp only[znd,hne,cond_false,List.set_cons_succ]
   have:=ih (k:=k+1) (j:=j) (by simpa using h)
   rw[show k+1+j=k+(j+1) by omega]at this
   rw[this]
theorem zaba {X β:Type} {i:Int} {upd:X→X} {g:List X→β}:∀{l:List X} {k:Nat} {s:List X},zc7 (fun (k:Nat) x (s:List X)=>.inl (s++[bif (k:Int)==i then upd x else x])) g k l s=g (s++znd i upd k l):=by
 intro l
 induction l with
 |nil=>intro k s;simp[zc7,znd]
 |cons x l ih=>intro k s;simp only[zc7,znd];rw[ih];simp
def zne (u:Custody) (x:Item):Item:=⟨x.ID,x.Record,x.Branch,x.Kind,x.Price,x.Call,u⟩
def zgw (c:Circ) (i:Nat) (x:Item) (m:Move) (u:Custody):Circ:=⟨c.Today,c.Items.set i (zne u x),c.Patrons,c.Loans,c.Holds,c.Charges,c.Rules,c.Cals,c.Moves++[m],c.NextHold,c.NextCharge,c.Local⟩
def zgb (c:Circ) (e:Int):Int:=bif e==0&&decide (2000≤(c.Moves.length:Int)) then 13 else e
theorem zf3 {c:Circ} {i:Nat} {x:Item} {kind branch who:Int} (hs:Short c) (hm:c.Moves.length<100000000) (hx:c.Items[i]?=some x) :
 qbj (i:Int) kind branch who ⟨c,0⟩=some ((),bif zgb c (za9 x.Custody ⟨c.Today,x.ID,kind,branch,who⟩).2==0 then ⟨zgw c i x ⟨c.Today,x.ID,kind,branch,who⟩ (za9 x.Custody ⟨c.Today,x.ID,kind,branch,who⟩).1,0⟩ else ⟨c,zgb c (za9 x.Custody ⟨c.Today,x.ID,kind,branch,who⟩).2⟩):=by
 have hc1:qcv c.Items=some c.Items:=by unfold qcv;rw[zjm hs.items];rfl
 have hc2:qdw c.Moves=some c.Moves:=by unfold qdw;rw[zjm hs.moves];rfl
 have l1:decide (c.Moves.length+([(⟨c.Today,x.ID,kind,branch,who⟩:Move)]:List Move).length≤LIM)=true:=zfb (by simp;omega)
 unfold qbj zgb
 simp -zeta only[beq_self_eq_true,Bool.not_true,cond_false,zah,hx,za4z,za7]
 generalize za9 x.Custody ⟨c.Today,x.ID,kind,branch,who⟩=q
 obtain ⟨u,e⟩:=q
 dsimp only
 cases hb:(e==0&&decide (2000≤(c.Moves.length:Int))) with
 |true=>
  simp only[cond_true,qt,beq_self_eq_true]
  try rfl
 |false=>
  simp only[cond_false]
  cases he:e==0 with
  |true=>
   have:e=0:=by simpa using he
   subst this
   simp only[Bool.not_true,cond_false,cond_true,hc1,hc2,zah,hx,Int.toNat_natCast,l1]
   try rfl
  |false=>
   simp only[Bool.not_false,cond_true,cond_false,qt,beq_self_eq_true]
theorem zwk {c:Circ} {i:Nat} {m:Move} {u:Custody} (hs:Short c):zac zhh ((i:Int),0,c,zcg,m,u,[],())=some (c,zcg,m,znd (i:Int) (zne u) 0 c.Items,()):=by
 have h:=zbb (step:=zhh) (fun (k:Nat) (s:List Item)=>s.length≤k) (fun k s=>((i:Int),(k:Int),c,zcg,m,u,s,())) c.Items
  (fun k x s=>.inl (s++[bif (k:Int)==(i:Int) then zne u x else x])) (fun s=>(c,zcg,m,s,())) (by rw[za0];have:=hs.items;omega)
  (fun s _=>by simp only[zhh,dge,cond_false])
  (fun k x s hx hi=>by
   have hlt:=(List.getElem?_eq_some_iff.1 hx).1
   have:=hs.items
   have l1:∀y:Item,decide (s.length+([y]:List Item).length≤LIM)=true:=fun y=>zfb (by simp;omega)
   refine ⟨?_,fun s' hs'=>?_⟩
   ·simp only[zhh,dlt hlt,zah,hx,cond_true,l1,zam (show k<9223372036854775807 by omega)]
    cases (k:Int)==(i:Int)<;>rfl
   ·cases hs'
    simp
    omega) [] (by simp)
 rw[zaba]at h
 exact h
theorem zaai {c:Circ} {item:Int} {i:Nat} {x:Item} {kind branch who:Int} (hs:Short c) (hm:c.Moves.length<100000000) (hat:qg c item=some (i:Int)) (hx:c.Items[i]?=some x) (hid:x.ID=item) :
 qas c item kind branch who=some (bif zgb c (za9 x.Custody ⟨c.Today,x.ID,kind,branch,who⟩).2==0 then (zgw c i x ⟨c.Today,x.ID,kind,branch,who⟩ (za9 x.Custody ⟨c.Today,x.ID,kind,branch,who⟩).1,0) else (zcg,zgb c (za9 x.Custody ⟨c.Today,x.ID,kind,branch,who⟩).2)):=by
 subst hid
 unfold qas zgb
 rw[hat]
 simp only[zah,hx,zaob]
 generalize za9 x.Custody ⟨c.Today,x.ID,kind,branch,who⟩=q
 obtain ⟨u,e⟩:=q
 simp only
 cases he:e==0 with
 |false=>simp only[Bool.not_false,cond_true,Bool.false_and,cond_false,he];rfl
 |true=>
  have:e=0:=by simpa using he
  subst this
  simp only[Bool.not_true,cond_false,Bool.true_and]
  cases decide (2000≤(c.Moves.length:Int)) with
  |true=>rfl
  |false=>
   have hw:=zwk (i:=i) (m:=⟨c.Today,x.ID,kind,branch,who⟩) (u:=u) hs
   have l1:decide (c.Moves.length≤LIM)=true:=by rw[decide_eq_true_eq];unfold LIM;omega
   have l2:decide (c.Moves.length+([(⟨c.Today,x.ID,kind,branch,who⟩:Move)]:List Move).length≤LIM)=true:=zfb (by simp;omega)
   have es:=zad2 (upd:=zne u) (l:=c.Items) (k:=0) (j:=i) hx
   rw[Nat.zero_add]at es
   rw[es]at hw
   simp only[cond_false]
   rw[show zac zhh ((i:Int),0,c,(⟨0,[],[],[],[],[],[],⟨⟨0,[]⟩,⟨0,[]⟩,⟨0,[]⟩,⟨0,[]⟩⟩,[],0,0,false⟩:Circ),(⟨c.Today,x.ID,kind,branch,who⟩:Move),u,([]:List Item),())=_ from hw]
   simp only[l1,l2,cond_true]
   try rfl
end Go.Proofs.YtdahfgialanmpaaGreatDoor
namespace Go.Proofs.YtdahfgialanmpaaGreatDoor
open Ev
open Go (IntKind)
theorem za4p {l:List Loan} {p:Int} (hl:l.length<1000000000):qbv l p=some (l.filter (fun x=>x.Patron==p)):=by
 have h:=zbb (step:=zoy) (fun (i:Nat) (s:List Loan)=>s.length≤i) (fun i s=>(l,p,(i:Int),s,())) l
  (fun i y s=>.inl (bif y.Patron==p then s++[y] else s)) (fun s=>(s,())) (by rw[za0];omega)
  (fun s _=>by simp only[zoy,dge,cond_false])
  (fun i y s hx hi=>by
   have hlt:=(List.getElem?_eq_some_iff.1 hx).1
   have l1:decide (s.length+([y]:List Loan).length≤LIM)=true:=zfb (by simp;omega)
   refine ⟨?_,fun s' hs'=>?_⟩
   ·simp only[zoy,dlt hlt,zah,hx,cond_true,l1,zam (show i<9223372036854775807 by omega)]
    cases y.Patron==p<;>rfl
   ·cases hs'
    cases y.Patron==p<;>simp<;>omega) [] (by simp)
 rw[zb9]at h
 unfold qbv
 rw[show zac zoy (l,p,0,[],())=_ from h,zej,List.nil_append]
theorem zui {branch:Int} {vlocal:Bool} {x:Item}:∀{q:List Hold} {f:Int},zhd branch vlocal x q f=f∨∃h∈q,zhd branch vlocal x q f=h.ID:=by
 intro q
 induction q with
 |nil=>intro f;exact .inl rfl
 |cons h q ih=>
  intro f
  have lift:∀g:Int,(zhd branch vlocal x q g=g∨∃o∈q,zhd branch vlocal x q g=o.ID)→(g=f∨g=h.ID)→(zhd branch vlocal x q g=f∨∃o∈h::q,zhd branch vlocal x q g=o.ID):=by
   intro g hg hgf
   rcases hg with hg|⟨o,ho,hg⟩
   ·rcases hgf with e|e
    ·exact .inl (by rw[hg,e])
    ·exact .inr ⟨h,List.mem_cons_self ..,by rw[hg,e]⟩
   ·exact .inr ⟨o,List.mem_cons_of_mem _ ho,hg⟩
  simp only[zhd,zuh]
  cases (!(h.Item==0)&&!(h.Item==x.ID)) with
  |true=>exact lift f ih (.inl rfl)
  |false=>
   cases (vlocal&&h.Pickup==branch) with
   |true=>exact .inr ⟨h,List.mem_cons_self ..,rfl⟩
   |false=>
    cases f==0 with
    |true=>exact lift h.ID ih (.inr rfl)
    |false=>exact lift f ih (.inl rfl)
end Go.Proofs.YtdahfgialanmpaaGreatDoor
namespace Go.Proofs.YtdahfgialanmpaaGreatDoor
open Ev
open Go (IntKind)
end Go.Proofs.YtdahfgialanmpaaGreatDoor
namespace Go.Proofs.YtdahfgialanmpaaGreatDoor
open Ev
open Go (IntKind)
end Go.Proofs.YtdahfgialanmpaaGreatDoor
namespace Go.Proofs.YtdahfgialanmpaaGreatDoor
open Ev
open Go (IntKind)
theorem zp2 (c:Circ) (id e0:Int) (h0:e0≠0):qd2 id ⟨c,e0⟩=some ((),⟨c,e0⟩):=by
 have h:(e0==0)=false:=by simpa using h0
 unfold qd2
 simp only[h,cond_false]
theorem zix {c:Circ} {id:Int} (hl:c.Holds.length<100000000) (hsort:∀i x,c.Holds[i]?=some x→zbo c.Holds i (fun y=>decide (x.ID≤y.ID))=false) :
 qd2 id ⟨c,0⟩=some ((),bif (zdy c.Holds id).2.2==0 then ⟨zat c (zdy c.Holds id).1,0⟩ else ⟨zat c c.Holds,(zdy c.Holds id).2.2⟩):=by
 unfold qd2
 simp only[beq_self_eq_true,cond_true,za40 hl hsort]
 generalize zdy c.Holds id=q
 obtain ⟨l,o,e⟩:=q
 simp only
 by_cases he:e=0
 ·subst he
  rw[zhr]
  try rfl
 ·have h:(e==0)=false:=by simpa using he
  rw[zdo c l e he,h]
  try rfl
theorem zyg (c:Circ) (n e0:Int) (h0:e0≠0):qbi n ⟨c,e0⟩=some ((zcg,0,e0),⟨c,e0⟩):=by
 have h:(e0==0)=false:=by simpa using h0
 unfold qbi
 simp only[h,Bool.not_false,cond_true]
 try rfl
end Go.Proofs.YtdahfgialanmpaaGreatDoor
namespace Go.Proofs.YtdahfgialanmpaaGreatDoor
open Ev
open Go (IntKind)
theorem zwd {c:Circ} {i:Nat} {x:Item} {m:Move} {u:Custody} (hs:Short c) (hm:c.Moves.length<100000000) (hx:c.Items[i]?=some x):Short (zgw c i x m u):=by
 obtain ⟨h1,h2,h3,h4,h5,h6,h7,h8,h9,h10,h11,h12,h13⟩:=hs
 refine ⟨?_,h2,h3,h4,h5,h6,?_,fun z hz=>?_,h9,h10,h11,h12,h13⟩
 ·show (c.Items.set i _).length<_
  rw[List.length_set];exact h1
 ·show (c.Moves++[m]).length<_
  simp;omega
 ·rcases List.mem_or_eq_of_mem_set hz with h|h
  ·exact h8 z h
  ·rw[h];exact h8 x (List.mem_of_getElem? hx)
theorem zeg {c:Circ} {l:List Hold} (hs:Short c) (hl:l.length<1000000000):Short (zat c l):=by
 obtain ⟨h1,h2,h3,h4,h5,h6,h7,h8,h9,h10,h11,h12,h13⟩:=hs
 exact ⟨h1,h2,h3,hl,h5,h6,h7,h8,h9,h10,h11,h12,h13⟩
end Go.Proofs.YtdahfgialanmpaaGreatDoor
namespace Go.Proofs.YtdahfgialanmpaaGreatDoor
open Ev
open Go (IntKind)
theorem zr7 {c:Circ} {id:Int} (hs:Short c):qc4 id ⟨c,0⟩=some (fIdx (fun x=>x.ID==id) c.Items,⟨c,bif decide (fIdx (fun x=>x.ID==id) c.Items<0) then 9 else 0⟩):=by
 unfold qc4
 simp only[zant hs.items]
 cases decide (fIdx (fun x:Item=>x.ID==id) c.Items<0)<;>rfl
end Go.Proofs.YtdahfgialanmpaaGreatDoor
namespace Go.Proofs.YtdahfgialanmpaaGreatDoor
open Ev
open Go (IntKind)
structure MidP (c:Circ):Prop where
 short:Short c
 moves:c.Moves.length<10000000
 holdsN:c.Holds.length<1000000
 sorted:∀(i:Nat) (x:Hold),c.Holds[i]?=some x→zbo c.Holds i (fun y=>decide (x.ID≤y.ID))=false
 rank:∀o∈c.Holds,rng 0 9 o.Rank=true∧o.ID≠0
 few:∀r,(c.Holds.filter (fun o=>o.Record==r)).length<20
 cal:∀b,CalOk (calS c b)
 rules:∀r∈c.Rules,zo3 r=true
 branch:∀x∈c.Items,rng 1 4 x.Custody.Branch=true
 ids:∀(i:Nat) (x:Item) (j:Nat) (y:Item),c.Items[i]?=some x→c.Items[j]?=some y→x.ID=y.ID→i=j
 chN:c.Charges.length<1000000
theorem zavi {c:Circ} (hm:SmallP c) (h:FitP c):MidP c:=by
 refine ⟨hm.short,by have:=hm.moves;omega,by have:=hm.holds;omega,ziz h.holds,fun o ho=>z2i h ho,fun r=>?_,zap4 h,fun r hr=>zaw9 h hr,fun x hx=>z2f h hx,fun i x j y hx hy e=>?_,by have:=hm.charges;omega⟩
 ·have:=List.length_filter_le (fun o:Hold=>o.Record==r) c.Holds
  have:=hm.holds
  omega
 ·have hs:=zso h.items
  rcases Nat.lt_trichotomy i j with hl|hl|hl
  ·have:=zcu (key:=fun y:Item=>y.ID) hs j i x y hl hx hy;omega
  ·exact hl
  ·have:=zcu (key:=fun y:Item=>y.ID) hs i j y x hl hy hx;omega
theorem zlk {c:Circ} (h:MidP c) {i:Nat} {x:Item} (hx:c.Items[i]?=some x):qg c x.ID=some (i:Int):=by
 rw[zajb h.short.items]
 rcases zbc (fun y:Item=>y.ID==x.ID) c.Items with ⟨h1,h2⟩|⟨j,y,h1,h2,h3,h4⟩
 ·have:=List.find?_eq_none.1 h2 x (List.mem_of_getElem? hx)
  simp at this
 ·rw[h1,h.ids i x j y hx h2 (by simpa using (by simpa using h3:y.ID=x.ID).symm)]
theorem zc1 {X Y:Type} {f:X→Y} {l:List X} {j:Nat} {x y:X} (hx:l[j]?=some x) (hf:f y=f x):(l.set j y).map f=l.map f:=by
 rw[List.map_set,hf]
 apply List.ext_getElem?
 intro k
 rw[List.getElem?_set]
 split
 ·rename_i e
  subst e
  split
  ·rw[List.getElem?_map,hx];rfl
  ·rename_i hk
   have:=(List.getElem?_eq_some_iff.1 hx).1
   exact absurd (by simpa using this) hk
 ·rfl
theorem zavj {l m:List Item} (e:m.map (fun x=>x.ID)=l.map (fun x=>x.ID)) (h:∀(i:Nat) (x:Item) (j:Nat) (y:Item),l[i]?=some x→l[j]?=some y→x.ID=y.ID→i=j) :
 ∀(i:Nat) (x:Item) (j:Nat) (y:Item),m[i]?=some x→m[j]?=some y→x.ID=y.ID→i=j:=by
 have key:∀(i:Nat) (x:Item),m[i]?=some x→∃x',l[i]?=some x'∧x'.ID=x.ID:=by
  intro i x hx
  have h1:(m.map (fun x=>x.ID))[i]?=some x.ID:=by rw[List.getElem?_map,hx];rfl
  rw[e,List.getElem?_map]at h1
  cases hl:l[i]? with
  |none=>rw[hl]at h1;cases h1
  |some x'=>rw[hl]at h1;exact ⟨x',rfl,by simpa using h1⟩
 intro i x j y hx hy hxy
 obtain ⟨x',hx',ex⟩:=key i x hx
 obtain ⟨y',hy',ey⟩:=key j y hy
 exact h i x' j y' hx' hy' (by rw[ex,ey,hxy])
theorem z94 {c:Circ} (h:MidP c) {i:Nat} {x:Item} (hx:c.Items[i]?=some x) {m:Move} {u:Custody} (hu:rng 1 4 u.Branch=true) (hl:c.Moves.length<5000000):MidP (zgw c i x m u):=by
 refine ⟨zwd h.short (by omega) hx,?_,h.holdsN,h.sorted,h.rank,h.few,h.cal,h.rules,fun y hy=>?_,?_,h.chN⟩
 ·show (c.Moves++[m]).length<_
  simp;omega
 ·rcases List.mem_or_eq_of_mem_set hy with hy|hy
  ·exact h.branch y hy
  ·rw[hy];exact hu
 ·exact zavj (zc1 hx rfl) h.ids
theorem zmu {c:Custody} {m:Move} {u:Custody} (h:za9 c m=(u,0)):rng 1 4 u.Branch=true:=by
 have:=zhn (c:=c) (m:=m) (by rw[h];rfl)
 rw[h]at this
 exact this
theorem zjw {c:Circ} (h:MidP c) {i:Nat} {x:Item} (hx:c.Items[i]?=some x) (kind branch who:Int) :
 (∃u,za9 x.Custody ⟨c.Today,x.ID,kind,branch,who⟩=(u,0)∧qbj (i:Int) kind branch who ⟨c,0⟩=some ((),⟨zgw c i x ⟨c.Today,x.ID,kind,branch,who⟩ u,0⟩)∧
  qas c x.ID kind branch who=some (zgw c i x ⟨c.Today,x.ID,kind,branch,who⟩ u,0)∧MidP (zgw c i x ⟨c.Today,x.ID,kind,branch,who⟩ u))∨
 (∃e,e≠0∧qbj (i:Int) kind branch who ⟨c,0⟩=some ((),⟨c,e⟩)∧qas c x.ID kind branch who=some (zcg,e)):=by
 have hmv:=h.moves
 have dm:=zf3 (kind:=kind) (branch:=branch) (who:=who) h.short (by omega) hx
 have rm:=zaai (kind:=kind) (branch:=branch) (who:=who) h.short (by omega) (zlk h hx) hx rfl
 rw[dm,rm]
 cases ha:za9 x.Custody ⟨c.Today,x.ID,kind,branch,who⟩ with
 |mk u e=>
  by_cases hE:zgb c e=0
  ·left
   simp only[hE,beq_self_eq_true,cond_true]
   have he:e=0∧c.Moves.length<2000:=by
    unfold zgb at hE
    cases hb:(e==0&&decide (2000≤(c.Moves.length:Int))) with
    |true=>rw[hb]at hE;cases hE
    |false=>
     rw[hb]at hE
     simp only[cond_false]at hE
     subst hE
     simp only[beq_self_eq_true,Bool.true_and,decide_eq_false_iff_not]at hb
     exact ⟨rfl,by omega⟩
   obtain ⟨rfl,hlen⟩:=he
   exact ⟨u,rfl,rfl,rfl,z94 h hx (zmu ha) (by omega)⟩
  ·right
   have hE2:(zgb c e==0)=false:=by simpa using hE
   simp only[hE2,cond_false]
   exact ⟨zgb c e,hE,rfl,rfl⟩
theorem z0v {c:Circ} (h:MidP c) {i:Nat} {x:Item} (hx:c.Items[i]?=some x):∃v,qds c x=some v∧qet c x.ID=some v∧(getH c.Holds v).2=!(v==0)∧(v≠0→∃o∈c.Holds,o.ID=v∧getH c.Holds v=(o,true)∧zcd x.Record c.Today o=true):=by
 have hf:(c.Holds.filter (zcd x.Record c.Today)).length<20:=by
  have e:c.Holds.filter (zcd x.Record c.Today)=(c.Holds.filter (fun o=>o.Record==x.Record)).filter (zcd x.Record c.Today):=by
   rw[List.filter_filter]
   apply List.filter_congr
   intro o _
   unfold zcd
   cases o.Record==x.Record<;>simp
  rw[e]
  have:=List.length_filter_le (zcd x.Record c.Today) (c.Holds.filter (fun o=>o.Record==x.Record))
  have:=h.few x.Record
  omega
 have q1:=za4l (l:=c.Holds) (x:=x) (branch:=x.Custody.Branch) (day:=c.Today) (vlocal:=c.Local) h.holdsN hf (fun o ho=>(h.rank o ho).1)
 have q2:=za4g (l:=c.Holds) (x:=x) (branch:=x.Custody.Branch) (day:=c.Today) (vlocal:=c.Local) h.holdsN h.sorted
 rw[zaaa (fun o ho=>(h.rank o (List.mem_filter.1 (zgl ho)).1).2) (fun _=>rfl)]at q1
 refine ⟨_,by unfold qds;rw[q1],by unfold qet;rw[zlk h hx];simp only[zah,hx,q2],?_,?_⟩
 ·rcases zui (branch:=x.Custody.Branch) (vlocal:=c.Local) (x:=x) (q:=zba (c.Holds.filter (zcd x.Record c.Today))) (f:=0) with e|⟨o,ho,e⟩
  ·rw[e]
   unfold getH
   have:c.Holds.find? (fun h=>h.ID==0)=none:=by
    rw[List.find?_eq_none]
    intro o ho
    have:=(h.rank o ho).2
    simpa using this
   rw[this]
   try rfl
  ·rw[e]
   have hm:=(List.mem_filter.1 (zgl ho)).1
   rw[zgn h.sorted hm]
   have:=(h.rank o hm).2
   simp[this]
 ·intro hv
  rcases zui (branch:=x.Custody.Branch) (vlocal:=c.Local) (x:=x) (q:=zba (c.Holds.filter (zcd x.Record c.Today))) (f:=0) with e|⟨o,ho,e⟩
  ·exact absurd e hv
  ·have hm:=List.mem_filter.1 (zgl ho)
   exact ⟨o,hm.1,e.symm,by rw[e];exact zgn h.sorted hm.1,hm.2⟩
end Go.Proofs.YtdahfgialanmpaaGreatDoor
namespace Go.Proofs.YtdahfgialanmpaaGreatDoor
open Ev
open Go (IntKind)
theorem za3n {α:Type} (a b:Bool) (x y:α):(bif a then (bif b then x else y) else y)=bif a&&b then x else y:=by cases a<;>rfl
def okS (state u:Int):Bool:=(state==3&&rng 1 109572 u)||(state==2&&u==0)
def gotH (x:Hold) (item state u:Int):Hold:=⟨x.ID,x.Patron,x.Record,x.Item,x.Pickup,x.Placed,state,item,u,x.Asleep,x.Rank⟩
def ze3 (l:List Hold) (id item state u:Int):List Hold×Int:=
 match l.find? (fun h=>h.ID==id) with
 |none=>([],9)
 |some x=>bif !(rng 1 9999 item)||!(okS state u) then ([],1)
  else bif !(x.State==1)&&((!(x.State==2)||!(x.Got==item))||!(state==3)) then ([],12)
  else bif l.any (fun o=>o.Got==item&&!(o.ID==id)) then ([],7)
  else (l.set (fIdx (fun h=>h.ID==id) l).toNat (gotH x item state u),0)
theorem znk {l:List Hold} (hl:l.length<1000000000):qdy l=some l:=by
 unfold qdy;rw[zjm hl];rfl
theorem za42 {l:List Hold} {i:Nat} {x y:Hold} (hl:l.length<1000000000) (hx:l[i]?=some x):qfb l (i:Int) y=some (l.set i y):=by
 unfold qfb
 simp only[znk hl,zah,hx,Int.toNat_natCast]
theorem zaws (state u:Int):(!(okS state u))=(!(state==3&&rng 1 109572 u)&&(!(state==2)||!(u==0))):=by
 unfold okS
 cases (state==3&&rng 1 109572 u)<;>cases state==2<;>cases u==0<;>rfl
theorem zany {l:List Hold} {id item state u:Int} (hl:l.length<1000000000):qan l id item state u=some (ze3 l id item state u):=by
 unfold qan qa7 ze3
 rw[z0y (p:=fun (g:Unit×Int×Unit) x0=>qeo x0 g.2.1) (g:=((),(id,()))) (fun x=>x.ID==id) hl (fun x _=>rfl)]
 have hc:=zaw3 (p:=fun (g:Unit×Int×Int×Unit) x0=>qcz x0 g.2.1 g.2.2.1) (g:=((),(item,id,()))) (fun o=>o.Got==item&&!(o.ID==id)) hl (fun o _=>by
  simp -zeta only[qcz,za7];rfl)
 rcases zbc (fun x:Hold=>x.ID==id) l with ⟨h1,h2⟩|⟨i,x,h1,h2,h3,h4⟩
 ·simp only[h1,h2,zr9,cond_true]
 ·simp -zeta only[h1,h4,zmz,cond_false,zah,h2,zaaq,k_or,za7,zii,Int.toNat_natCast]
  dsimp only
  rw[zaws]
  cases (!(rng 1 9999 item)||(!(state==3&&rng 1 109572 u)&&(!(state==2)||!(u==0)))) with
  |true=>rfl
  |false=>
   simp only[cond_false,za3n]
   cases (!(x.State==1)&&((!(x.State==2)||!(x.Got==item))||!(state==3))) with
   |true=>rfl
   |false=>
    simp only[cond_false,hc]
    cases l.any (fun o=>o.Got==item&&!(o.ID==id)) with
    |true=>rfl
    |false=>simp only[cond_false,za42 hl h2];rfl
theorem zaw2 {l:List Hold} {y:Hold} (hl:l.length<1000000000):qbt l y=some (l.map (fun x=>bif x.ID==y.ID then y else x)):=by
 have h:=zbb (step:=zox) (fun (i:Nat) (s:List Hold)=>s.length≤i) (fun i s=>(l,(i:Int),y,s,())) l
  (fun i x s=>.inl (s++[bif x.ID==y.ID then y else x])) (fun s=>(s,())) (by rw[za0];omega)
  (fun s _=>by simp only[zox,dge,cond_false])
  (fun i x s hx hi=>by
   have hlt:=(List.getElem?_eq_some_iff.1 hx).1
   have l1:∀z:Hold,decide (s.length+([z]:List Hold).length≤LIM)=true:=fun z=>zfb (by simp;omega)
   refine ⟨?_,fun s' hs'=>?_⟩
   ·simp only[zox,dlt hlt,zah,hx,cond_true,l1,zam (show i<9223372036854775807 by omega)]
    cases x.ID==y.ID<;>rfl
   ·cases hs'
    simp
    omega) [] (by simp)
 rw[zb9]at h
 unfold qbt
 rw[show zac zox (l,0,y,([]:List Hold),())=_ from h]
 simp only
 congr 1
 have key:∀(l o:List Hold),l.foldl (fun s x=>s++[bif x.ID==y.ID then y else x]) o=o++l.map (fun x=>bif x.ID==y.ID then y else x):=by
  intro l
  induction l with
  |nil=>intro o;simp
  |cons x l ih=>intro o;rw[List.foldl_cons,ih];simp
 rw[key,List.nil_append]
theorem z24 {l:List Hold} (hsort:∀i x,l[i]?=some x→zbo l i (fun y=>decide (x.ID≤y.ID))=false) {i:Nat} {x y:Hold} (hx:l[i]?=some x) (hy:y.ID=x.ID):l.map (fun z=>bif z.ID==y.ID then y else z)=l.set i y:=by
 apply List.ext_getElem?
 intro j
 rw[List.getElem?_map,List.getElem?_set]
 have hlt:=(List.getElem?_eq_some_iff.1 hx).1
 split
 ·rename_i e
  subst e
  simp only[hx,Option.map_some,hlt,if_true,hy,beq_self_eq_true,cond_true]
 ·rename_i e
  cases hj:l[j]? with
  |none=>rfl
  |some z=>
   have hne:¬z.ID=y.ID:=by
    rw[hy]
    rcases Nat.lt_or_gt_of_ne e with h|h
    ·have:=zcu (key:=fun y:Hold=>y.ID) hsort j i x z h hx hj;omega
    ·have:=zcu (key:=fun y:Hold=>y.ID) hsort i j z x h hj hx;omega
   have hb:(z.ID==y.ID)=false:=by simpa using hne
   simp only[Option.map_some,hb,cond_false]
theorem zawr (state u:Int):((!(state==2)&&!(state==3))||(state==3&&(decide (u<1)||!(rng 0 109572 u)))||(state==2&&!(u==0)))=!(okS state u):=by
 unfold okS
 by_cases h3:state=3
 ·subst h3
  unfold rng
  by_cases h1:u<1
  ·have:¬1≤u:=by omega
   simp[h1,this]
  ·have a:1≤u:=by omega
   have b:0≤u:=by omega
   simp[h1,a,b]
 ·have e3:(state==3)=false:=by simpa using h3
  rw[e3]
  cases state==2<;>cases u==0<;>rfl
theorem zan3 {l:List Hold} {id item state u:Int} (hl:l.length<1000000000) (hsort:∀i x,l[i]?=some x→zbo l i (fun y=>decide (x.ID≤y.ID))=false):qbm l id item state u=some (ze3 l id item state u):=by
 unfold qbm ze3
 rw[z0x hl]
 unfold getH
 rcases zbc (fun x:Hold=>x.ID==id) l with ⟨h1,h2⟩|⟨i,x,h1,h2,h3,h4⟩
 ·rw[h2];rfl
 ·have hxid:x.ID=id:=by simpa using h3
  have hw:=zbf (step:=zou) (fun i=>(l,id,item,state,u,(i:Int),x,())) l (fun o=>!(o.ID==id)&&o.Got==item) (fun _ _=>(.inr ([],7,()):(List Hold×Int×Int×Int×Hold×Unit)⊕(List Hold×Int×Unit))) (.inl (l,item,state,u,x,())) hl
   (by simp only[zou,dge,cond_false])
   (fun j y hy=>by
    have hlt:=(List.getElem?_eq_some_iff.1 hy).1
    simp -zeta only[zou,dlt hlt,zah,hy,cond_true,za7,zam (show j<9223372036854775807 by omega)]
    rfl)
  rw[zd8]at hw
  rw[h4]
  simp -zeta only[Bool.not_true,cond_false,zaoh,zaoj,k_or,za7,zii,h1,Int.toNat_natCast]
  dsimp only
  rw[←zawr]
  have eb:∀a b c d:Bool,((a||b||c)||d)=(a||(b||c||d)):=by decide
  cases hq:(!(rng 1 9999 item)||(!(state==2)&&!(state==3)||(state==3&&(decide (u<1)||!(rng 0 109572 u)))||(state==2&&!(u==0)))) with
  |true=>
   rw[←eb]at hq
   rw[hq]
   try rfl
  |false=>
   rw[←eb]at hq
   rw[hq]
   simp only[cond_false,za3n]
   cases (!(x.State==1)&&((!(x.State==2)||!(x.Got==item))||!(state==3))) with
   |true=>rfl
   |false=>
    simp only[cond_false]
    rw[show zac zou (l,id,item,state,u,0,x,())=_ from hw]
    have ea:l.any (fun o=>o.Got==item&&!(o.ID==id))=(l.find? (fun o=>!(o.ID==id)&&o.Got==item)).isSome:=by
     rw[Bool.eq_iff_iff,List.find?_isSome,List.any_eq_true]
     constructor
     ·rintro ⟨o,ho,hp⟩;exact ⟨o,ho,by rw[Bool.and_comm];exact hp⟩
     ·rintro ⟨o,ho,hp⟩;exact ⟨o,ho,by rw[Bool.and_comm];exact hp⟩
    rw[ea]
    cases l.find? (fun o=>!(o.ID==id)&&o.Got==item) with
    |some o=>rfl
    |none=>
     simp only[Option.isSome_none,cond_false]
     have:=zaw2 (l:=l) (y:=gotH x item state u) hl
     rw[z24 hsort h2 (y:=gotH x item state u) rfl]at this
     rw[show qbt l (⟨x.ID,x.Patron,x.Record,x.Item,x.Pickup,x.Placed,state,item,u,x.Asleep,x.Rank⟩:Hold)=_ from this]
def zcx (o:Hold):Int×Int×Int:=(o.ID,o.Rank,o.Record)
theorem zsf {c:Circ} (h:MidP c) {l:List Hold} (e:l.map zcx=c.Holds.map zcx):MidP (zat c l):=by
 have hlen:l.length=c.Holds.length:=by have:=congrArg List.length e;simpa using this
 have key:∀(i:Nat) (x:Hold),l[i]?=some x→∃x',c.Holds[i]?=some x'∧zcx x'=zcx x:=by
  intro i x hx
  have h1:(l.map zcx)[i]?=some (zcx x):=by rw[List.getElem?_map,hx];rfl
  rw[e,List.getElem?_map]at h1
  cases hl:c.Holds[i]? with
  |none=>rw[hl]at h1;cases h1
  |some x'=>rw[hl]at h1;exact ⟨x',rfl,by simpa using h1⟩
 refine ⟨zeg h.short (by rw[hlen];exact h.short.holds),h.moves,?_,?_,?_,?_,h.cal,h.rules,h.branch,h.ids,h.chN⟩
 ·show l.length<_;rw[hlen];exact h.holdsN
 ·intro i x hx
  obtain ⟨x',hx',ek⟩:=key i x hx
  have hs:=h.sorted i x' hx'
  cases i with
  |zero=>rfl
  |succ j=>
   show zbo l (j+1) _=false
   unfold zbo at hs ⊢
   simp only at hs ⊢
   cases hj:l[j]? with
   |none=>rfl
   |some y=>
    obtain ⟨y',hy',ey⟩:=key j y hj
    rw[hy']at hs
    unfold zcx at ek ey
    simp only[Prod.mk.injEq]at ek ey
    simp only at hs;rw[ek.1,ey.1]at hs
    exact hs
 ·intro o ho
  obtain ⟨i,hi⟩:=List.getElem?_of_mem ho
  obtain ⟨x',hx',ek⟩:=key i o hi
  have:=h.rank x' (List.mem_of_getElem? hx')
  unfold zcx at ek
  simp only[Prod.mk.injEq]at ek
  rw[←ek.1,←ek.2.1]
  exact this
 ·intro r
  have e1:∀m:List Hold,(m.filter (fun o=>o.Record==r)).length=((m.map zcx).filter (fun k=>k.2.2==r)).length:=by
   intro m
   rw[List.filter_map,List.length_map]
   try rfl
  show (l.filter (fun o=>o.Record==r)).length<20
  rw[e1,e,←e1]
  exact h.few r
theorem zni {l:List Hold} {id item state u:Int} (h:(ze3 l id item state u).2=0):(ze3 l id item state u).1.map zcx=l.map zcx:=by
 unfold ze3 at h ⊢
 rcases zbc (fun x:Hold=>x.ID==id) l with ⟨h1,h2⟩|⟨i,x,h1,h2,h3,h4⟩
 ·rw[h2]at h;cases h
 ·rw[h4]at h ⊢
  simp only at h ⊢
  cases hq:(!(rng 1 9999 item)||!(okS state u)) with
  |true=>rw[hq]at h;cases h
  |false=>
   rw[hq]at h
   simp only[cond_false]at h ⊢
   cases hq2:(!(x.State==1)&&((!(x.State==2)||!(x.Got==item))||!(state==3))) with
   |true=>rw[hq2]at h;cases h
   |false=>
    rw[hq2]at h
    simp only[cond_false]at h ⊢
    cases hq3:l.any (fun o=>o.Got==item&&!(o.ID==id)) with
    |true=>rw[hq3]at h;cases h
    |false=>
     simp only[cond_false,h1,Int.toNat_natCast]
     exact zc1 h2 rfl
end Go.Proofs.YtdahfgialanmpaaGreatDoor
namespace Go.Proofs.YtdahfgialanmpaaGreatDoor
open Ev
open Go (IntKind)
structure Frame (c d:Circ):Prop where
 ids:d.Items.map (fun x=>x.ID)=c.Items.map (fun x=>x.ID)
 holds:d.Holds.map zcx=c.Holds.map zcx
 patrons:d.Patrons=c.Patrons
 loans:d.Loans=c.Loans
 charges:d.Charges=c.Charges
 rules:d.Rules=c.Rules
 cals:d.Cals=c.Cals
 today:d.Today=c.Today
 here:d.Local=c.Local
 nh:d.NextHold=c.NextHold
 nc:d.NextCharge=c.NextCharge
 br:d.Items.map (fun x=>x.Custody.Branch)=c.Items.map (fun x=>x.Custody.Branch)
 recs:d.Items.map (fun x=>x.Record)=c.Items.map (fun x=>x.Record)
theorem Frame.refl (c:Circ):Frame c c:=⟨rfl,rfl,rfl,rfl,rfl,rfl,rfl,rfl,rfl,rfl,rfl,rfl,rfl⟩
theorem Frame.trans {a b c:Circ} (h:Frame a b) (k:Frame b c):Frame a c:=
 ⟨k.ids.trans h.ids,k.holds.trans h.holds,k.patrons.trans h.patrons,k.loans.trans h.loans,k.charges.trans h.charges,k.rules.trans h.rules,k.cals.trans h.cals,k.today.trans h.today,k.here.trans h.here,k.nh.trans h.nh,k.nc.trans h.nc,k.br.trans h.br,k.recs.trans h.recs⟩
theorem zhb {c:Circ} {i:Nat} {x:Item} (hx:c.Items[i]?=some x) (m:Move) {u:Custody} (hu:u.Branch=x.Custody.Branch):Frame c (zgw c i x m u):=
 ⟨zc1 hx rfl,rfl,rfl,rfl,rfl,rfl,rfl,rfl,rfl,rfl,rfl,zc1 hx hu,zc1 hx rfl⟩
theorem zg5 {c:Custody} {m:Move} {u:Custody} (h:za9 c m=(u,0)) (hk:(zc5 m.Kind==2)=false):u.Branch=c.Branch:=by
 unfold za9 at h
 cases e1:(!(zjh c)||!(zm9 m)) with
 |true=>rw[e1]at h;cases h
 |false=>
  rw[e1]at h
  simp only[cond_false]at h
  cases e2:!(zj2 c.State m.Kind) with
  |true=>rw[e2]at h;cases h
  |false=>
   rw[e2]at h
   simp only[cond_false]at h
   cases e3:(m.Kind==3&&c.State==5&&!(m.Who==c.Who)) with
   |true=>rw[e3]at h;cases h
   |false=>
    rw[e3]at h
    simp only[cond_false]at h
    cases e4:!(zaat c m) with
    |true=>rw[e4]at h;cases h
    |false=>
     rw[e4]at h
     simp only[cond_false,hk]at h
     cases e5:(zc5 m.Kind==4||(zc5 m.Kind==5||zc5 m.Kind==8)) with
     |true=>rw[e5]at h;cases h;rfl
     |false=>
      rw[e5]at h
      simp only[cond_false]at h
      cases e6:(zc5 m.Kind==6) with
      |true=>rw[e6]at h;cases h;rfl
      |false=>
       rw[e6]at h
       simp only[cond_false]at h
       cases e7:(zc5 m.Kind==9||zc5 m.Kind==10) with
       |true=>rw[e7]at h;cases h;rfl
       |false=>rw[e7]at h;cases h;rfl
theorem zf2 {c:Circ} {l:List Hold} (e:l.map zcx=c.Holds.map zcx):Frame c (zat c l):=⟨rfl,e,rfl,rfl,rfl,rfl,rfl,rfl,rfl,rfl,rfl,rfl,rfl⟩
def SimD (a:Option (Unit×Circ_desk)) (b:Option (Circ×Int)) (Q:Circ→Prop):Prop:=
 (∃c,a=some ((),⟨c,0⟩)∧b=some (c,0)∧Q c)∨∃c e,e≠0∧a=some ((),⟨c,e⟩)∧b=some (zcg,e)∧Short c
def zajz (a b:Option (Circ×Int)):Prop:=∃c e,a=some (c,e)∧b=some (c,e)∧Short c
theorem znh {e:Int}:zajz (some (zcg,e)) (some (zcg,e)):=⟨_,_,rfl,rfl,zi0⟩
theorem zp1 (c:Circ) (e0:Int) (h0:e0≠0):q8 ⟨c,e0⟩=some ((zcg,e0),⟨c,e0⟩):=by
 have h:(e0==0)=false:=by simpa using h0
 unfold q8
 simp only[h,Bool.not_false,cond_true]
 try rfl
theorem zp3 {c:Circ} (h:MidP c) {b n:Int} (hb:rng 1 4 b=true):∃d e,qex b n ⟨c,0⟩=some (d,⟨c,e⟩)∧qb2 (calS c b) c.Today n=some (d,e):=by
 obtain ⟨d,e,hq⟩:=znx (h.cal b) c.Today n
 refine ⟨d,e,?_,hq⟩
 unfold qex
 simp only[zaoc hb,zaae (h.cal b),hq]
 by_cases he:e=0
 ·subst he;rfl
 ·have he2:(e==0)=false:=by simpa using he
  simp only[he2,Bool.not_false,cond_true,qt,beq_self_eq_true]
theorem zmx {c:Circ} (h:MidP c) {b n e0:Int} (hb:rng 1 4 b=true) (h0:e0≠0):∃d,qex b n ⟨c,e0⟩=some (d,⟨c,e0⟩):=by
 obtain ⟨d,e,hq⟩:=znx (h.cal b) c.Today n
 have h2:(e0==0)=false:=by simpa using h0
 refine ⟨d,?_⟩
 unfold qex
 simp only[zaoc hb,zaae (h.cal b),hq]
 cases e==0<;>simp only[Bool.not_false,Bool.not_true,cond_true,cond_false,qt,h2]
theorem z35 {c:Circ} (h:MidP c) {i:Nat} {x:Item} (hx:c.Items[i]?=some x) (o:Hold):SimD (qd0 (i:Int) o ⟨c,0⟩) (qe9 c x.ID o) (fun d=>(MidP d∧Frame c d)∧(∃u,d.Items=c.Items.set i (zne u x))∧∃st u,ze3 c.Holds o.ID x.ID st u=(d.Holds,0)):=by
 obtain ⟨r,b,hr,_⟩:=zaw8 (p:=o.Patron) (x:=x) h.short
 have hb:=h.branch x (List.mem_of_getElem? hx)
 unfold qd0 qe9
 simp -zeta only[beq_self_eq_true,Bool.not_true,cond_false,zlk h hx,zah,hx,zaap h.short,hr]
 rcases zjw h hx 5 x.Custody.Branch o.Patron with ⟨u,ha,m1,m2,hm2⟩|⟨e,he,m1,m2⟩
 ·have hf:=zhb hx ⟨c.Today,x.ID,5,x.Custody.Branch,o.Patron⟩ (zg5 ha rfl)
  rw[m1,m2]
  have hh:(zgw c i x ⟨c.Today,x.ID,5,x.Custody.Branch,o.Patron⟩ u).Holds=c.Holds:=rfl
  have hI:(zgw c i x ⟨c.Today,x.ID,5,x.Custody.Branch,o.Patron⟩ u).Items=c.Items.set i (zne u x):=rfl
  generalize zgw c i x ⟨c.Today,x.ID,5,x.Custody.Branch,o.Patron⟩ u=c2 at hm2 hf hh hI
  dsimp only
  have core:∀days:Int,∃d e,qex x.Custody.Branch days ⟨c2,0⟩=some (d,⟨c2,e⟩)∧qb2 (calS c2 x.Custody.Branch) c2.Today days=some (d,e):=fun days=>zp3 hm2 hb
  cases b
  all_goals
   simp only[cond_true,cond_false,beq_self_eq_true,Bool.not_true,za6v hb]
   obtain ⟨d,e,l1,l2⟩:=core _
   rw[l1,l2]
   by_cases he:e=0
   ·subst he
    simp only[beq_self_eq_true,Bool.not_true,cond_true,cond_false,zany hm2.short.holds,zan3 hm2.short.holds hm2.sorted]
    have ck:=zni (l:=c2.Holds) (id:=o.ID) (item:=x.ID) (state:=3) (u:=d)
    generalize hcq:ze3 c2.Holds o.ID x.ID 3 d=q at ck
    obtain ⟨l,e⟩:=q
    by_cases he:e=0
    ·subst he
     exact .inl ⟨zat c2 l,rfl,rfl,⟨zsf hm2 (ck rfl),hf.trans (zf2 (ck rfl))⟩,⟨u,hI⟩,3,d,by rw[←hh];exact hcq⟩
    ·have he2:(e==0)=false:=by simpa using he
     simp only[zdo c2 l e he,he2,Bool.not_false,cond_true]
     exact .inr ⟨_,e,he,rfl,rfl,hm2.short⟩
   ·have he2:(e==0)=false:=by simpa using he
    simp only[he2,Bool.not_false,cond_true,cond_false]
    exact .inr ⟨_,e,he,rfl,rfl,hm2.short⟩
 ·have he2:(e==0)=false:=by simpa using he
  rw[m1,m2]
  dsimp only
  cases b
  all_goals
   simp only[cond_true,cond_false,he2,Bool.not_false]
   obtain ⟨d,l1⟩:=zmx (n:=_) h hb he
   rw[l1]
   simp only[he2,cond_false]
   exact .inr ⟨_,e,he,rfl,rfl,h.short⟩
theorem ziy {c:Circ} {i:Nat} {x:Item} (hx:c.Items[i]?=some x) (kind:Int):qc5 (i:Int) kind ⟨c,0⟩=qbj (i:Int) kind x.Custody.Branch 0 ⟨c,0⟩:=by
 unfold qc5
 simp only[beq_self_eq_true,cond_true,zah,hx]
 cases qbj (i:Int) kind x.Custody.Branch 0 ⟨c,0⟩ with
 |none=>rfl
 |some p=>rfl
theorem zp0 (c:Circ) (i e0:Int) (h0:e0≠0):qcw i ⟨c,e0⟩=some ((),⟨c,e0⟩):=by
 have h:(e0==0)=false:=by simpa using h0
 unfold qcw
 simp only[h,Bool.not_false,cond_true]
theorem zajs {X:Type} {l:List X} {i:Nat} {x:X} (h:l[i]?=some x):l.set i x=l:=by
 obtain ⟨h1,h2⟩:=List.getElem?_eq_some_iff.1 h
 rw[←h2,List.set_getElem_self]
theorem zag2 {l:List Hold} (hs:∀i x,l[i]?=some x→zbo l i (fun y=>decide (x.ID≤y.ID))=false) {o p:Hold} (ho:o∈l) (hp:p∈l) (e:o.ID=p.ID):o=p:=by
 have h1:=zgn hs ho
 have h2:=zgn hs hp
 rw[e,h2]at h1
 cases h1
 try rfl
def Put (c d:Circ) (i:Nat) (x:Item):Prop:=(∃u,d.Items=c.Items.set i (zne u x))∧∃v,qds c x=some v∧((v=0∧d.Holds=c.Holds)∨∃st u,ze3 c.Holds v x.ID st u=(d.Holds,0)∧(st=3→∀o∈c.Holds,o.ID=v→o.Pickup=x.Custody.Branch))
theorem zrl {c:Circ} (h:MidP c) {i:Nat} {x:Item} (hx:c.Items[i]?=some x):SimD (qcw (i:Int) ⟨c,0⟩) (qeu c x.ID) (fun d=>(MidP d∧Frame c d)∧Put c d i x):=by
 obtain ⟨v,p1,p2,g1,g2⟩:=z0v h hx
 have mv:∀kind branch who:Int,(zc5 kind==2)=false→SimD (qbj (i:Int) kind branch who ⟨c,0⟩) (qas c x.ID kind branch who) (fun d=>(MidP d∧Frame c d)∧d.Holds=c.Holds∧∃u,d.Items=c.Items.set i (zne u x)):=by
  intro kind branch who hk
  rcases zjw h hx kind branch who with ⟨u,ha,m1,m2,hm2⟩|⟨e,he,m1,m2⟩
  ·exact .inl ⟨_,m1,m2,⟨hm2,zhb hx _ (zg5 ha hk)⟩,rfl,u,rfl⟩
  ·exact .inr ⟨_,e,he,m1,m2,h.short⟩
 unfold qcw qeu
 simp -zeta only[beq_self_eq_true,Bool.not_true,cond_false,zlk h hx,zah,hx,p1,p2,zaog h.short.holds,z0x h.short.holds,ziy hx,za7]
 by_cases hv:v=0
 ·subst hv
  generalize getH c.Holds 0=q at g1 ⊢
  obtain ⟨o,ok⟩:=q
  simp only[beq_self_eq_true,Bool.not_true]at g1
  subst g1
  dsimp only
  simp only[Bool.not_false,Bool.true_and,beq_self_eq_true,cond_true]
  cases x.Branch==x.Custody.Branch with
  |false=>
   simp only[Bool.not_false,cond_true]
   rcases mv 6 x.Branch 0 rfl with ⟨d,m1,m2,hQ,hH,hI⟩|⟨d,e,he,m1,m2,hsd⟩
   ·rw[m1,m2];exact .inl ⟨d,rfl,rfl,hQ,hI,0,p1,.inl ⟨rfl,hH⟩⟩
   ·rw[m1,m2];exact .inr ⟨d,e,he,rfl,rfl,hsd⟩
  |true=>
   simp only[Bool.not_true,cond_false]
   cases x.Custody.State==3 with
   |true=>exact .inl ⟨c,rfl,rfl,⟨h,Frame.refl c⟩,⟨x.Custody,(zajs hx).symm⟩,0,p1,.inl ⟨rfl,rfl⟩⟩
   |false=>
    simp only[Bool.not_false,cond_true,cond_false]
    rcases mv 2 x.Custody.Branch 0 rfl with ⟨d,m1,m2,hQ,hH,hI⟩|⟨d,e,he,m1,m2,hsd⟩
    ·rw[m1,m2];exact .inl ⟨d,rfl,rfl,hQ,hI,0,p1,.inl ⟨rfl,hH⟩⟩
    ·rw[m1,m2];exact .inr ⟨d,e,he,rfl,rfl,hsd⟩
 ·have hv2:(v==0)=false:=by simpa using hv
  obtain ⟨o,ho,hoi,hg,hw⟩:=g2 hv
  rw[hg,hv2]
  dsimp only
  simp only[Bool.not_true,Bool.false_and,cond_false]
  cases hpk:o.Pickup==x.Custody.Branch with
  |true=>
   simp only[cond_true]
   rcases z35 h hx o with ⟨d,m1,m2,hQ,hI,st,u,hH⟩|⟨d,e,he,m1,m2,hsd⟩
   ·rw[m1,m2];exact .inl ⟨d,rfl,rfl,hQ,hI,v,p1,.inr ⟨st,u,by rw[←hoi];exact hH,fun _ o2 ho2 hv2=>by rw[zag2 h.sorted ho2 ho (hv2.trans hoi.symm)];simpa using hpk⟩⟩
   ·rw[m1,m2];exact .inr ⟨d,e,he,rfl,rfl,hsd⟩
  |false=>
   simp only[cond_false]
   rcases mv 6 o.Pickup o.Patron rfl with ⟨d,m1,m2,⟨hm2,hf⟩,hH,hI⟩|⟨d,e,he,m1,m2,hsd⟩
   ·rw[m1,m2]
    simp only[beq_self_eq_true,Bool.not_true,cond_true,cond_false,zany hm2.short.holds,zan3 hm2.short.holds hm2.sorted]
    have ck:=zni (l:=d.Holds) (id:=v) (item:=x.ID) (state:=2) (u:=0)
    generalize hcq:ze3 d.Holds v x.ID 2 0=q at ck
    obtain ⟨l,e⟩:=q
    by_cases he:e=0
    ·subst he
     exact .inl ⟨zat d l,rfl,rfl,⟨zsf hm2 (ck rfl),hf.trans (zf2 (ck rfl))⟩,hI,v,p1,.inr ⟨2,0,by rw[←hH];exact hcq,fun h=>absurd h (by decide)⟩⟩
    ·have he2:(e==0)=false:=by simpa using he
     simp only[zdo d l e he,he2,Bool.not_false,cond_true]
     exact .inr ⟨_,e,he,rfl,rfl,hm2.short⟩
   ·have he2:(e==0)=false:=by simpa using he
    rw[m1,m2]
    simp only[he2,cond_false,Bool.not_false,cond_true]
    exact .inr ⟨d,e,he,rfl,rfl,hsd⟩
end Go.Proofs.YtdahfgialanmpaaGreatDoor
namespace Go.Proofs.YtdahfgialanmpaaGreatDoor
open Ev
open Go (IntKind)
theorem z0w {c:Circ} {i:Nat} {x:Item} (hx:c.Items[i]?=some x) (m:Move) (u:Custody):(zgw c i x m u).Items[i]?=some (zne u x):=by
 show (c.Items.set i (zne u x))[i]?=_
 rw[List.getElem?_set_self (List.getElem?_eq_some_iff.1 hx).1]
end Go.Proofs.YtdahfgialanmpaaGreatDoor
namespace Go.Proofs.YtdahfgialanmpaaGreatDoor
open Ev
open Go (IntKind)
theorem z7x {c d:Circ} (h:Frame c d):d.Items.length=c.Items.length:=by
 have:=congrArg List.length h.ids
 simpa using this
theorem zg3 (c:Circ) (record e:Int) (n i k:Nat) (he:e≠0) :
 za5 zd2 (k+1) (record,(n:Int),(i:Int),⟨c,e⟩,())=some (.inl (⟨c,e⟩,()))∨za5 zd2 (k+1) (record,(n:Int),(i:Int),⟨c,e⟩,())=some (.inr (⟨c,e⟩,())):=by
 have h:(e==0)=false:=by simpa using he
 simp only[za5,zd2]
 cases decide ((i:Int)<(n:Int)) with
 |false=>exact .inl rfl
 |true=>
  simp only[cond_true,h,Bool.not_false]
  refine .inr ?_
  first|rfl|trivial
def Rest (r:Int) (c d:Circ):Prop:=d.Items.map (fun x=>x.Record)=c.Items.map (fun x=>x.Record)∧∀(j:Nat) (y:Item),c.Items[j]?=some y→¬y.Record=r→d.Items[j]?=some y
theorem Rest.refl (r:Int) (c:Circ):Rest r c c:=⟨rfl,fun _ _ h _=>h⟩
theorem Rest.trans {r:Int} {a b c:Circ} (h:Rest r a b) (k:Rest r b c):Rest r a c:=⟨k.1.trans h.1,fun j y hy hr=>k.2 j y (h.2 j y hy hr) hr⟩
theorem zajl {c d:Circ} {i:Nat} {x:Item} {record w:Int} (hx:c.Items[i]?=some x) (hp:Put c d i x) (hq:((x.Record==record&&x.Custody.State==3)&&!(w==0))=true):Rest record c d:=by
 obtain ⟨⟨u,hI⟩,-⟩:=hp
 simp only[Bool.and_eq_true,beq_iff_eq]at hq
 refine ⟨by rw[hI];exact zc1 hx rfl,fun j y hy hr=>?_⟩
 rw[hI,List.getElem?_set]
 split
 ·rename_i e
  subst e
  rw[hx]at hy
  cases hy
  exact absurd hq.1.1 hr
 ·exact hy
theorem z4e {record:Int} {n:Nat} {v:Circ} (hn:n<1000000000):∀(k i:Nat) (c:Circ),i+k=n→MidP c→c.Items.length=n→
 (∃d,za5 zd2 (k+2) (record,(n:Int),(i:Int),⟨c,0⟩,())=some (.inl (⟨d,0⟩,()))∧za5 zh3 (k+2) (record,(i:Int),c,v,())=some (.inl (d,v,()))∧MidP d∧Frame c d∧Rest record c d)∨
 (∃d e,e≠0∧Short d∧(za5 zd2 (k+2) (record,(n:Int),(i:Int),⟨c,0⟩,())=some (.inl (⟨d,e⟩,()))∨za5 zd2 (k+2) (record,(n:Int),(i:Int),⟨c,0⟩,())=some (.inr (⟨d,e⟩,())))∧
  za5 zh3 (k+2) (record,(i:Int),c,v,())=some (.inr (e,zcg,()))):=by
 intro k
 induction k with
 |zero=>
  intro i c hi h hl
  have:i=n:=by omega
  subst this
  refine .inl ⟨c,?_,?_,h,Frame.refl c,Rest.refl _ c⟩
  ·simp only[za5,zd2,dge,cond_false]
  ·simp only[za5,zh3,hl,dge,cond_false]
 |succ k ih=>
  intro i c hi h hl
  have hlt:i<n:=by omega
  have hx:c.Items[i]?=some (c.Items[i]'(by omega)):=List.getElem?_eq_getElem (by omega)
  generalize c.Items[i]'(by omega)=x at hx
  obtain ⟨w,p1,p2,g1,g2⟩:=z0v h hx
  have hsu:=zam (show i<9223372036854775807 by omega)
  have s1:zd2 (record,(n:Int),(i:Int),⟨c,0⟩,())=(bif (x.Record==record&&x.Custody.State==3)&&!(w==0) then (match qcw (i:Int) ⟨c,0⟩ with|some (_,v6)=>some (.inl (record,(n:Int),((i+1:Nat):Int),v6,()))|none=>none) else some (.inl (record,(n:Int),((i+1:Nat):Int),⟨c,0⟩,()))):=by
   simp -zeta only[zd2,dlt hlt,cond_true,beq_self_eq_true,Bool.not_true,cond_false,zah,hx,p1,za7,hsu]
   try rfl
  have s2:zh3 (record,(i:Int),c,v,())=(bif (x.Record==record&&x.Custody.State==3)&&!(w==0) then (match qeu c x.ID with|some (r5,r6)=>(bif !(r6==0) then some (.inr (.inr (r6,zcg,()))) else some (.inl (record,((i+1:Nat):Int),r5,v,())))|none=>none) else some (.inl (record,((i+1:Nat):Int),c,v,()))):=by
   simp -zeta only[zh3,hl,dlt hlt,cond_true,zah,hx,p2,k_or,hsu]
   dsimp only
   cases x.Record==record<;>cases x.Custody.State==3<;>cases w==0<;>rfl
  rw[za5,za5,s1,s2]
  cases hq:(x.Record==record&&x.Custody.State==3)&&!(w==0) with
  |false=>
   simp only[cond_false]
   exact ih (i+1) c (by omega) h hl
  |true=>
   simp only[cond_true]
   rcases zrl h hx with ⟨d,q1,q2,⟨hd,hf⟩,hput⟩|⟨d,e,he,q1,q2,hsd⟩
   ·rw[q1,q2]
    simp only[beq_self_eq_true,Bool.not_true,cond_false]
    rcases ih (i+1) d (by omega) hd (by rw[z7x hf,hl]) with ⟨d2,a1,a2,a3,a4,a5⟩|⟨d2,e,he,hsd,a1,a2⟩
    ·exact .inl ⟨d2,a1,a2,a3,hf.trans a4,(zajl hx hput hq).trans a5⟩
    ·exact .inr ⟨d2,e,he,hsd,a1,a2⟩
   ·have he2:(e==0)=false:=by simpa using he
    rw[q1,q2]
    simp only[he2,Bool.not_false,cond_true]
    exact .inr ⟨d,e,he,hsd,zg3 d record e n (i+1) (k+1) he,rfl⟩
theorem zadx {c:Circ} (h:MidP c) (record:Int):SimD (qbx record ⟨c,0⟩) (qbs c record) (fun d=>MidP d∧Frame c d∧Rest record c d):=by
 have hi:=h.short.items
 unfold qbx qbs
 rcases z4e (record:=record) (v:=zcg) hi c.Items.length 0 c (by omega) h rfl with ⟨d,a1,a2,a3,a4⟩|⟨d,e,he,hsd,a1,a2⟩
 ·have w1:=za3 _ (by rw[za0];omega) a1
  have w2:=za3 _ (by rw[za0];omega) a2
  rw[show zac zd2 (record,(c.Items.length:Int),0,⟨c,0⟩,())=_ from w1,show zac zh3 (record,0,c,(⟨0,[],[],[],[],[],[],⟨⟨0,[]⟩,⟨0,[]⟩,⟨0,[]⟩,⟨0,[]⟩⟩,[],0,0,false⟩:Circ),())=_ from w2]
  exact .inl ⟨d,rfl,rfl,a3,a4⟩
 ·have w2:=za3 _ (by rw[za0];omega) a2
  rw[show zac zh3 (record,0,c,(⟨0,[],[],[],[],[],[],⟨⟨0,[]⟩,⟨0,[]⟩,⟨0,[]⟩,⟨0,[]⟩⟩,[],0,0,false⟩:Circ),())=_ from w2]
  rcases a1 with a1|a1
  ·have w1:=za3 _ (by rw[za0];omega) a1
   rw[show zac zd2 (record,(c.Items.length:Int),0,⟨c,0⟩,())=_ from w1]
   exact .inr ⟨d,e,he,rfl,rfl,hsd⟩
  ·have w1:=za3 _ (by rw[za0];omega) a1
   rw[show zac zd2 (record,(c.Items.length:Int),0,⟨c,0⟩,())=_ from w1]
   exact .inr ⟨d,e,he,rfl,rfl,hsd⟩
theorem zmy (c:Circ) (record e:Int) (he:e≠0):qbx record ⟨c,e⟩=some ((),⟨c,e⟩):=by
 unfold qbx
 rcases zg3 c record e c.Items.length 0 0 he with a1|a1
 ·have w1:=za3 _ (by rw[za0];omega) a1
  rw[show zac zd2 (record,(c.Items.length:Int),0,⟨c,e⟩,())=_ from w1]
 ·have w1:=za3 _ (by rw[za0];omega) a1
  rw[show zac zd2 (record,(c.Items.length:Int),0,⟨c,e⟩,())=_ from w1]
end Go.Proofs.YtdahfgialanmpaaGreatDoor
namespace Go.Proofs.YtdahfgialanmpaaGreatDoor
open Ev
open Go (IntKind)
theorem zv1 {l:List Hold} (h:zbn l=0) {o:Hold} (ho:o∈l):rng 0 9 o.Rank=true∧o.ID≠0:=by
 have:=znv h ho
 unfold zbg at this
 have:=zc3 this (by decide)
 simp only[Bool.or_eq_false_iff,decide_eq_false_iff_not]at this
 obtain ⟨⟨hx,h1⟩,h2⟩:=this
 refine ⟨by rw[zck];omega,?_⟩
 have:=hx.1.1.1.1.1.1.1.1.1.1
 omega
theorem zaa8 {c:Circ} (hs:Short c) {p:Int} {x:Item}:∃r b,qes c p x=some (r,b)∧(b=true→r∈c.Rules)∧(b=false→r.Rank=0):=by
 unfold qes
 rw[zg2 hs.patrons]
 dsimp only
 cases (getP c.Patrons p).2 with
 |false=>exact ⟨_,false,rfl,fun h=>(by cases h),fun _=>rfl⟩
 |true=>
  simp only[Bool.not_true,cond_false]
  unfold qf8
  rw[zaak hs.rules]
  dsimp only
  rcases zrn (l:=c.Rules) (p:=(getP c.Patrons p).1.Kind) (it:=x.Kind) (br:=x.Branch) with h|⟨k,hk,hlt⟩
  ·rw[show decide (z5g c.Rules (getP c.Patrons p).1.Kind x.Kind x.Branch<0)=true by rw[decide_eq_true_eq];exact h]
   exact ⟨_,false,rfl,fun h=>(by cases h),fun _=>rfl⟩
  ·rw[hk,show decide ((k:Int)<0)=false by rw[decide_eq_false_iff_not];omega]
   simp only[cond_false,zah,List.getElem?_eq_getElem hlt]
   exact ⟨_,true,rfl,fun _=>List.getElem_mem hlt,fun h=>(by cases h)⟩
def zi1 (l:List Hold) (h:Hold):List Hold×Int:=
 bif (!(h.State==1)||!(h.Got==0))||!(h.Until==0) then ([],12) else bif !(zbn (l++[h])==0) then ([],zbn (l++[h])) else (l++[h],0)
theorem za4r {l:List Hold} {h:Hold} (hl:l.length<100000000):qd6 l h=some (zi1 l h):=by
 have l1:decide (l.length+([h]:List Hold).length≤LIM)=true:=zfb (by simp;omega)
 unfold qd6 zi1
 simp -zeta only[znk (show l.length<1000000000 by omega),l1,cond_true,za6s (show (l++[h]).length<1000000000 by simp;omega),k_or]
 dsimp only
 cases ((!(h.State==1)||!(h.Got==0))||!(h.Until==0)) with
 |true=>rfl
 |false=>
  simp only[cond_false]
  cases !(zbn (l++[h])==0)<;>rfl
theorem za4o {l:List Hold} {h:Hold} (hl:l.length<100000000):qbq l h=some (zi1 l h):=by
 have hw:=zbb (step:=zow) (fun (i:Nat) (s:List Hold)=>s.length≤i) (fun i s=>(l,(i:Int),h,s,())) l
  (fun i x s=>.inl (s++[x])) (fun s=>(h,s,())) (by rw[za0];omega)
  (fun s _=>by simp only[zow,dge,cond_false])
  (fun i x s hx hi=>by
   have hlt:=(List.getElem?_eq_some_iff.1 hx).1
   have l1:∀z:Hold,decide (s.length+([z]:List Hold).length≤LIM)=true:=fun z=>zfb (by simp;omega)
   refine ⟨?_,fun s' hs'=>?_⟩
   ·simp only[zow,dlt hlt,zah,hx,cond_true,l1,zam (show i<9223372036854775807 by omega)]
   ·cases hs'
    simp
    omega) [] (by simp)
 rw[zb9]at hw
 have key:∀(l o:List Hold),l.foldl (fun s x=>s++[x]) o=o++l:=by
  intro l
  induction l with
  |nil=>intro o;simp
  |cons x l ih=>intro o;rw[List.foldl_cons,ih];simp
 rw[key,List.nil_append]at hw
 have l1:decide (l.length+([h]:List Hold).length≤LIM)=true:=zfb (by simp;omega)
 unfold qbq zi1
 rw[show zac zow (l,0,h,([]:List Hold),())=_ from hw]
 simp -zeta only[l1,cond_true,za5b (show (l++[h]).length<1000000000 by simp;omega),k_or]
 dsimp only
 cases ((!(h.State==1)||!(h.Got==0))||!(h.Until==0)) with
 |true=>rfl
 |false=>
  simp only[cond_false]
  cases !(zbn (l++[h])==0)<;>rfl
def zaea (c:Circ) (n:Int):Circ:=⟨c.Today,c.Items,c.Patrons,c.Loans,c.Holds,c.Charges,c.Rules,c.Cals,c.Moves,n,c.NextCharge,c.Local⟩
theorem za3w {c:Circ} (h:MidP c) (n:Int):MidP (zaea c n):=by
 obtain ⟨⟨a1,a2,a3,a4,a5,a6,a7,a8,a9,a10,a11,a12,a13⟩,h2,h3,h4,h5,h6,h7,h8,h9,h10,h11⟩:=h
 exact ⟨⟨a1,a2,a3,a4,a5,a6,a7,a8,a9,a10,a11,a12,a13⟩,h2,h3,h4,h5,h6,h7,h8,h9,h10,h11⟩
theorem z3g {c:Circ} (h:MidP c) {l:List Hold} (hl:l.length<1000000) (he:zbn l=0) (hf:∀r,(l.filter (fun o=>o.Record==r)).length<20):MidP (zat c l):=by
 obtain ⟨h1,h2,h3,h4,h5,h6,h7,h8,h9,h10,h11⟩:=h
 exact ⟨zeg h1 (by omega),h2,hl,ziz he,fun o ho=>zv1 he ho,hf,h7,h8,h9,h10,h11⟩
def zvq (record item:Int) (x:Item):Bool:=(x.Record==record&&!(x.Custody.State==12))&&(item==0||x.ID==item)
theorem za4t (x:Item) (o:Hold):qdg x o=some (zvq o.Record o.Item x):=by
 have e1:qe4 x o.Record=some (x.Record==o.Record&&!(x.Custody.State==12)):=by
  unfold qe4
  simp -zeta only[za7]
  try rfl
 have e2:qcp o x=some (x.Record==o.Record&&(o.Item==0||x.ID==o.Item)):=by
  unfold qcp
  simp -zeta only[za7,k_or]
  rw[BEq.comm (a:=o.Record),BEq.comm (a:=o.Item) (b:=x.ID)]
 unfold qdg zvq
 simp -zeta only[e1,e2,za7]
 dsimp only
 cases x.Record==o.Record<;>cases !(x.Custody.State==12)<;>rfl
theorem za4k {c:Circ} {record item:Int} (hl:c.Items.length<1000000000):qbd c record item=some (match c.Items.find? (zvq record item) with|some x=>(x,true)|none=>(zh1,false)):=by
 unfold qbd
 have h:=zbf (step:=zos) (fun i=>(record,item,(i:Int),c,zh1,())) c.Items (zvq record item) (fun _ x=>(.inr (true,x,()):(Item×Unit)⊕(Bool×Item×Unit))) (.inl (zh1,())) hl
  (by simp only[zos,dge,cond_false])
  (fun i x hx=>by
   have hi:=(List.getElem?_eq_some_iff.1 hx).1
   simp -zeta only[zos,dlt hi,zah,hx,cond_true,za7,k_or,zam (show i<9223372036854775807 by omega)]
   rfl)
 rw[zd8]at h
 rw[show zac zos (record,item,0,c,(⟨0,0,0,0,0,[],⟨0,0,0,0⟩⟩:Item),())=_ from h]
 cases c.Items.find? (zvq record item)<;>rfl
def zqm (c:Circ) (record:Int) (n:Loan):Bool:=match c.Items.find? (fun x=>x.ID==n.Item) with|some x=>x.Record==record|none=>false
theorem zaay {c:Circ} {f:Int} {o:Hold} {l:List Loan} (hs:Short c) (hl:l.length<1000000000):zac zwz (f,l,(l.length:Int),0,c,o,zh1,()) =
 some (match l.find? (zqm c o.Record) with|some _=>.inr (12,zh1,())|none=>.inl (f,c,zh1,())):=by
 have h:=zbf (step:=zwz) (fun i=>(f,l,(l.length:Int),(i:Int),c,o,zh1,())) l (zqm c o.Record) (fun _ _=>(.inr (12,zh1,()):(Int×Circ×Item×Unit)⊕(Int×Item×Unit))) (.inl (f,c,zh1,())) hl
  (by simp only[zwz,dge,cond_false])
  (fun i n hn=>by
   have hi:=(List.getElem?_eq_some_iff.1 hn).1
   simp -zeta only[zwz,dlt hi,zah,hn,cond_true,zant hs.items,zam (show i<9223372036854775807 by omega)]
   dsimp only
   unfold zqm
   rcases zbc (fun x:Item=>x.ID==n.Item) c.Items with ⟨h1,h2⟩|⟨j,x,h1,h2,h3,h4⟩
   ·rw[h1,h2]
    try rfl
   ·have d0:decide ((0:Int)≤(j:Int))=true:=by rw[decide_eq_true_eq];omega
    rw[h1,h4]
    simp only[d0,cond_true,zah,h2]
    cases x.Record==o.Record<;>rfl)
 rw[zd8]at h
 refine Eq.trans h ?_
 cases l.find? (zqm c o.Record)<;>rfl
theorem zwl {c v:Circ} {p record item pickup:Int} {y:Item} {l:List Loan} (hs:Short c) (hl:l.length<1000000000) (hk:∀n∈l,(c.Items.find? (fun x=>x.ID==n.Item)).isSome=true):zac zhi (p,record,item,pickup,l,0,c,v,y,()) =
 some (match l.find? (zqm c record) with|some _=>.inr (0,12,zcg,())|none=>.inl (p,record,item,pickup,c,v,y,())):=by
 have h:=zbf (step:=zhi) (fun i=>(p,record,item,pickup,l,(i:Int),c,v,y,())) l (zqm c record) (fun _ _=>(.inr (0,12,zcg,()):(Int×Int×Int×Int×Circ×Circ×Item×Unit)⊕(Int×Int×Circ×Unit))) (.inl (p,record,item,pickup,c,v,y,())) hl
  (by simp only[zhi,dge,cond_false])
  (fun i n hn=>by
   have hi:=(List.getElem?_eq_some_iff.1 hn).1
   have hsome:=hk n (List.mem_of_getElem? hn)
   simp -zeta only[zhi,dlt hi,zah,hn,cond_true,zajb hs.items,zam (show i<9223372036854775807 by omega)]
   unfold zqm
   rcases zbc (fun x:Item=>x.ID==n.Item) c.Items with ⟨h1,h2⟩|⟨j,x,h1,h2,h3,h4⟩
   ·rw[h2]at hsome;cases hsome
   ·rw[h1,h4]
    simp only[zah,h2]
    cases x.Record==record<;>rfl)
 rw[zd8]at h
 refine Eq.trans h ?_
 cases l.find? (zqm c record)<;>rfl
theorem z2h {c:Circ} (m:MidP c) (h:FitP c) (hh:c.Holds.length<100000) (hf:∀r,(c.Holds.filter (fun o=>o.Record==r)).length<19) {vid record item pickup:Int}:z4m (qda c vid record item pickup) (qb3 c vid record item pickup):=by
 have hs:=m.short
 have hn:=m.holdsN
 unfold qda qb3 qu
 have hI:=zaok (p:=fun (g:Unit×Hold×Unit) x0=>qdg x0 g.2.1) (g:=((),((⟨c.NextHold,vid,record,item,pickup,c.Today,1,0,0,0,0⟩:Hold),()))) (zvq record item) hs.items (fun x _=>za4t x _)
 simp -zeta only[zaod hs.patrons,zg2 hs.patrons,za4k hs.items,hI,k_or,qcd]
 cases hp:getP c.Patrons vid with
 |mk p ok=>
  cases ok with
  |false=>exact zdq
  |true=>
   have hpi:=(zagz hp).2
   subst hpi
   dsimp only
   rcases zbc (zvq record item) c.Items with ⟨h1,h2⟩|⟨i,x,h1,hx,h3,h4⟩
   ·rw[h1,h2]
    exact zdq
   ·rw[h1,h4]
    simp only[Bool.not_true,cond_false,zmz,Bool.or_self]
    cases hq:(decide (pickup<1)||decide (4<pickup)) with
    |true=>exact zdq
    |false=>
     simp only[cond_false,za4u hs h.charges,za44 hs h.charges,hp,za5h hs.loans,za4p hs.loans]
     cases decide (0<((zfq p c.Today (owed p.ID c.Charges) (zv9 p.ID c.Today c.Loans)).length:Int)) with
     |true=>exact zdq
     |false=>
      simp only[cond_false]
      have hll:(c.Loans.filter (fun x=>x.Patron==p.ID)).length<1000000000:=by have:=List.length_filter_le (fun x:Loan=>x.Patron==p.ID) c.Loans;have:=hs.loans;omega
      have r1:=zaay (c:=c) (f:=(i:Int)) (o:=(⟨c.NextHold,p.ID,record,item,pickup,c.Today,1,0,0,0,0⟩:Hold)) hs hll
      have r2:=zwl (c:=c) (v:=zcg) (p:=p.ID) (record:=record) (item:=item) (pickup:=pickup) (y:=x) hs hll (fun n hn=>by
       obtain ⟨x,p,hx,-⟩:=z22 h (List.mem_filter.1 hn).1
       rw[hx];rfl)
      rw[show zac zwz ((i:Int),c.Loans.filter (fun x=>x.Patron==p.ID),((c.Loans.filter (fun x=>x.Patron==p.ID)).length:Int),0,c,(⟨c.NextHold,p.ID,record,item,pickup,c.Today,1,0,0,0,0⟩:Hold),(⟨0,0,0,0,0,[],⟨0,0,0,0⟩⟩:Item),())=_ from r1]
      rw[show zac zhi (p.ID,record,item,pickup,c.Loans.filter (fun x=>x.Patron==p.ID),0,c,(⟨0,[],[],[],[],[],[],⟨⟨0,[]⟩,⟨0,[]⟩,⟨0,[]⟩,⟨0,[]⟩⟩,[],0,0,false⟩:Circ),x,())=_ from r2]
      cases (c.Loans.filter (fun x=>x.Patron==p.ID)).find? (zqm c record) with
      |some _=>exact zdq
      |none=>
       simp only
       cases decide (99999<c.NextHold) with
       |true=>exact zdq
       |false=>
        obtain ⟨r,b,hr,-,hr0⟩:=zaa8 (p:=p.ID) (x:=x) hs
        simp only[cond_false,zah,hx,beq_self_eq_true,Bool.not_true,zaap hs,hr]
        have core:z4m (match qd6 c.Holds (⟨c.NextHold,p.ID,record,item,pickup,c.Today,1,0,0,0,r.Rank⟩:Hold) with
         |some (r11,r12)=>(match qcs r11 r12 ⟨c,0⟩ with
          |some (_,v)=>(match qbx record (⟨⟨v.c.Today,v.c.Items,v.c.Patrons,v.c.Loans,v.c.Holds,v.c.Charges,v.c.Rules,v.c.Cals,v.c.Moves,wr .i64 (v.c.NextHold+1),v.c.NextCharge,v.c.Local⟩,v.err⟩:Circ_desk) with
           |some (_,v15)=>(match qbi c.NextHold v15 with|some ((r17,r18,r19),v20)=>some (r17,r18,r19)|none=>none)
           |none=>none)
          |none=>none)
         |none=>none)
         (match qbq c.Holds (⟨c.NextHold,p.ID,record,item,pickup,c.Today,1,0,0,0,r.Rank⟩:Hold) with
         |some (r24,r25)=>(bif !(r25==0) then some (zcg,0,r25) else match qbs (⟨c.Today,c.Items,c.Patrons,c.Loans,r24,c.Charges,c.Rules,c.Cals,c.Moves,wr .i64 (c.NextHold+1),c.NextCharge,c.Local⟩:Circ) record with
          |some (r27,r28)=>(bif !(r28==0) then some (zcg,0,r28) else some (r27,c.NextHold,0))
          |none=>none)
         |none=>none):=by
         rw[za4r (by omega),za4o (by omega)]
         have hpl:(zi1 c.Holds (⟨c.NextHold,p.ID,record,item,pickup,c.Today,1,0,0,0,r.Rank⟩:Hold)).2=0→MidP (zat c (zi1 c.Holds (⟨c.NextHold,p.ID,record,item,pickup,c.Today,1,0,0,0,r.Rank⟩:Hold)).1):=by
          unfold zi1
          simp only[beq_self_eq_true,Bool.not_true,Bool.or_self,cond_false]
          by_cases he:zbn (c.Holds++[(⟨c.NextHold,p.ID,record,item,pickup,c.Today,1,0,0,0,r.Rank⟩:Hold)])=0
          ·intro _
           simp only[he,beq_self_eq_true,Bool.not_true,cond_false]
           refine z3g m (by simp;omega) he (fun k=>?_)
           rw[List.filter_append,List.length_append]
           have:=hf k
           have:=List.length_filter_le (fun o:Hold=>o.Record==k) [(⟨c.NextHold,p.ID,record,item,pickup,c.Today,1,0,0,0,r.Rank⟩:Hold)]
           simp only[List.length_singleton]at this
           omega
          ·have he2:(zbn (c.Holds++[(⟨c.NextHold,p.ID,record,item,pickup,c.Today,1,0,0,0,r.Rank⟩:Hold)])==0)=false:=by simpa using he
           simp only[he2,Bool.not_false,cond_true]
           intro hc
           exact absurd hc he
         generalize zi1 c.Holds (⟨c.NextHold,p.ID,record,item,pickup,c.Today,1,0,0,0,r.Rank⟩:Hold)=q at hpl
         obtain ⟨l,e⟩:=q
         simp only at hpl ⊢
         by_cases he:e=0
         ·subst he
          have m2:=za3w (hpl rfl) (wr .i64 (c.NextHold+1))
          simp only[zhr,beq_self_eq_true,Bool.not_true,cond_false]
          rcases zadx m2 record with ⟨d,a1,a2,a3,-⟩|⟨d,e,he,a1,a2,hsd⟩
          ·dsimp only[zaea,zat]at a1 a2 ⊢
           rw[a1,a2]
           exact ⟨d,c.NextHold,0,rfl,rfl,a3.short⟩
          ·have he2:(e==0)=false:=by simpa using he
           dsimp only[zaea,zat]at a1 a2 ⊢
           rw[a1,a2]
           simp only[zyg d _ e he,he2,Bool.not_false,cond_true]
           exact zdq
         ·have he2:(e==0)=false:=by simpa using he
          simp only[zdo c l e he,zmy _ _ _ he,zyg _ _ e he,he2,Bool.not_false,cond_true]
          exact zdq
        cases b with
        |true=>exact core
        |false=>
         have:=hr0 rfl
         rw[this]at core
         rw[this]
         exact core
end Go.Proofs.YtdahfgialanmpaaGreatDoor
namespace Go.Proofs.YtdahfgialanmpaaGreatDoor
open Ev
open Go (IntKind)
theorem zmk {l:List Hold}:(∀i x,l[i]?=some x→zbo l i (fun y=>decide (x.ID≤y.ID))=false)↔l.Pairwise (fun a b=>a.ID<b.ID):=by
 constructor
 ·intro h
  rw[List.pairwise_iff_getElem]
  intro i j hi hj hij
  exact zcu (key:=fun y:Hold=>y.ID) h j i l[i] l[j] hij (List.getElem?_eq_getElem hi) (List.getElem?_eq_getElem hj)
 ·intro h i x hx
  cases i with
  |zero=>rfl
  |succ j=>
   unfold zbo
   simp only
   have hi:=(List.getElem?_eq_some_iff.1 hx)
   have hj:j<l.length:=by have:=hi.1;omega
   rw[List.getElem?_eq_getElem hj]
   have:=(List.pairwise_iff_getElem.1 h) j (j+1) hj hi.1 (by omega)
   rw[hi.2]at this
   simp only[decide_eq_false_iff_not]
   omega
theorem z2e {c:Circ} (h:MidP c) (p:Hold→Bool):MidP (zat c (c.Holds.filter p)):=by
 obtain ⟨h1,h2,h3,h4,h5,h6,h7,h8,h9,h10,h11⟩:=h
 have hl:=List.length_filter_le p c.Holds
 refine ⟨zeg h1 (by omega),h2,by show (c.Holds.filter p).length<_;omega,zmk.2 ((zmk.1 h4).filter p),fun o ho=>h5 o (List.mem_filter.1 ho).1,fun r=>?_,h7,h8,h9,h10,h11⟩
 show ((c.Holds.filter p).filter _).length<20
 rw[List.filter_filter]
 have e:c.Holds.filter (fun a=>a.Record==r&&p a)=(c.Holds.filter (fun o=>o.Record==r)).filter p:=by
  rw[List.filter_filter]
  apply List.filter_congr
  intro o _
  exact Bool.and_comm _ _
 have h6r:=h6 r
 rw[e]
 have:=List.length_filter_le p (c.Holds.filter (fun o=>o.Record==r))
 omega
theorem zj9 {l:List Hold} (hsort:∀i x,l[i]?=some x→zbo l i (fun y=>decide (x.ID≤y.ID))=false) {o:Hold} (ho:o∈l):zdy l o.ID=(l.filter (fun x=>!(x.ID==o.ID)),o,0):=by
 have:=zgn hsort ho
 unfold getH at this
 unfold zdy
 cases hq:l.find? (fun h=>h.ID==o.ID) with
 |none=>rw[hq]at this;cases this
 |some x=>rw[hq]at this;cases this;rfl
theorem z7w {c d:Circ} (h:Frame c d) {i:Nat} {x:Item} (hx:c.Items[i]?=some x):∃y,d.Items[i]?=some y∧y.ID=x.ID∧y.Custody.Branch=x.Custody.Branch:=by
 have h1:(c.Items.map (fun x=>x.ID))[i]?=some x.ID:=by rw[List.getElem?_map,hx];rfl
 have h2:(c.Items.map (fun x=>x.Custody.Branch))[i]?=some x.Custody.Branch:=by rw[List.getElem?_map,hx];rfl
 rw[←h.ids,List.getElem?_map]at h1
 rw[←h.br,List.getElem?_map]at h2
 cases hy:d.Items[i]? with
 |none=>rw[hy]at h1;cases h1
 |some y=>rw[hy]at h1 h2;exact ⟨y,rfl,by simpa using h1,by simpa using h2⟩
def za6e (c d:Circ) (o:Hold):Prop:=∃b,b=zat c (c.Holds.filter (fun x=>!(x.ID==o.ID)))∧Frame b d
def zfw (c:Circ):Prop:=∀o∈c.Holds,o.State=3→∃(i:Nat) (x:Item),c.Items[i]?=some x∧x.ID=o.Got∧x.Custody.Branch=o.Pickup
theorem zl7 {c d:Circ} (h:zfw c) (hf:Frame c d) (hH:∀o∈d.Holds,o.State=3→o∈c.Holds∨∃(i:Nat) (x:Item),c.Items[i]?=some x∧x.ID=o.Got∧x.Custody.Branch=o.Pickup):zfw d:=by
 intro o ho hs
 have:∃(i:Nat) (x:Item),c.Items[i]?=some x∧x.ID=o.Got∧x.Custody.Branch=o.Pickup:=by
  rcases hH o ho hs with h1|h1
  ·exact h o h1 hs
  ·exact h1
 obtain ⟨i,x,hx,h1,h2⟩:=this
 obtain ⟨y,hy,h3,h4⟩:=z7w hf hx
 exact ⟨i,y,hy,h3.trans h1,h4.trans h2⟩
theorem z5r {l m:List Hold} {v item st u:Int} (h:ze3 l v item st u=(m,0)):∀o∈m,o∈l∨∃x∈l,x.ID=v∧o=gotH x item st u:=by
 unfold ze3 at h
 rcases zbc (fun x:Hold=>x.ID==v) l with ⟨h1,h2⟩|⟨i,x,h1,h2,h3,h4⟩
 ·rw[h2]at h;cases h
 ·rw[h4]at h
  simp only at h
  cases hq:(!(rng 1 9999 item)||!(okS st u)) with
  |true=>rw[hq]at h;cases h
  |false=>
   rw[hq]at h
   simp only[cond_false]at h
   cases hq2:(!(x.State==1)&&((!(x.State==2)||!(x.Got==item))||!(st==3))) with
   |true=>rw[hq2]at h;cases h
   |false=>
    rw[hq2]at h
    simp only[cond_false]at h
    cases hq3:l.any (fun o=>o.Got==item&&!(o.ID==v)) with
    |true=>rw[hq3]at h;cases h
    |false=>
     rw[hq3]at h
     simp only[cond_false,h1,Int.toNat_natCast,Prod.mk.injEq,and_true]at h
     subst h
     intro o ho
     rcases List.mem_or_eq_of_mem_set ho with ho|ho
     ·exact .inl ho
     ·exact .inr ⟨x,List.mem_of_getElem? h2,by simpa using h3,ho⟩
theorem zaa2 {c d:Circ} {i:Nat} {x:Item} (hx:c.Items[i]?=some x) (hf:Frame c d) (hp:Put c d i x) (h:zfw c):zfw d:=by
 obtain ⟨-,v,-,hp⟩:=hp
 refine zl7 h hf (fun o ho hs=>?_)
 rcases hp with ⟨-,hp⟩|⟨st,u,hp,hk⟩
 ·rw[hp]at ho;exact .inl ho
 ·rcases z5r hp o ho with h1|⟨y,hy,hv,rfl⟩
  ·exact .inl h1
  ·exact .inr ⟨i,x,hx,rfl,(hk hs y hy hv).symm⟩
theorem zi5 {c:Circ} (h:zfw c) (p:Hold→Bool):zfw (zat c (c.Holds.filter p)):=fun o ho hs=>h o (List.mem_filter.1 ho).1 hs
theorem zagy {c:Circ} (h:MidP c) {o:Hold} (ho:o∈c.Holds) (hr:o.State=3→∃(i:Nat) (x:Item),c.Items[i]?=some x∧x.ID=o.Got∧x.Custody.Branch=o.Pickup) :
 SimD (qez o ⟨c,0⟩) (qf4 c o.ID) (fun d=>MidP d∧za6e c d o∧(zfw c→zfw d)):=by
 have hn:=h.holdsN
 have dd:=zix (c:=c) (id:=o.ID) (by omega) h.sorted
 have rc:=zanz (l:=c.Holds) (id:=o.ID) (by omega)
 rw[zj9 h.sorted ho]at dd rc
 simp only[beq_self_eq_true,cond_true]at dd
 unfold qez qf4
 rw[rc]
 dsimp only
 simp only[beq_self_eq_true,Bool.not_true,cond_false]
 rw[show (⟨c.Today,c.Items,c.Patrons,c.Loans,c.Holds.filter (fun x=>!(x.ID==o.ID)),c.Charges,c.Rules,c.Cals,c.Moves,c.NextHold,c.NextCharge,c.Local⟩:Circ)=zat c (c.Holds.filter (fun x=>!(x.ID==o.ID))) from rfl]
 have mb:=z2e h (fun x=>!(x.ID==o.ID))
 by_cases hst:o.State=3
 ·have hst2:(o.State==3)=true:=by simpa using hst
  obtain ⟨i,x,hx,hid,hbr⟩:=hr hst
  have hf:fIdx (fun y=>y.ID==o.Got) c.Items=(i:Int):=by
   have:=zlk h hx
   rw[zajb h.short.items,hid]at this
   simpa using this
  simp only[hst2,Bool.not_true,cond_false,zr7 h.short,hf,zmz,beq_self_eq_true,ziy hx]
  rw[←hid,←hbr]
  rcases zjw h hx 2 x.Custody.Branch 0 with ⟨u,ha,m1,m2,hm2⟩|⟨e,he,m1,m2⟩
  ·rcases zjw mb hx 2 x.Custody.Branch 0 with ⟨u2,ha2,-,q2,hq2⟩|⟨e,he,q1,q2⟩
   ·have eu:u2=u:=by
     have:=ha2.symm.trans (show za9 x.Custody ⟨(zat c (c.Holds.filter fun x=>!(x.ID==o.ID))).Today,x.ID,2,x.Custody.Branch,0⟩=_ from ha)
     cases this;rfl
    subst eu
    rw[m1,show qas _ x.ID 2 x.Custody.Branch 0=_ from q2]
    have dd2:=zix (c:=zgw c i x ⟨c.Today,x.ID,2,x.Custody.Branch,0⟩ u2) (id:=o.ID) (by show c.Holds.length<_;omega) h.sorted
    rw[show zdy (zgw c i x ⟨c.Today,x.ID,2,x.Custody.Branch,0⟩ u2).Holds o.ID=_ from zj9 h.sorted ho]at dd2
    simp only[beq_self_eq_true,cond_true]at dd2
    dsimp only
    simp only[dd2,beq_self_eq_true,Bool.not_true,cond_false]
    rw[show zat (zgw c i x ⟨c.Today,x.ID,2,x.Custody.Branch,0⟩ u2) (c.Holds.filter (fun x=>!(x.ID==o.ID)))=zgw (zat c (c.Holds.filter (fun x=>!(x.ID==o.ID)))) i x ⟨(zat c (c.Holds.filter (fun x=>!(x.ID==o.ID)))).Today,x.ID,2,x.Custody.Branch,0⟩ u2 from rfl]
    rcases zrl hq2 (z0w (c:=zat c (c.Holds.filter fun x=>!(x.ID==o.ID))) hx ⟨(zat c (c.Holds.filter fun x=>!(x.ID==o.ID))).Today,x.ID,2,x.Custody.Branch,0⟩ u2) with ⟨d,a1,a2,⟨hd,hfr⟩,hput⟩|⟨d,e,he,a1,a2,hsd⟩
    ·rw[a1,show qeu _ x.ID=_ from a2]
     have hfm:=zhb (c:=zat c (c.Holds.filter fun x=>!(x.ID==o.ID))) hx ⟨(zat c (c.Holds.filter fun x=>!(x.ID==o.ID))).Today,x.ID,2,x.Custody.Branch,0⟩ (zg5 ha2 rfl)
     exact .inl ⟨d,rfl,rfl,hd,⟨_,rfl,hfm.trans hfr⟩,fun hr=>zaa2 (z0w (c:=zat c (c.Holds.filter fun x=>!(x.ID==o.ID))) hx ⟨(zat c (c.Holds.filter fun x=>!(x.ID==o.ID))).Today,x.ID,2,x.Custody.Branch,0⟩ u2) hfr hput (zl7 (zi5 hr _) hfm (fun o ho _=>.inl ho))⟩
    ·rw[a1,show qeu _ x.ID=_ from a2]
     exact .inr ⟨d,e,he,rfl,rfl,hsd⟩
   ·exfalso
    have dm1:=zf3 (kind:=2) (branch:=x.Custody.Branch) (who:=0) h.short (by have:=h.moves;omega) hx
    have dm2:=zf3 (c:=zat c (c.Holds.filter fun x=>!(x.ID==o.ID))) (kind:=2) (branch:=x.Custody.Branch) (who:=0) mb.short (by have:=h.moves;show c.Moves.length<_;omega) hx
    rw[m1]at dm1
    rw[q1]at dm2
    cases hE:zgb c (za9 x.Custody ⟨c.Today,x.ID,2,x.Custody.Branch,0⟩).2==0 with
    |true=>
     rw[show zgb (zat c (c.Holds.filter fun x=>!(x.ID==o.ID))) (za9 x.Custody ⟨(zat c (c.Holds.filter fun x=>!(x.ID==o.ID))).Today,x.ID,2,x.Custody.Branch,0⟩).2=zgb c (za9 x.Custody ⟨c.Today,x.ID,2,x.Custody.Branch,0⟩).2 from rfl,hE]at dm2
     simp only[cond_true,Option.some.injEq,Prod.mk.injEq,Circ_desk.mk.injEq]at dm2
     exact he dm2.2.2
    |false=>
     rw[hE]at dm1
     simp only[cond_false,Option.some.injEq,Prod.mk.injEq,Circ_desk.mk.injEq]at dm1
     have:(zgb c (za9 x.Custody ⟨c.Today,x.ID,2,x.Custody.Branch,0⟩).2==0)=true:=by rw[←dm1.2.2];rfl
     rw[hE]at this
     cases this
  ·have he2:(e==0)=false:=by simpa using he
   have rm2:=zaai (c:=zat c (c.Holds.filter fun x=>!(x.ID==o.ID))) (kind:=2) (branch:=x.Custody.Branch) (who:=0) mb.short (by have:=h.moves;show c.Moves.length<_;omega) (zlk mb hx) hx rfl
   have rm1:=zaai (kind:=2) (branch:=x.Custody.Branch) (who:=0) h.short (by have:=h.moves;omega) (zlk h hx) hx rfl
   rw[m2]at rm1
   have e2:qas (zat c (c.Holds.filter fun x=>!(x.ID==o.ID))) x.ID 2 x.Custody.Branch 0=some (zcg,e):=by
    rw[rm2]
    cases hE:zgb c (za9 x.Custody ⟨c.Today,x.ID,2,x.Custody.Branch,0⟩).2==0 with
    |true=>
     rw[hE]at rm1
     simp only[cond_true,Option.some.injEq,Prod.mk.injEq]at rm1
     exact absurd rm1.2 he
    |false=>
     rw[hE]at rm1
     simp only[cond_false,Option.some.injEq,Prod.mk.injEq]at rm1
     rw[show zgb (zat c (c.Holds.filter fun x=>!(x.ID==o.ID))) (za9 x.Custody ⟨(zat c (c.Holds.filter fun x=>!(x.ID==o.ID))).Today,x.ID,2,x.Custody.Branch,0⟩).2=zgb c (za9 x.Custody ⟨c.Today,x.ID,2,x.Custody.Branch,0⟩).2 from rfl,hE]
     simp only[cond_false]
     rw[←rm1.2]
   rw[m1,show qas _ x.ID 2 x.Custody.Branch 0=_ from e2]
   simp only[zp2 _ _ _ he,zp0 _ _ _ he,he2,Bool.not_false,cond_true]
   exact .inr ⟨c,e,he,rfl,rfl,h.short⟩
 ·have hst2:(o.State==3)=false:=by simpa using hst
  simp only[hst2,Bool.not_false,cond_true,dd]
  exact .inl ⟨_,rfl,rfl,mb,⟨_,rfl,Frame.refl _⟩,fun hr=>zi5 hr _⟩
theorem z2j {c:Circ} (h:FitP c) {o:Hold} (ho:o∈c.Holds) (hst:o.State=3):∃(i:Nat) (x:Item),c.Items[i]?=some x∧x.ID=o.Got∧x.Custody.Branch=o.Pickup:=by
 have hg:=h.holdG o ho
 unfold zgo at hg
 have h1:(o.State==1)=false:=by rw[hst];rfl
 have h3:(o.State==3)=true:=by rw[hst];rfl
 rw[h1,h3]at hg
 simp only[Bool.and_eq_true,Bool.false_or]at hg
 rcases zbc (fun x:Item=>x.ID==o.Got) c.Items with ⟨q1,q2⟩|⟨i,x,q1,q2,q3,q4⟩
 ·rw[q2]at hg;cases hg.2
 ·rw[q4]at hg
  simp only[Bool.true_and,Bool.and_eq_true,Bool.not_eq_true',Bool.or_eq_false_iff,Bool.not_eq_false',beq_iff_eq]at hg
  exact ⟨i,x,q2,by simpa using q3,hg.2.1.2.1.2⟩
theorem zrt {c:Circ} (m:MidP c) (h:FitP c) {id:Int}:zajz (qf0 c id) (qf1 c id):=by
 have hn:=m.holdsN
 unfold qf0 qf1
 simp only[zaog m.short.holds,qcd]
 cases hq:c.Holds.find? (fun o=>o.ID==id) with
 |none=>
  have e1:getH c.Holds id=(zg1,false):=by unfold getH;rw[hq]
  have e2:qf4 c id=some (zcg,9):=by
   unfold qf4
   rw[zanz (by omega)]
   unfold zdy
   rw[hq]
   try rfl
  rw[e1,e2]
  exact znh
 |some o=>
  have ho:=List.mem_of_find?_eq_some hq
  have hid:o.ID=id:=by have:=List.find?_some hq;simpa using this
  have e1:getH c.Holds id=(o,true):=by unfold getH;rw[hq]
  rw[e1]
  simp only[Bool.not_true,cond_false]
  subst hid
  rcases zagy m ho (z2j h ho) with ⟨d,a1,a2,a3,-⟩|⟨d,e,he,a1,a2,hsd⟩
  ·rw[a1,a2]
   exact ⟨d,0,rfl,rfl,a3.short⟩
  ·rw[a1,a2]
   simp only[zp1 d e he]
   exact znh
theorem zadz {c:Circ} (hm:SmallP c) (r:Int):(c.Holds.filter (fun o=>o.Record==r)).length<19:=by
 have:=List.length_filter_le (fun o:Hold=>o.Record==r) c.Holds
 have:=hm.holds
 omega
theorem zm7 (c:Circ) (d:Librarylaw33_Deed):qdz c d=some true:=by
 unfold qdz
 simp only[za41,zaei]
 cases hb:zmj c&&zo2 c with
 |false=>rfl
 |true=>
  simp only[Bool.and_eq_true]at hb
  have hm:=zapq hb.1
  have hf:=fitP hb.2
  have h:=zavi hm hf
  obtain ⟨a,n,e,q1,q2,q3⟩:=z2h h hf (by have:=hm.holds;omega) (zadz hm) (vid:=d.A) (record:=d.B) (item:=d.C) (pickup:=d.D)
  obtain ⟨a',e',p1,p2,p3⟩:=zrt h hf (id:=d.A)
  simp -zeta only[Bool.not_true,cond_false,q1,q2,p1,p2,zaao q3,zaao p3,za7]
  simp
end Go.Proofs.YtdahfgialanmpaaGreatDoor
