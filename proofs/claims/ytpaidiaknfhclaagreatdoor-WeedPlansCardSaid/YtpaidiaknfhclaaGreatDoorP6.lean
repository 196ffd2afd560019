/- WeedPlans: a part of the proof of the given statement, which is proved without conditions. -/
import Derived.Test.YtpaidiaknfhclaaGreatDoorP5
import Derived.KernelRfl
set_option linter.all false
namespace Go.Proofs.YtpaidiaknfhclaaGreatDoor
open Ev
open Go (IntKind)
theorem hasX {X:Type} {p:X→Bool}:∀{l:List X} {i:Nat},zey p (fun _ _=>true) false i l=l.any p:=by
 intro l
 induction l with
 |nil=>intros;rfl
 |cons x l ih=>intro i;simp only[zey,List.any_cons];cases p x with|true=>rfl|false=>rw[cond_false,ih,Bool.false_or]
def zti (state kind:Int):Bool:=(z4z kind).any (fun x=>x==state)
theorem zaal {X:Type} {b:Bool} {x y:List X} {n:Nat} (hx:x.length<n) (hy:y.length<n):(bif b then x else y).length<n:=by cases b<;>assumption
theorem zy2 (kind:Int):(z4z kind).length<10:=by
 unfold z4z
 repeat' first|apply zaal|decide
theorem zawx (state kind:Int):qbt state kind=some (zti state kind):=by
 unfold qbt zti
 rw[zqi]
 have hl:=zy2 kind
 generalize z4z kind=l at hl ⊢
 have h:=zcc (step:=zlv) (fun i=>(state,l,(i:Int),())) l (fun x=>x==state) (fun _ _=>(.inr (true,()):Unit⊕(Bool×Unit))) (.inl ()) (by omega)
  (by simp only[zlv,dge,cond_false])
  (fun i x hx=>by
   have hi:=(List.getElem?_eq_some_iff.1 hx).1
   simp only[zlv,dlt hi,zaq,hx,cond_true,zas (show i<9223372036854775807 by omega)])
 dsimp only
 rw[show zah zlv (state,l,0,())=_ from h,←hasX (i:=0)]
 have key:∀(l:List Int) (i:Nat),(match some (zey (fun x=>x==state) (fun _ _=>(.inr (true,()):Unit⊕(Bool×Unit))) (.inl ()) i l) with|some (.inl _)=>some false|some (.inr (v,_))=>some v|none=>none)=some (zey (fun x=>x==state) (fun _ _=>true) false i l):=by
  intro l
  induction l with
  |nil=>intro i;rfl
  |cons x l ih=>intro i;simp only[zey];cases x==state with|true=>rfl|false=>exact ih _
 exact key l 0
def zck (c:Custody) (m:Move):Custody×Int:=
 bif !(z42 c)||!(z41 m) then (⟨0,0,0,0⟩,1)
 else bif !(zti c.State m.Kind) then (⟨0,0,0,0⟩,12)
 else bif m.Kind==3&&c.State==5&&!(m.Who==c.Who) then (⟨0,0,0,0⟩,16)
 else bif !(zaph c m) then (⟨0,0,0,0⟩,1)
 else bif zej m.Kind==2 then (⟨zej m.Kind,m.Branch,0,0⟩,0)
 else bif zej m.Kind==4||(zej m.Kind==5||zej m.Kind==8) then (⟨zej m.Kind,c.Branch,m.Who,0⟩,0)
 else bif zej m.Kind==6 then (⟨zej m.Kind,c.Branch,m.Who,m.Branch⟩,0)
 else bif zej m.Kind==9||zej m.Kind==10 then (⟨zej m.Kind,c.Branch,c.Who,0⟩,0)
 else (⟨zej m.Kind,c.Branch,0,0⟩,0)
theorem zaw1 (c:Custody) (m:Move):qe3 c m=some (zck c m):=by
 unfold qe3 zck
 simp -zeta only[k_or,zb3,zm6,zjm,zly,zawx,z43,zv7]
 dsimp only
 simp only[zcl]
def zcu:Nat→List Move→Int→Custody→(Custody⊕(Int×Int))
 |_,[],_,c=>.inl c
 |i,x::l,item,c=>bif x.Item==item then (bif (zck c x).2==0 then zcu (i+1) l item (zck c x).1 else .inr ((i:Int),(zck c x).2)) else zcu (i+1) l item c
def zdo (branch:Int) (l:List Move) (item:Int):Custody×Int×Int:=
 bif decide (branch<1)||decide (4<branch) then (⟨0,0,0,0⟩,-1,1)
 else match zcu 0 l item (zsh branch) with
  |.inl c=>(c,-1,0)
  |.inr (i,e)=>(⟨0,0,0,0⟩,i,e)
theorem zss {β:Type} (item:Int) (fin:Custody→β) (out:Int×Int→β):∀(l:List Move) (i:Nat) (c:Custody),
 zez (fun i x c=>bif x.Item==item then (bif (zck c x).2==0 then .inl (zck c x).1 else .inr (out ((i:Int),(zck c x).2))) else .inl c) fin i l c=(match zcu i l item c with | .inl c=>fin c | .inr p=>out p):=by
 intro l
 induction l with
 |nil=>intros;rfl
 |cons x l ih=>
  intro i c
  simp only[zez,zcu]
  cases x.Item==item with
  |false=>exact ih _ _
  |true=>
   simp only[cond_true]
   cases (zck c x).2==0 with
   |true=>exact ih _ _
   |false=>rfl
theorem zaws {branch:Int} {l:List Move} {item:Int} (hl:l.length<1000000000):qbl branch l item=some (zdo branch l item):=by
 unfold qbl zdo
 simp -zeta only[k_or,zag5]
 dsimp only
 have h:=zdr (step:=zlt) (fun i c=>(l,item,(i:Int),(⟨0,0,0,0⟩:Custody),c,())) l
  (fun i x c=>bif x.Item==item then (bif (zck c x).2==0 then .inl (zck c x).1 else .inr (.inr ((i:Int),(zck c x).2,(⟨0,0,0,0⟩:Custody),()))) else .inl c)
  (fun c=>.inl (⟨0,0,0,0⟩,c,())) (by show l.length<18446744073709551616;omega) (fun c=>by simp only[zlt,dge,cond_false])
  (fun i x c hx=>by
   have hi:=(List.getElem?_eq_some_iff.1 hx).1
   simp only[zlt,dlt hi,zaq,hx,cond_true,zaw1,zas (show i<9223372036854775807 by omega)]
   cases x.Item==item with
   |false=>rfl
   |true=>
    simp only[Bool.not_true,cond_false,cond_true]
    obtain ⟨d,e⟩:=zck c x
    cases he:e==0 with
    |true=>rfl
    |false=>rfl) (zsh branch)
 rw[zss item (fun c=>(.inl (⟨0,0,0,0⟩,c,()):(Custody×Custody×Unit)⊕(Int×Int×Custody×Unit))) (fun p=>.inr (p.1,p.2,(⟨0,0,0,0⟩:Custody),()))]at h
 rw[show zah zlt (l,item,0,(⟨0,0,0,0⟩:Custody),zsh branch,())=_ from h]
 cases (decide (branch<1)||decide (4<branch)) with
 |true=>rfl
 |false=>
  simp only[cond_false]
  cases zcu 0 l item (zsh branch) with
  |inl c=>rfl
  |inr p=>rfl
end Go.Proofs.YtpaidiaknfhclaaGreatDoor
namespace Go.Proofs.YtpaidiaknfhclaaGreatDoor
open Ev
open Go (IntKind)
theorem zgy {X:Type} (p:X→Bool) (l:List X):(fIdx p l = -1∧l.find? p=none)∨∃(i:Nat) (x:X),fIdx p l=(i:Int)∧l[i]?=some x∧p x=true∧l.find? p=some x:=by
 unfold fIdx
 induction l with
 |nil=>exact .inl ⟨rfl,rfl⟩
 |cons y l ih=>
  simp only[List.findIdx?_cons,List.find?_cons]
  cases hp:p y with
  |true=>exact .inr ⟨0,y,rfl,rfl,hp,rfl⟩
  |false=>
   simp only[Bool.false_eq_true,if_false]
   rcases ih with ⟨h1,h2⟩|⟨i,x,h1,h2,h3,h4⟩
   ·left
    refine ⟨?_,h2⟩
    cases hf:l.findIdx? p with
    |none=>rfl
    |some k=>rw[hf]at h1;simp only at h1;omega
   ·right
    refine ⟨i+1,x,?_,by simpa using h2,h3,h4⟩
    cases hf:l.findIdx? p with
    |none=>rw[hf]at h1;simp only at h1;omega
    |some k=>rw[hf]at h1;simp only[Option.map_some]at h1 ⊢;omega
theorem z17:decide ((-1:Int)<0)=true:=rfl
theorem z16 {i:Nat}:decide ((i:Int)<0)=false:=by rw[decide_eq_false_iff_not];omega
def getP (l:List Patron) (id:Int):Patron×Bool:=match l.find? (fun p=>p.ID==id) with|some p=>(p,true)|none=>(⟨0,0,0,0,false,[]⟩,false)
def zrw (l:List Loan) (item:Int):Loan×Bool:=match l.find? (fun n=>n.Item==item) with|some n=>(n,true)|none=>(⟨0,0,0,0,0,false⟩,false)
def z4m:Hold:=⟨0,0,0,0,0,0,0,0,0,0,0⟩
def zgv (c:Circ) (item:Int):Hold×Bool:=match c.Holds.find? (fun h=>h.Got==item) with|some h=>(h,true)|none=>(z4m,false)
theorem zawl {c:Circ} {item:Int} (hl:c.Items.length<1000000000):qao c item=some (fIdx (fun x=>x.ID==item) c.Items):=by
 unfold qao
 have h:=zcc (step:=zll) (fun i=>(item,(i:Int),c,())) c.Items (fun x=>x.ID==item) (fun i _=>(.inr ((i:Int),()):Unit⊕(Int×Unit))) (.inl ()) hl
  (by simp only[zll,dge,cond_false])
  (fun i x hx=>by
   have hi:=(List.getElem?_eq_some_iff.1 hx).1
   simp only[zll,dlt hi,zaq,hx,cond_true,zas (show i<9223372036854775807 by omega)])
 rw[show zah zll (item,0,c,())=_ from h,←zfi]
 have:=zdn (p:=fun x:Item=>x.ID==item) (g:=fun i _=>(.inr ((i:Int),()):Unit⊕(Int×Unit))) (d:=.inl ()) (fun z=>match (some z:Option (Unit⊕(Int×Unit))) with|some (.inl _)=>some (-1)|some (.inr (v,_))=>some v|none=>none) (l:=c.Items) (i:=0)
 exact this.trans ((zdn (p:=fun x:Item=>x.ID==item) (g:=fun i _=>(i:Int)) (d:=-1) (fun z=>some z) (l:=c.Items) (i:=0)).symm)
theorem zjg {c:Circ} {item:Int} (hl:c.Items.length<1000000000):(qao c item=some (-1)∧c.Items.find? (fun x=>x.ID==item)=none)∨
 ∃(i:Nat) (x:Item),qao c item=some (i:Int)∧c.Items[i]?=some x∧x.ID=item∧c.Items.find? (fun x=>x.ID==item)=some x:=by
 rw[zawl hl]
 rcases zgy (fun x:Item=>x.ID==item) c.Items with ⟨h1,h2⟩|⟨i,x,h1,h2,h3,h4⟩
 ·exact .inl ⟨by rw[h1],h2⟩
 ·exact .inr ⟨i,x,by rw[h1],h2,by simpa using h3,h4⟩
theorem zawz {l:List Patron} {id:Int} (hl:l.length<1000000000):qbw l id=some (fIdx (fun x=>x.ID==id) l):=by
 unfold qbw
 have h:=zcc (step:=zlx) (fun i=>(l,id,(i:Int),())) l (fun x=>x.ID==id) (fun i _=>(.inr ((i:Int),()):Unit⊕(Int×Unit))) (.inl ()) hl
  (by simp only[zlx,dge,cond_false])
  (fun i x hx=>by
   have hi:=(List.getElem?_eq_some_iff.1 hx).1
   simp only[zlx,dlt hi,zaq,hx,cond_true,zas (show i<9223372036854775807 by omega)])
 rw[show zah zlx (l,id,0,())=_ from h,←zfi]
 have:=zdn (p:=fun x:Patron=>x.ID==id) (g:=fun i _=>(.inr ((i:Int),()):Unit⊕(Int×Unit))) (d:=.inl ()) (fun z=>match (some z:Option (Unit⊕(Int×Unit))) with|some (.inl _)=>some (-1)|some (.inr (v,_))=>some v|none=>none) (l:=l) (i:=0)
 exact this.trans ((zdn (p:=fun x:Patron=>x.ID==id) (g:=fun i _=>(i:Int)) (d:=-1) (fun z=>some z) (l:=l) (i:=0)).symm)
theorem zqh {l:List Patron} {id:Int} (hl:l.length<1000000000):qcs l id=some (getP l id):=by
 unfold qcs getP
 rw[zawz hl]
 rcases zgy (fun x:Patron=>x.ID==id) l with ⟨h1,h2⟩|⟨i,x,h1,h2,h3,h4⟩
 ·simp only[h1,h2,z17,cond_true]
 ·simp only[h1,h4,z16,cond_false,zaq,h2]
theorem zawy {l:List Loan} {id:Int} (hl:l.length<1000000000):qbv l id=some (fIdx (fun x=>x.Item==id) l):=by
 unfold qbv
 have h:=zcc (step:=zlw) (fun i=>(l,id,(i:Int),())) l (fun x=>x.Item==id) (fun i _=>(.inr ((i:Int),()):Unit⊕(Int×Unit))) (.inl ()) hl
  (by simp only[zlw,dge,cond_false])
  (fun i x hx=>by
   have hi:=(List.getElem?_eq_some_iff.1 hx).1
   simp only[zlw,dlt hi,zaq,hx,cond_true,zas (show i<9223372036854775807 by omega)])
 rw[show zah zlw (l,id,0,())=_ from h,←zfi]
 have:=zdn (p:=fun x:Loan=>x.Item==id) (g:=fun i _=>(.inr ((i:Int),()):Unit⊕(Int×Unit))) (d:=.inl ()) (fun z=>match (some z:Option (Unit⊕(Int×Unit))) with|some (.inl _)=>some (-1)|some (.inr (v,_))=>some v|none=>none) (l:=l) (i:=0)
 exact this.trans ((zdn (p:=fun x:Loan=>x.Item==id) (g:=fun i _=>(i:Int)) (d:=-1) (fun z=>some z) (l:=l) (i:=0)).symm)
theorem zaw2 {l:List Loan} {id:Int} (hl:l.length<1000000000):qe6 l id=some (zrw l id):=by
 unfold qe6 zrw
 rw[zawy hl]
 rcases zgy (fun x:Loan=>x.Item==id) l with ⟨h1,h2⟩|⟨i,x,h1,h2,h3,h4⟩
 ·simp only[h1,h2,z17,cond_true]
 ·simp only[h1,h4,z16,cond_false,zaq,h2]
theorem zawr {c:Circ} {item:Int} (hl:c.Holds.length<1000000000):qbk c item=some (zgv c item):=by
 unfold qbk zgv
 have h:=zcc (step:=zls) (fun i=>(item,(i:Int),c,z4m,())) c.Holds (fun x=>x.Got==item) (fun _ x=>(.inr (true,x,()):(Hold×Unit)⊕(Bool×Hold×Unit))) (.inl (z4m,())) hl
  (by simp only[zls,dge,cond_false])
  (fun i x hx=>by
   have hi:=(List.getElem?_eq_some_iff.1 hx).1
   simp only[zls,dlt hi,zaq,hx,cond_true,zas (show i<9223372036854775807 by omega)])
 rw[show zah zls (item,0,c,(⟨0,0,0,0,0,0,0,0,0,0,0⟩:Hold),())=_ from h,zkx]
 cases c.Holds.find? (fun x=>x.Got==item)<;>rfl
def zdd (c:Circ) (i:Nat) (x:Item):Bool:=
 !(decide (x.ID<1)||decide (9999<x.ID)||zb6 c.Items i (fun y=>decide (x.ID≤y.ID))||decide (x.Record<1)||decide (9999<x.Record)||decide (x.Branch<1)||decide (4<x.Branch))&&
 !(decide (x.Kind<1)||decide (9<x.Kind)||decide (x.Price<0)||decide (100000000<x.Price)||decide (200<(x.Call.length:Int))||!(vld x.Call))&&
 !(!((zdo x.Branch c.Moves x.ID).2.2==0)||!(zbs (zdo x.Branch c.Moves x.ID).1 x.Custody))
def zef (c:Circ):Bool:=!(decide (64<(c.Items.length:Int))||decide (2000<(c.Moves.length:Int)))&&(zcj (zdd c) 0 c.Items&&c.Moves.all (fun m=>(c.Items.find? (fun x=>x.ID==m.Item)).isSome))
structure Short (c:Circ):Prop where
 items:c.Items.length<1000000000
 patrons:c.Patrons.length<1000000000
 loans:c.Loans.length<1000000000
 holds:c.Holds.length<1000000000
 charges:c.Charges.length<1000000000
 rules:c.Rules.length<1000000000
 moves:c.Moves.length<1000000000
 call:∀x∈c.Items,x.Call.length<10000000
 name:∀x∈c.Patrons,x.Name.length<10000000
 cal0:c.Cals.x0.Closed.length<1000000000
 cal1:c.Cals.x1.Closed.length<1000000000
 cal2:c.Cals.x2.Closed.length<1000000000
 cal3:c.Cals.x3.Closed.length<1000000000
theorem z49 {c:Circ} (hs:Short c):zah zsl (0,c,())=some (bif zcj (zdd c) 0 c.Items then .inl (c,()) else .inr (false,())):=by
 have h:=za2 (step:=zsl) (fun i=>((i:Int),c,())) c.Items (zdd c) (.inr (false,())) (.inl (c,())) hs.items
  (by simp only[zsl,dge,cond_false])
  (fun i x hx=>by
   have hi:=(List.getElem?_eq_some_iff.1 hx).1
   have hm:=List.mem_of_getElem? hx
   have hv:=zagu (s:=x.Call) (by have:=hs.call x hm;omega)
   have hr:=zaws (branch:=x.Branch) (item:=x.ID) hs.moves
   unfold zdd
   rcases i with _|j
   ·simp -zeta only[zsl,dlt hi,zaq,hx,k_or,zb3,z18,cond_false,cond_true,zb6,zas (show 0<9223372036854775807 by omega),hv,hr]
    dsimp only
    generalize (decide (x.ID<1)||decide (9999<x.ID)||false||decide (x.Record<1)||decide (9999<x.Record)||decide (x.Branch<1)||decide (4<x.Branch))=b1
    generalize (decide (x.Kind<1)||decide (9<x.Kind)||decide (x.Price<0)||decide (100000000<x.Price)||decide (200<(x.Call.length:Int))||!(vld x.Call))=b2
    generalize (!((zdo x.Branch c.Moves x.ID).2.2==0)||!(zbs (zdo x.Branch c.Moves x.ID).1 x.Custody))=b3
    cases b1<;>cases b2<;>cases b3<;>rfl
   ·have hj:c.Items[j]?=some c.Items[j]:=List.getElem?_eq_getElem (by omega)
    have:=hs.items
    simp -zeta only[zsl,dlt hi,zaq,hx,k_or,zb3,dpos,zg8 (show j<1000000000 by omega),hj,cond_false,cond_true,Bool.true_and,zb6,zas (show j+1<9223372036854775807 by omega),hv,hr]
    dsimp only
    generalize (decide (x.ID<1)||decide (9999<x.ID)||decide (x.ID≤c.Items[j].ID)||decide (x.Record<1)||decide (9999<x.Record)||decide (x.Branch<1)||decide (4<x.Branch))=b1
    generalize (decide (x.Kind<1)||decide (9<x.Kind)||decide (x.Price<0)||decide (100000000<x.Price)||decide (200<(x.Call.length:Int))||!(vld x.Call))=b2
    generalize (!((zdo x.Branch c.Moves x.ID).2.2==0)||!(zbs (zdo x.Branch c.Moves x.ID).1 x.Custody))=b3
    cases b1<;>cases b2<;>cases b3<;>rfl)
 exact h
theorem zyr {c:Circ} (hs:Short c):zah zjo (0,c,())=some (bif c.Moves.all (fun m=>(c.Items.find? (fun x=>x.ID==m.Item)).isSome) then .inl () else .inr (false,())):=by
 have h:=za2 (step:=zjo) (fun i=>((i:Int),c,())) c.Moves (fun _ m=>(c.Items.find? (fun x=>x.ID==m.Item)).isSome) (.inr (false,())) (.inl ()) hs.moves
  (by simp only[zjo,dge,cond_false])
  (fun i x hx=>by
   have hi:=(List.getElem?_eq_some_iff.1 hx).1
   have:=hs.moves
   simp only[zjo,dlt hi,zaq,hx,cond_true,zas (show i<9223372036854775807 by omega)]
   rcases zjg (item:=x.Item) hs.items with ⟨h1,h2⟩|⟨k,y,h1,h2,h3,h4⟩
   ·simp only[h1,h2,z17,cond_true,Option.isSome_none,cond_false]
   ·simp only[h1,h4,z16,cond_false,Option.isSome_some,cond_true])
 rw[show zah zjo (0,c,())=_ from h,zbj]
theorem zayy {c:Circ} (hs:Short c):qz c=some (zef c):=by
 unfold qz zef
 simp -zeta only[k_or]
 dsimp only
 rw[z49 hs]
 cases (decide (64<(c.Items.length:Int))||decide (2000<(c.Moves.length:Int))) with
 |true=>rfl
 |false=>
  cases zcj (zdd c) 0 c.Items with
  |false=>rfl
  |true=>
   simp only[cond_false,cond_true,zyr hs]
   cases c.Moves.all (fun m=>(c.Items.find? (fun x=>x.ID==m.Item)).isSome)<;>rfl
def zgm (c:Circ) (n:Loan):Bool:=match c.Items.find? (fun x=>x.ID==n.Item) with
 |some x=>!(!(getP c.Patrons n.Patron).2||!(zqj x.Custody)||!(x.Custody.Who==n.Patron))
 |none=>false
def ze9 (c:Circ):Bool:=c.Loans.all (zgm c)&&c.Items.all (fun x=>(zrw c.Loans x.ID).2==zqj x.Custody)
theorem zayx {c:Circ} (hs:Short c):qy c=some (ze9 c):=by
 have h1:=za2 (step:=zsk) (fun i=>((i:Int),c,())) c.Loans (fun _=>zgm c) (.inr (false,())) (.inl (c,())) hs.loans
  (by simp only[zsk,dge,cond_false])
  (fun i x hx=>by
   have hi:=(List.getElem?_eq_some_iff.1 hx).1
   have:=hs.loans
   unfold zgm
   rcases zjg (item:=x.Item) hs.items with ⟨h1,h2⟩|⟨k,y,h1,h2,h3,h4⟩
   ·simp -zeta only[zsk,dlt hi,zaq,hx,cond_true,k_or,zqh hs.patrons,h1,h2,z17,Bool.true_or]
    try rfl
   ·simp -zeta only[zsk,dlt hi,zaq,hx,cond_true,k_or,zqh hs.patrons,h1,h2,h4,z16,Bool.false_or,zag7,zas (show i<9223372036854775807 by omega)]
    dsimp only
    cases (!(getP c.Patrons x.Patron).2||!(zqj y.Custody)||!(y.Custody.Who==x.Patron))<;>rfl)
 have h2:=za2 (step:=zl1) (fun i=>((i:Int),c,())) c.Items (fun _ x=>(zrw c.Loans x.ID).2==zqj x.Custody) (.inr (false,())) (.inl ()) hs.items
  (by simp only[zl1,dge,cond_false])
  (fun i x hx=>by
   have hi:=(List.getElem?_eq_some_iff.1 hx).1
   have:=hs.items
   simp only[zl1,dlt hi,zaq,hx,cond_true,zaw2 hs.loans,zag7,zas (show i<9223372036854775807 by omega)]
   cases (zrw c.Loans x.ID).2==zqj x.Custody<;>rfl)
 unfold qy ze9
 rw[show zah zsk (0,c,())=_ from h1,zbj]
 cases c.Loans.all (zgm c) with
 |false=>rfl
 |true=>
  simp only[cond_true]
  rw[show zah zl1 (0,c,())=_ from h2,zbj]
  cases c.Items.all (fun x=>(zrw c.Loans x.ID).2==zqj x.Custody)<;>rfl
def zgg (c:Circ) (h:Hold):Bool:=
 !(!(getP c.Patrons h.Patron).2||decide (c.NextHold≤h.ID))&&(h.State==1||(match c.Items.find? (fun x=>x.ID==h.Got) with
  |some x=>!(!(x.Record==h.Record))&&!(h.State==3&&(!(x.Custody.State==5)||!(x.Custody.Branch==h.Pickup)||!(x.Custody.Who==h.Patron)))&&
   !(h.State==2&&(!(x.Custody.State==6)||!(x.Custody.To==h.Pickup)||!(x.Custody.Who==h.Patron)))
  |none=>false))
def zfc (c:Circ) (x:Item):Bool:=!(x.Custody.State==5)||!(!(zgv c x.ID).2||!((zgv c x.ID).1.State==3))
def ze7 (c:Circ):Bool:=c.Holds.all (zgg c)&&c.Items.all (zfc c)
theorem zayr {c:Circ} (hs:Short c):q8 c=some (ze7 c):=by
 have h1:=za2 (step:=zse) (fun i=>((i:Int),c,())) c.Holds (fun _=>zgg c) (.inr (false,())) (.inl (c,())) hs.holds
  (by simp only[zse,dge,cond_false])
  (fun i x hx=>by
   have hi:=(List.getElem?_eq_some_iff.1 hx).1
   have:=hs.holds
   unfold zgg
   rcases zjg (item:=x.Got) hs.items with ⟨h1,h2⟩|⟨k,y,h1,h2,h3,h4⟩
   ·simp -zeta only[zse,dlt hi,zaq,hx,cond_true,k_or,zqh hs.patrons,h1,h2,z17,zas (show i<9223372036854775807 by omega)]
    dsimp only
    cases (!(getP c.Patrons x.Patron).2||decide (c.NextHold≤x.ID)) with
    |true=>rfl
    |false=>cases x.State==1<;>rfl
   ·simp -zeta only[zse,dlt hi,zaq,hx,cond_true,k_or,zb3,zqh hs.patrons,h1,h2,h4,z16,cond_false,zas (show i<9223372036854775807 by omega)]
    dsimp only
    generalize (!(getP c.Patrons x.Patron).2||decide (c.NextHold≤x.ID))=b1
    generalize (x.State==1)=b2
    generalize (!(y.Record==x.Record))=b3
    generalize (!(y.Custody.State==5)||!(y.Custody.Branch==x.Pickup)||!(y.Custody.Who==x.Patron))=b4
    generalize (!(y.Custody.State==6)||!(y.Custody.To==x.Pickup)||!(y.Custody.Who==x.Patron))=b5
    generalize (x.State==3)=b6
    generalize (x.State==2)=b7
    cases b1<;>cases b2<;>cases b3<;>cases b4<;>cases b5<;>cases b6<;>cases b7<;>rfl)
 have h2:=za2 (step:=zlg) (fun i=>((i:Int),c,())) c.Items (fun _=>zfc c) (.inr (false,())) (.inl ()) hs.items
  (by simp only[zlg,dge,cond_false])
  (fun i x hx=>by
   have hi:=(List.getElem?_eq_some_iff.1 hx).1
   have:=hs.items
   unfold zfc
   simp -zeta only[zlg,dlt hi,zaq,hx,cond_true,k_or,zawr hs.holds,zas (show i<9223372036854775807 by omega)]
   dsimp only
   cases x.Custody.State==5 with
   |false=>rfl
   |true=>
    generalize (!(zgv c x.ID).2||!((zgv c x.ID).1.State==3))=b
    cases b<;>rfl)
 unfold q8 ze7
 rw[show zah zse (0,c,())=_ from h1,zbj]
 cases c.Holds.all (zgg c) with
 |false=>rfl
 |true=>
  simp only[cond_true]
  rw[show zah zlg (0,c,())=_ from h2,zbj]
  cases c.Items.all (zfc c)<;>rfl
end Go.Proofs.YtpaidiaknfhclaaGreatDoor
namespace Go.Proofs.YtpaidiaknfhclaaGreatDoor
open Ev
open Go (IntKind)
def zf4 (c:Circ):Bool:=zb5 c.Cals.x0==0&&(zb5 c.Cals.x1==0&&(zb5 c.Cals.x2==0&&zb5 c.Cals.x3==0))
theorem zyg {c:Circ} (hs:Short c):zah zhd (0,c,())=some (bif zf4 c then .inl (c,()) else .inr (false,())):=by
 have s0:zhd (0,c,())=bif zb5 c.Cals.x0==0 then some (.inl (1,c,())) else some (.inr (.inr (false,()))):=by
  show (match qaa c.Cals.x0 with|some r=>(bif !(r==0) then (some (.inr (.inr (false,()))):Option ((Int×Circ×Unit)⊕((Circ×Unit)⊕(Bool×Unit)))) else some (.inl (1,c,())))|none=>none)=_
  rw[zv6 hs.cal0];dsimp only;cases zb5 c.Cals.x0==0<;>rfl
 have s1:zhd (1,c,())=bif zb5 c.Cals.x1==0 then some (.inl (2,c,())) else some (.inr (.inr (false,()))):=by
  show (match qaa c.Cals.x1 with|some r=>(bif !(r==0) then (some (.inr (.inr (false,()))):Option ((Int×Circ×Unit)⊕((Circ×Unit)⊕(Bool×Unit)))) else some (.inl (2,c,())))|none=>none)=_
  rw[zv6 hs.cal1];dsimp only;cases zb5 c.Cals.x1==0<;>rfl
 have s2:zhd (2,c,())=bif zb5 c.Cals.x2==0 then some (.inl (3,c,())) else some (.inr (.inr (false,()))):=by
  show (match qaa c.Cals.x2 with|some r=>(bif !(r==0) then (some (.inr (.inr (false,()))):Option ((Int×Circ×Unit)⊕((Circ×Unit)⊕(Bool×Unit)))) else some (.inl (3,c,())))|none=>none)=_
  rw[zv6 hs.cal2];dsimp only;cases zb5 c.Cals.x2==0<;>rfl
 have s3:zhd (3,c,())=bif zb5 c.Cals.x3==0 then some (.inl (4,c,())) else some (.inr (.inr (false,()))):=by
  show (match qaa c.Cals.x3 with|some r=>(bif !(r==0) then (some (.inr (.inr (false,()))):Option ((Int×Circ×Unit)⊕((Circ×Unit)⊕(Bool×Unit)))) else some (.inl (4,c,())))|none=>none)=_
  rw[zv6 hs.cal3];dsimp only;cases zb5 c.Cals.x3==0<;>rfl
 have s4:zhd (4,c,())=some (.inr (.inl (c,()))):=rfl
 refine zff 5 (by rw[zl9];omega) ?_
 unfold zf4
 simp only[zcs,s0,s1,s2,s3,s4]
 cases zb5 c.Cals.x0==0 with
 |false=>rfl
 |true=>
  simp only[cond_true,zcs,s1]
  cases zb5 c.Cals.x1==0 with
  |false=>rfl
  |true=>
   simp only[cond_true,zcs,s2]
   cases zb5 c.Cals.x2==0 with
   |false=>rfl
   |true=>
    simp only[cond_true,zcs,s3]
    cases zb5 c.Cals.x3==0 with
    |false=>rfl
    |true=>simp only[cond_true,zcs,s4];rfl
def zd9 (c:Circ) (x:Charge):Bool:=!(!(getP c.Patrons x.Patron).2||decide (c.NextCharge≤x.ID))
theorem zsg {c:Circ} (hs:Short c):zah zfx (0,c,())=some (bif c.Charges.all (zd9 c) then .inl (c,()) else .inr (false,())):=by
 have h:=za2 (step:=zfx) (fun i=>((i:Int),c,())) c.Charges (fun _=>zd9 c) (.inr (false,())) (.inl (c,())) hs.charges
  (by simp only[zfx,dge,cond_false])
  (fun i x hx=>by
   have hi:=(List.getElem?_eq_some_iff.1 hx).1
   have:=hs.charges
   unfold zd9
   simp -zeta only[zfx,dlt hi,zaq,hx,cond_true,k_or,zqh hs.patrons,zas (show i<9223372036854775807 by omega)]
   dsimp only
   cases (!(getP c.Patrons x.Patron).2||decide (c.NextCharge≤x.ID))<;>rfl)
 rw[show zah zfx (0,c,())=_ from h,zbj]
def znl (c:Circ):Bool:=!(decide (c.Today<0)||decide (109572<c.Today)||decide (c.NextHold<1)||decide (100000<c.NextHold)||decide (c.NextCharge<1)||decide (100000<c.NextCharge))
def zir (c:Circ):Bool:=!(!(zei c.Patrons==0)||!(zgn c.Loans==0)||!(zdc c.Holds==0)||!(zea c.Charges==0)||!(zfk c.Rules==0))
def zl4 (c:Circ):Bool:=znl c&&(zir c&&(zf4 c&&(c.Charges.all (zd9 c)&&(zef c&&(ze9 c&&ze7 c)))))
theorem zawk {c:Circ} (hs:Short c):qaf c=some (zl4 c):=by
 unfold qaf zl4 znl zir
 simp -zeta only[k_or,zb3,zawv hs.patrons hs.name,zawt hs.loans,zayt hs.holds,zawu hs.charges,zayv hs.rules]
 dsimp only
 rw[zyg hs]
 generalize (decide (c.Today<0)||decide (109572<c.Today)||decide (c.NextHold<1)||decide (100000<c.NextHold)||decide (c.NextCharge<1)||decide (100000<c.NextCharge))=b1
 generalize (!(zei c.Patrons==0)||!(zgn c.Loans==0)||!(zdc c.Holds==0)||!(zea c.Charges==0)||!(zfk c.Rules==0))=b2
 cases b1 with
 |true=>rfl
 |false=>
  cases b2 with
  |true=>rfl
  |false=>
   cases zf4 c with
   |false=>rfl
   |true=>
    simp only[cond_false,cond_true,zsg hs]
    cases c.Charges.all (zd9 c) with
    |false=>rfl
    |true=>
     simp -zeta only[cond_false,cond_true,zayy hs,zayx hs,zayr hs,zb3]
     try dsimp only
     cases zef c<;>cases ze9 c<;>cases ze7 c<;>rfl
def zjz (c:Circ):Bool:=
 !(decide (10<(c.Items.length:Int))||decide (8<(c.Patrons.length:Int))||decide (12<(c.Holds.length:Int))||decide (12<(c.Loans.length:Int))||decide (30<(c.Charges.length:Int))||decide (10<(c.Rules.length:Int))||decide (200<(c.Moves.length:Int)))&&
 (c.Items.all (fun x=>!(decide (300<(x.Call.length:Int))))&&(c.Patrons.all (fun x=>!(decide (300<(x.Name.length:Int))))&&
  (!(decide (20<(c.Cals.x0.Closed.length:Int)))&&(!(decide (20<(c.Cals.x1.Closed.length:Int)))&&(!(decide (20<(c.Cals.x2.Closed.length:Int)))&&!(decide (20<(c.Cals.x3.Closed.length:Int))))))))
theorem zayu (c:Circ):qr c=some (zjz c):=by
 unfold qr zjz
 simp -zeta only[k_or,zb3]
 dsimp only
 cases hb:(decide (10<(c.Items.length:Int))||decide (8<(c.Patrons.length:Int))||decide (12<(c.Holds.length:Int))||decide (12<(c.Loans.length:Int))||decide (30<(c.Charges.length:Int))||decide (10<(c.Rules.length:Int))||decide (200<(c.Moves.length:Int))) with
 |true=>rfl
 |false=>
  simp only[Bool.or_eq_false_iff,decide_eq_false_iff_not]at hb
  have h1:=za2 (step:=zyn) (fun i=>((i:Int),c,())) c.Items (fun _ x=>!(decide (300<(x.Call.length:Int)))) (.inr (false,())) (.inl (c,())) (by omega)
   (by simp only[zyn,dge,cond_false])
   (fun i x hx=>by
    have hi:=(List.getElem?_eq_some_iff.1 hx).1
    simp only[zyn,dlt hi,zaq,hx,cond_true,zas (show i<9223372036854775807 by omega)]
    cases decide (300<(x.Call.length:Int))<;>rfl)
  have h2:=za2 (step:=zyo) (fun i=>((i:Int),c,())) c.Patrons (fun _ x=>!(decide (300<(x.Name.length:Int)))) (.inr (false,())) (.inl (c,())) (by omega)
   (by simp only[zyo,dge,cond_false])
   (fun i x hx=>by
    have hi:=(List.getElem?_eq_some_iff.1 hx).1
    simp only[zyo,dlt hi,zaq,hx,cond_true,zas (show i<9223372036854775807 by omega)]
    cases decide (300<(x.Name.length:Int))<;>rfl)
  have h3:zah zhe (0,c,())=some (bif (!(decide (20<(c.Cals.x0.Closed.length:Int)))&&(!(decide (20<(c.Cals.x1.Closed.length:Int)))&&(!(decide (20<(c.Cals.x2.Closed.length:Int)))&&!(decide (20<(c.Cals.x3.Closed.length:Int)))))) then .inl () else .inr (false,())):=by
   have s0:zhe (0,c,())=bif decide (20<(c.Cals.x0.Closed.length:Int)) then some (.inr (.inr (false,()))) else some (.inl (1,c,())):=rfl
   have s1:zhe (1,c,())=bif decide (20<(c.Cals.x1.Closed.length:Int)) then some (.inr (.inr (false,()))) else some (.inl (2,c,())):=rfl
   have s2:zhe (2,c,())=bif decide (20<(c.Cals.x2.Closed.length:Int)) then some (.inr (.inr (false,()))) else some (.inl (3,c,())):=rfl
   have s3:zhe (3,c,())=bif decide (20<(c.Cals.x3.Closed.length:Int)) then some (.inr (.inr (false,()))) else some (.inl (4,c,())):=rfl
   have s4:zhe (4,c,())=some (.inr (.inl ())):=rfl
   refine zff 5 (by rw[zl9];omega) ?_
   simp only[zcs,s0]
   cases decide (20<(c.Cals.x0.Closed.length:Int)) with
   |true=>rfl
   |false=>
    simp only[cond_false,zcs,s1]
    cases decide (20<(c.Cals.x1.Closed.length:Int)) with
    |true=>rfl
    |false=>
     simp only[cond_false,zcs,s2]
     cases decide (20<(c.Cals.x2.Closed.length:Int)) with
     |true=>rfl
     |false=>
      simp only[cond_false,zcs,s3]
      cases decide (20<(c.Cals.x3.Closed.length:Int)) with
      |true=>rfl
      |false=>simp only[cond_false,zcs,s4];rfl
  simp only[cond_false,Bool.not_false,Bool.true_and]
  rw[show zah zyn (0,c,())=_ from h1,zbj]
  cases c.Items.all (fun x=>!(decide (300<(x.Call.length:Int)))) with
  |false=>rfl
  |true=>
   simp only[cond_true,Bool.true_and]
   rw[show zah zyo (0,c,())=_ from h2,zbj]
   cases c.Patrons.all (fun x=>!(decide (300<(x.Name.length:Int)))) with
   |false=>rfl
   |true=>
    simp only[cond_true,Bool.true_and,h3]
    cases (!(decide (20<(c.Cals.x0.Closed.length:Int)))&&(!(decide (20<(c.Cals.x1.Closed.length:Int)))&&(!(decide (20<(c.Cals.x2.Closed.length:Int)))&&!(decide (20<(c.Cals.x3.Closed.length:Int))))))<;>rfl
structure SmallP (c:Circ):Prop where
 items:c.Items.length≤10
 patrons:c.Patrons.length≤8
 holds:c.Holds.length≤12
 loans:c.Loans.length≤12
 charges:c.Charges.length≤30
 rules:c.Rules.length≤10
 moves:c.Moves.length≤200
 call:∀x∈c.Items,x.Call.length≤300
 name:∀x∈c.Patrons,x.Name.length≤300
 cal0:c.Cals.x0.Closed.length≤20
 cal1:c.Cals.x1.Closed.length≤20
 cal2:c.Cals.x2.Closed.length≤20
 cal3:c.Cals.x3.Closed.length≤20
theorem zaic {c:Circ} (h:zjz c=true):SmallP c:=by
 unfold zjz at h
 simp only[Bool.and_eq_true,Bool.not_eq_true',Bool.or_eq_false_iff,decide_eq_false_iff_not,List.all_eq_true]at h
 obtain ⟨⟨⟨⟨⟨⟨⟨h1,h2⟩,h3⟩,h4⟩,h5⟩,h6⟩,h7⟩,h8,h9,h10,h11,h12,h13⟩:=h
 exact ⟨by omega,by omega,by omega,by omega,by omega,by omega,by omega,fun x hx=>by have:=h8 x hx;omega,fun x hx=>by have:=h9 x hx;omega,by omega,by omega,by omega,by omega⟩
theorem SmallP.short {c:Circ} (h:SmallP c):Short c:=by
 obtain ⟨h1,h2,h3,h4,h5,h6,h7,h8,h9,h10,h11,h12,h13⟩:=h
 exact ⟨by omega,by omega,by omega,by omega,by omega,by omega,by omega,fun x hx=>by have:=h8 x hx;omega,fun x hx=>by have:=h9 x hx;omega,by omega,by omega,by omega,by omega⟩
end Go.Proofs.YtpaidiaknfhclaaGreatDoor
namespace Go.Proofs.YtpaidiaknfhclaaGreatDoor
open Ev
open Go (IntKind)
end Go.Proofs.YtpaidiaknfhclaaGreatDoor
namespace Go.Proofs.YtpaidiaknfhclaaGreatDoor
open Ev
open Go (IntKind)
theorem zanh {X:Type} (p:X→Bool) (l:List X):decide (fIdx p l<0)=!(l.any p):=by
 unfold fIdx
 induction l with
 |nil=>rfl
 |cons y l ih=>
  simp only[List.findIdx?_cons,List.any_cons]
  cases hp:p y with
  |true=>rfl
  |false=>
   simp only[Bool.false_eq_true,if_false,Bool.false_or]
   rw[←ih]
   cases l.findIdx? p with
   |none=>rfl
   |some k=>simp only[Option.map_some];rw[decide_eq_decide];omega
theorem zang {X:Type} (p:X→Bool) (l:List X):decide (0≤fIdx p l)=l.any p:=by
 have h:=zanh p l
 cases hb:l.any p with
 |true=>rw[hb]at h;simp at h ⊢;omega
 |false=>rw[hb]at h;simp at h ⊢;omega
theorem zawo {γ:Type} {p:γ→Hold→Option Bool} {g:γ} (q:Hold→Bool) {l:List Hold} (hl:l.length<1000000000) (hp:∀x∈l,p g x=some (q x)):qb p l g=some (fIdx q l):=by
 have h:=zcc (step:=zjh p) (fun i=>(l,g,(l.length:Int),(i:Int),())) l q (fun i _=>(.inr ((i:Int),()):(Unit)⊕(Int×Unit))) (.inl ()) hl
  (by simp only[zjh,dge,cond_false])
  (fun i x hx=>by
   have hi:=(List.getElem?_eq_some_iff.1 hx).1
   simp only[zjh,dlt hi,zaq,hx,cond_true,hp x (List.mem_of_getElem? hx),zas (show i<9223372036854775807 by omega)])
 unfold qb
 rw[show zah (zjh p) (l,g,(l.length:Int),0,())=_ from h]
 have e:=zdn (p:=q) (g:=fun i _=>(.inr ((i:Int),()):(Unit)⊕(Int×Unit))) (d:=.inl ()) (fun r:(Unit)⊕(Int×Unit)=>match r with | .inl (_)=>(-1:Int) | .inr (v,_)=>v) (l:=l) (i:=0)
 dsimp only at e
 rw[←zfi,←e]
 generalize zey q (fun i _=>(.inr ((i:Int),()):(Unit)⊕(Int×Unit))) (.inl ()) 0 l=r
 rcases r with _|⟨v,_⟩<;>rfl
theorem zape {γ:Type} {p:γ→Hold→Option Bool} {g:γ} (q:Hold→Bool) {l:List Hold} (hl:l.length<1000000000) (hp:∀x∈l,p g x=some (q x)):qb0 p l g=some (l.any q):=by
 unfold qb0
 rw[zawo q hl hp]
 dsimp only
 rw[zang]
theorem zgf (l:List Hold) (i:Nat) (x:Hold):zcr l i x=bif zb6 l i (fun y=>decide (x.ID≤y.ID)) then 7 else zbo x:=by
 unfold zcr
 congr 1
 cases h:zbo x==0 with
 |true=>simp at h;simp[h]
 |false=>simp
def zazc (q:Hold→Hold→Bool) (l:List Hold):Bool:=zcj (fun i x=>(l.take i).all (fun y=>!(q y x))) 0 l
end Go.Proofs.YtpaidiaknfhclaaGreatDoor
namespace Go.Proofs.YtpaidiaknfhclaaGreatDoor
open Ev
open Go (IntKind)
theorem zjr {lo hi n:Int}:rng lo hi n=true↔lo≤n∧n≤hi:=by
 unfold rng
 simp only[Bool.and_eq_true,decide_eq_true_eq]
end Go.Proofs.YtpaidiaknfhclaaGreatDoor
namespace Go.Proofs.YtpaidiaknfhclaaGreatDoor
open Ev
open Go (IntKind)
def zc6 (x:Item):Bool:=rng 1 9999 x.ID&&rng 1 9999 x.Record&&rng 1 4 x.Branch&&rng 1 9 x.Kind&&rng 0 100000000 x.Price&&decide ((x.Call.length:Int)≤200)&&vld x.Call
def zcg (c:Circ) (x:Item):Bool:=!(!((zdo x.Branch c.Moves x.ID).2.2==0)||!(zbs (zdo x.Branch c.Moves x.ID).1 x.Custody))
def z4l (c:Circ):Bool:=c.Moves.all (fun m=>(c.Items.find? (fun x=>x.ID==m.Item)).isSome)
def zip (c:Circ):Bool:=!(decide (64<(c.Items.length:Int))||decide (2000<(c.Moves.length:Int)))&&(zcj (fun i x=>!(!(zc6 x)||zb6 c.Items i (fun y=>decide (x.ID≤y.ID)))) 0 c.Items&&(z4l c&&c.Items.all (zcg c)))
end Go.Proofs.YtpaidiaknfhclaaGreatDoor
namespace Go.Proofs.YtpaidiaknfhclaaGreatDoor
open Ev
open Go (IntKind)
theorem zqs {X:Type} {key:X→Int} {l:List X} (h:∀i x,l[i]?=some x→zb6 l i (fun y=>decide (key x≤key y))=false):∀(j i:Nat) (x y:X),i<j→l[i]?=some x→l[j]?=some y→key x<key y:=by
 intro j
 induction j with
 |zero=>intro i x y hi;omega
 |succ j ih=>
  intro i x y hi hx hy
  have hj:=(List.getElem?_eq_some_iff.1 hy).1
  have hz:l[j]?=some l[j]:=List.getElem?_eq_getElem (by omega)
  have:=h _ _ hy
  simp only[zb6,hz,decide_eq_false_iff_not]at this
  by_cases e:i=j
  ·subst e
   rw[hz]at hx;cases hx;omega
  ·have:=ih i x l[j] (by omega) hx hz
   omega
theorem zii {X:Type} {f:Nat→X→Int}:∀{l:List X} {k:Nat},zb2 f k l=0→∀i x,l[i]?=some x→f (k+i) x=0:=by
 intro l
 induction l with
 |nil=>intro k _ i x hx;simp at hx
 |cons y l ih=>
  intro k h i x hx
  unfold zb2 at h
  by_cases e:f k y=0
  ·rw[e]at h
   simp only[beq_self_eq_true,if_true]at h
   cases i with
   |zero=>simp at hx;subst hx;exact e
   |succ i=>have:=ih h i x (by simpa using hx);rwa [show k+(i+1)=k+1+i by omega]
  ·have:(f k y==0)=false:=by simpa using e
   rw[this]at h
   exact absurd h e
theorem zc3 {b:Bool} {n m:Int} (h:(bif b then n else m)=0) (hn:n≠0):b=false:=by
 cases b with
 |false=>rfl
 |true=>exact absurd h hn
theorem zgh {l:List Hold} (h:zdc l=0):zb2 (zcr l) 0 l=0:=by
 unfold zdc at h
 rw[zc3 h (by decide)]at h
 simp only[cond_false]at h
 by_cases e:zb2 (zcr l) 0 l=0
 ·exact e
 ·have h2:(zb2 (zcr l) 0 l==0)=false:=by simpa using e
  rw[h2]at h
  exact h
theorem zos {l:List Hold} (h:zdc l=0):∀i x,l[i]?=some x→zb6 l i (fun y=>decide (x.ID≤y.ID))=false:=by
 intro i x hx
 have:=zii (k:=0) (zgh h) i x hx
 rw[Nat.zero_add,zgf]at this
 exact zc3 this (by decide)
theorem zxn {l:List Hold} (h:zdc l=0) {x:Hold} (hx:x∈l):zbo x=0:=by
 obtain ⟨i,hi⟩:=List.getElem?_of_mem hx
 have:=zii (k:=0) (zgh h) i x hi
 rw[Nat.zero_add,zgf]at this
 rw[zc3 this (by decide)]at this
 exact this
theorem zih {a b:Custody}:zbs a b=true↔a=b:=by
 obtain ⟨a1,a2,a3,a4⟩:=a
 obtain ⟨b1,b2,b3,b4⟩:=b
 unfold zbs
 simp[Bool.and_eq_true]
 try (constructor<;>(intro h;simp_all))
end Go.Proofs.YtpaidiaknfhclaaGreatDoor
namespace Go.Proofs.YtpaidiaknfhclaaGreatDoor
open Ev
open Go (IntKind)
theorem zr1 (c:Circ) (i:Nat) (x:Item):zdd c i x=(!(!(zc6 x)||zb6 c.Items i (fun y=>decide (x.ID≤y.ID)))&&zcg c x):=by
 unfold zdd zcg zc6
 rw[Bool.eq_iff_iff]
 simp only[Bool.and_eq_true,Bool.not_eq_true',Bool.or_eq_false_iff,decide_eq_false_iff_not,Bool.not_eq_false',zjr,decide_eq_true_eq]
 constructor
 ·rintro ⟨⟨h1,h2⟩,h3⟩
  obtain ⟨⟨⟨⟨⟨⟨a1,a2⟩,a3⟩,a4⟩,a5⟩,a6⟩,a7⟩:=h1
  obtain ⟨⟨⟨⟨⟨b1,b2⟩,b3⟩,b4⟩,b5⟩,b6⟩:=h2
  refine ⟨⟨⟨⟨⟨⟨⟨⟨⟨?_,?_⟩,⟨?_,?_⟩⟩,⟨?_,?_⟩⟩,⟨?_,?_⟩⟩,⟨?_,?_⟩⟩,?_⟩,b6⟩,a3⟩,h3⟩<;>omega
 ·rintro ⟨⟨h1,a3⟩,h3⟩
  obtain ⟨⟨⟨⟨⟨⟨⟨a1,a2⟩,⟨a4,a5⟩⟩,⟨a6,a7⟩⟩,⟨a8,a9⟩⟩,⟨b1,b2⟩⟩,b3⟩,b4⟩:=h1
  refine ⟨⟨⟨⟨⟨⟨⟨⟨?_,?_⟩,a3⟩,?_⟩,?_⟩,?_⟩,?_⟩,⟨⟨⟨⟨⟨?_,?_⟩,?_⟩,?_⟩,?_⟩,b4⟩⟩,h3⟩<;>omega
theorem zoz (c:Circ):zef c=zip c:=by
 have key:zcj (zdd c) 0 c.Items=(zcj (fun i x=>!(!(zc6 x)||zb6 c.Items i (fun y=>decide (x.ID≤y.ID)))) 0 c.Items&&c.Items.all (zcg c)):=by
  have gen:∀(l:List Item) (k:Nat),zcj (zdd c) k l=(zcj (fun i x=>!(!(zc6 x)||zb6 c.Items i (fun y=>decide (x.ID≤y.ID)))) k l&&l.all (zcg c)):=by
   intro l
   induction l with
   |nil=>intro k;rfl
   |cons x l ih=>
    intro k
    simp only[zcj,List.all_cons]
    rw[ih,zr1]
    generalize (!(!(zc6 x)||zb6 c.Items k (fun y=>decide (x.ID≤y.ID))))=b1
    generalize zcj (fun i x=>!(!(zc6 x)||zb6 c.Items i (fun y=>decide (x.ID≤y.ID)))) (k+1) l=b2
    cases b1<;>cases b2<;>cases zcg c x<;>cases l.all (zcg c)<;>rfl
  exact gen _ _
 unfold zef zip z4l
 rw[key]
 generalize (!(decide (64<(c.Items.length:Int))||decide (2000<(c.Moves.length:Int))))=b1
 generalize zcj (fun i x=>!(!(zc6 x)||zb6 c.Items i (fun y=>decide (x.ID≤y.ID)))) 0 c.Items=b2
 generalize c.Moves.all (fun m=>(c.Items.find? (fun x=>x.ID==m.Item)).isSome)=b3
 cases b1<;>cases b2<;>cases b3<;>cases c.Items.all (zcg c)<;>rfl
theorem zo1 {c:Circ} (h:zip c=true):∀i x,c.Items[i]?=some x→zb6 c.Items i (fun y=>decide (x.ID≤y.ID))=false:=by
 intro i x hx
 unfold zip at h
 simp only[Bool.and_eq_true]at h
 have:=(zzn.1 h.2.1) i x hx
 rw[Nat.zero_add]at this
 simp only[Bool.not_eq_true',Bool.or_eq_false_iff]at this
 exact this.2
theorem zo0 {c:Circ} (h:zip c=true) {x:Item} (hx:x∈c.Items):zcg c x=true:=by
 unfold zip at h
 simp only[Bool.and_eq_true,List.all_eq_true]at h
 exact h.2.2.2 x hx
end Go.Proofs.YtpaidiaknfhclaaGreatDoor
namespace Go.Proofs.YtpaidiaknfhclaaGreatDoor
open Ev
open Go (IntKind)
end Go.Proofs.YtpaidiaknfhclaaGreatDoor
namespace Go.Proofs.YtpaidiaknfhclaaGreatDoor
open Ev
open Go (IntKind)
end Go.Proofs.YtpaidiaknfhclaaGreatDoor
namespace Go.Proofs.YtpaidiaknfhclaaGreatDoor
open Ev
open Go (IntKind)
def owed (p:Int):List Charge→Int
 | []=>0
 |x::l=>(bif x.Patron==p then x.Amount-x.Paid else 0)+owed p l
end Go.Proofs.YtpaidiaknfhclaaGreatDoor
namespace Go.Proofs.YtpaidiaknfhclaaGreatDoor
open Ev
open Go (IntKind)
end Go.Proofs.YtpaidiaknfhclaaGreatDoor
namespace Go.Proofs.YtpaidiaknfhclaaGreatDoor
open Ev
open Go (IntKind)
def calS (c:Circ) (b:Int):Calendar:=bif b==1 then c.Cals.x0 else bif b==2 then c.Cals.x1 else bif b==3 then c.Cals.x2 else c.Cals.x3
end Go.Proofs.YtpaidiaknfhclaaGreatDoor
namespace Go.Proofs.YtpaidiaknfhclaaGreatDoor
open Ev
open Go (IntKind)
end Go.Proofs.YtpaidiaknfhclaaGreatDoor
namespace Go.Proofs.YtpaidiaknfhclaaGreatDoor
open Ev
open Go (IntKind)
structure CalOk (c:Calendar):Prop where
 w1:0≤c.Week
 w2:c.Week≤126
 len:c.Closed.length<1000000000
 inc:incr c.Closed=true
theorem z8x {c:Calendar} (h:(zb5 c==0)=true):CalOk c:=by
 have h:zb5 c=0:=by simpa using h
 unfold zb5 at h
 have h1:=zc3 h (by decide)
 rw[h1]at h
 simp only[cond_false]at h
 have h2:=zc3 h (by decide)
 rw[h2]at h
 simp only[cond_false]at h
 simp only[Bool.or_eq_false_iff,decide_eq_false_iff_not]at h1 h2
 cases h3:c.Closed.all (fun x=>!(decide (x<0)||decide (109572<x))) with
 |false=>rw[h3]at h;cases h
 |true=>
  rw[h3]at h
  cases h4:incr c.Closed with
  |false=>rw[h4]at h;cases h
  |true=>exact ⟨by omega,by omega,by omega,h4⟩
end Go.Proofs.YtpaidiaknfhclaaGreatDoor
namespace Go.Proofs.YtpaidiaknfhclaaGreatDoor
open Ev
open Go (IntKind)
end Go.Proofs.YtpaidiaknfhclaaGreatDoor
namespace Go.Proofs.YtpaidiaknfhclaaGreatDoor
open Ev
open Go (IntKind)
end Go.Proofs.YtpaidiaknfhclaaGreatDoor
namespace Go.Proofs.YtpaidiaknfhclaaGreatDoor
open Ev
open Go (IntKind)
structure FitP (c:Circ):Prop where
 charges:zea c.Charges=0
 loans:zgn c.Loans=0
 holds:zdc c.Holds=0
 rules:zfk c.Rules=0
 patrons:zei c.Patrons=0
 cal0:CalOk c.Cals.x0
 cal1:CalOk c.Cals.x1
 cal2:CalOk c.Cals.x2
 cal3:CalOk c.Cals.x3
 items:zip c=true
 loanG:∀n∈c.Loans,zgm c n=true
 itemG:∀x∈c.Items,(zrw c.Loans x.ID).2=zqj x.Custody
 holdG:∀h∈c.Holds,zgg c h=true
 readyG:∀x∈c.Items,zfc c x=true
 nums:znl c=true
theorem fitP {c:Circ} (h:zl4 c=true):FitP c:=by
 unfold zl4 at h
 rw[zoz]at h
 simp only[Bool.and_eq_true]at h
 obtain ⟨h1,h2,h3,h4,h5,h6,h7⟩:=h
 unfold zir at h2
 simp only[Bool.not_eq_true',Bool.or_eq_false_iff,Bool.not_eq_false',beq_iff_eq]at h2
 unfold zf4 at h3
 simp only[Bool.and_eq_true]at h3
 unfold ze9 at h6
 unfold ze7 at h7
 simp only[Bool.and_eq_true,List.all_eq_true,beq_iff_eq]at h6 h7
 exact ⟨h2.1.2,h2.1.1.1.2,h2.1.1.2,h2.2,h2.1.1.1.1,z8x h3.1,z8x h3.2.1,z8x h3.2.2.1,z8x h3.2.2.2,h5,h6.1,h6.2,h7.1,h7.2,h1⟩
theorem zaiq {c:Circ} (h:FitP c) (b:Int):CalOk (calS c b):=by
 unfold calS
 cases b==1 with
 |true=>exact h.cal0
 |false=>
  cases b==2 with
  |true=>exact h.cal1
  |false=>
   cases b==3 with
   |true=>exact h.cal2
   |false=>exact h.cal3
theorem zapl {c:Circ} (h:FitP c) {r:Rule} (hr:r∈c.Rules):zl5 r=true:=by
 have h:=h.rules
 unfold zfk at h
 rw[zc3 h (by decide)]at h
 obtain ⟨i,hi⟩:=List.getElem?_of_mem hr
 have:=zii (k:=0) h i r hi
 rw[Nat.zero_add]at this
 unfold zfz at this
 have:=zc3 this (by decide)
 simpa using this
def zep (c:Custody):Prop:=rng 1 4 c.Branch=true
theorem zqo {c:Custody} (h:z42 c=true):zep c:=by
 unfold z42 at h
 unfold zep
 cases hq:(decide (c.State<1)||decide (12<c.State)||decide (c.Branch<1)||decide (4<c.Branch)) with
 |true=>rw[hq]at h;cases h
 |false=>
  simp only[Bool.or_eq_false_iff,decide_eq_false_iff_not]at hq
  rw[zjr];omega
theorem znx {m:Move} (h:z41 m=true):rng 1 4 m.Branch=true:=by
 unfold z41 at h
 simp only[Bool.and_eq_true,decide_eq_true_eq]at h
 rw[zjr];omega
theorem zmj {c:Custody} {m:Move} (h:((zck c m).2==0)=true):zep (zck c m).1:=by
 unfold zck at h ⊢
 cases e1:(!(z42 c)||!(z41 m)) with
 |true=>rw[e1]at h;cases h
 |false=>
  have e0:=e1
  simp only[Bool.or_eq_false_iff,Bool.not_eq_false']at e0
  have b1:=zqo e0.1
  have b2:=znx e0.2
  rw[e1]at h
  simp only[cond_false]at h ⊢
  cases e2:!(zti c.State m.Kind) with
  |true=>rw[e2]at h;cases h
  |false=>
   rw[e2]at h
   simp only[cond_false]at h ⊢
   cases e3:(m.Kind==3&&c.State==5&&!(m.Who==c.Who)) with
   |true=>rw[e3]at h;cases h
   |false=>
    rw[e3]at h
    simp only[cond_false]at h ⊢
    cases e4:!(zaph c m) with
    |true=>rw[e4]at h;cases h
    |false=>
     simp only[cond_false]
     cases (zej m.Kind==2) with
     |true=>exact b2
     |false=>
      simp only[cond_false]
      cases (zej m.Kind==4||(zej m.Kind==5||zej m.Kind==8)) with
      |true=>exact b1
      |false=>
       simp only[cond_false]
       cases e5:(zej m.Kind==6) with
       |true=>exact b1
       |false=>
        simp only[cond_false]
        cases (zej m.Kind==9||zej m.Kind==10) with
        |true=>exact b1
        |false=>exact b1
theorem zkg:∀{l:List Move} {i:Nat} {item:Int} {c d:Custody},zep c→zcu i l item c=.inl d→zep d:=by
 intro l
 induction l with
 |nil=>intro i item c d hc h;simp only[zcu]at h;cases h;exact hc
 |cons x l ih=>
  intro i item c d hc h
  simp only[zcu]at h
  cases e:x.Item==item with
  |false=>rw[e]at h;exact ih hc h
  |true=>
   rw[e]at h
   simp only[cond_true]at h
   cases e2:(zck c x).2==0 with
   |true=>rw[e2]at h;exact ih (zmj e2) h
   |false=>rw[e2]at h;cases h
theorem zjp {c:Circ} {x:Item} (h:zcg c x=true):zep x.Custody:=by
 unfold zcg at h
 simp only[Bool.not_eq_true',Bool.or_eq_false_iff,Bool.not_eq_false',beq_iff_eq]at h
 obtain ⟨h1,h2⟩:=h
 have e:=zih.1 h2
 rw[←e]
 unfold zdo at h1 ⊢
 cases hb:(decide (x.Branch<1)||decide (4<x.Branch)) with
 |true=>rw[hb]at h1;cases h1
 |false=>
  rw[hb]at h1
  simp only[cond_false]at h1 ⊢
  have hb2:zep (zsh x.Branch):=by
   simp only[Bool.or_eq_false_iff,decide_eq_false_iff_not]at hb
   show rng 1 4 x.Branch=true
   rw[zjr];omega
  cases hr:zcu 0 c.Moves x.ID (zsh x.Branch) with
  |inl d=>exact zkg hb2 hr
  |inr p=>
   rw[hr]at h1
   exfalso
   obtain ⟨i,e⟩:=p
   simp only at h1
   have key:∀(l:List Move) (i:Nat) (c:Custody) (p:Int×Int),zcu i l x.ID c=.inr p→p.2≠0:=by
    intro l
    induction l with
    |nil=>intro i c p h;simp only[zcu]at h;cases h
    |cons y l ih=>
     intro i c p h
     simp only[zcu]at h
     cases e:y.Item==x.ID with
     |false=>rw[e]at h;exact ih _ _ _ h
     |true=>
      rw[e]at h
      simp only[cond_true]at h
      cases e2:(zck c y).2==0 with
      |true=>rw[e2]at h;exact ih _ _ _ h
      |false=>rw[e2]at h;cases h;simpa using e2
   exact key _ _ _ _ hr h1
theorem zxi {c:Circ} (h:FitP c) {x:Item} (hx:x∈c.Items):rng 1 4 x.Custody.Branch=true:=zjp (zo0 h.items hx)
end Go.Proofs.YtpaidiaknfhclaaGreatDoor
namespace Go.Proofs.YtpaidiaknfhclaaGreatDoor
open Ev
open Go (IntKind)
end Go.Proofs.YtpaidiaknfhclaaGreatDoor
namespace Go.Proofs.YtpaidiaknfhclaaGreatDoor
open Ev
open Go (IntKind)
end Go.Proofs.YtpaidiaknfhclaaGreatDoor
namespace Go.Proofs.YtpaidiaknfhclaaGreatDoor
open Ev
open Go (IntKind)
end Go.Proofs.YtpaidiaknfhclaaGreatDoor
namespace Go.Proofs.YtpaidiaknfhclaaGreatDoor
open Ev
open Go (IntKind)
section
variable {γ:Type} {p:γ→Hold→Hold→Option Int} {g:γ} {lt:Hold→Hold→Bool}
end
end Go.Proofs.YtpaidiaknfhclaaGreatDoor
namespace Go.Proofs.YtpaidiaknfhclaaGreatDoor
open Ev
open Go (IntKind)
end Go.Proofs.YtpaidiaknfhclaaGreatDoor
namespace Go.Proofs.YtpaidiaknfhclaaGreatDoor
open Ev
open Go (IntKind)
end Go.Proofs.YtpaidiaknfhclaaGreatDoor
namespace Go.Proofs.YtpaidiaknfhclaaGreatDoor
open Ev
open Go (IntKind)
theorem zxm {c:Circ} (h:FitP c) {o:Hold} (ho:o∈c.Holds):rng 0 9 o.Rank=true∧o.ID≠0:=by
 have:=zxn h.holds ho
 unfold zbo at this
 have:=zc3 this (by decide)
 simp only[Bool.or_eq_false_iff,decide_eq_false_iff_not]at this
 obtain ⟨⟨hx,h1⟩,h2⟩:=this
 refine ⟨by rw[zjr];omega,?_⟩
 have:=hx.1.1.1.1.1.1.1.1.1.1
 omega
end Go.Proofs.YtpaidiaknfhclaaGreatDoor
namespace Go.Proofs.YtpaidiaknfhclaaGreatDoor
open Ev
open Go (IntKind)
end Go.Proofs.YtpaidiaknfhclaaGreatDoor
namespace Go.Proofs.YtpaidiaknfhclaaGreatDoor
open Ev
open Go (IntKind)
end Go.Proofs.YtpaidiaknfhclaaGreatDoor
namespace Go.Proofs.YtpaidiaknfhclaaGreatDoor
open Ev
open Go (IntKind)
end Go.Proofs.YtpaidiaknfhclaaGreatDoor
namespace Go.Proofs.YtpaidiaknfhclaaGreatDoor
open Ev
open Go (IntKind)
end Go.Proofs.YtpaidiaknfhclaaGreatDoor
namespace Go.Proofs.YtpaidiaknfhclaaGreatDoor
open Ev
open Go (IntKind)
end Go.Proofs.YtpaidiaknfhclaaGreatDoor
namespace Go.Proofs.YtpaidiaknfhclaaGreatDoor
open Ev
open Go (IntKind)
end Go.Proofs.YtpaidiaknfhclaaGreatDoor
namespace Go.Proofs.YtpaidiaknfhclaaGreatDoor
open Ev
open Go (IntKind)
end Go.Proofs.YtpaidiaknfhclaaGreatDoor
namespace Go.Proofs.YtpaidiaknfhclaaGreatDoor
open Ev
open Go (IntKind)
end Go.Proofs.YtpaidiaknfhclaaGreatDoor
namespace Go.Proofs.YtpaidiaknfhclaaGreatDoor
open Ev
open Go (IntKind)
end Go.Proofs.YtpaidiaknfhclaaGreatDoor
namespace Go.Proofs.YtpaidiaknfhclaaGreatDoor
open Ev
open Go (IntKind)
structure MidP (c:Circ):Prop where
 short:Short c
 moves:c.Moves.length<10000000
 holdsN:c.Holds.length<1000000
 sorted:∀(i:Nat) (x:Hold),c.Holds[i]?=some x→zb6 c.Holds i (fun y=>decide (x.ID≤y.ID))=false
 rank:∀o∈c.Holds,rng 0 9 o.Rank=true∧o.ID≠0
 few:∀r,(c.Holds.filter (fun o=>o.Record==r)).length<20
 cal:∀b,CalOk (calS c b)
 rules:∀r∈c.Rules,zl5 r=true
 branch:∀x∈c.Items,rng 1 4 x.Custody.Branch=true
 ids:∀(i:Nat) (x:Item) (j:Nat) (y:Item),c.Items[i]?=some x→c.Items[j]?=some y→x.ID=y.ID→i=j
 chN:c.Charges.length<1000000
theorem zant {c:Circ} (hm:SmallP c) (h:FitP c):MidP c:=by
 refine ⟨hm.short,by have:=hm.moves;omega,by have:=hm.holds;omega,zos h.holds,fun o ho=>zxm h ho,fun r=>?_,zaiq h,fun r hr=>zapl h hr,fun x hx=>zxi h hx,fun i x j y hx hy e=>?_,by have:=hm.charges;omega⟩
 ·have:=List.length_filter_le (fun o:Hold=>o.Record==r) c.Holds
  have:=hm.holds
  omega
 ·have hs:=zo1 h.items
  rcases Nat.lt_trichotomy i j with hl|hl|hl
  ·have:=zqs (key:=fun y:Item=>y.ID) hs j i x y hl hx hy;omega
  ·exact hl
  ·have:=zqs (key:=fun y:Item=>y.ID) hs i j y x hl hy hx;omega
end Go.Proofs.YtpaidiaknfhclaaGreatDoor
namespace Go.Proofs.YtpaidiaknfhclaaGreatDoor
open Go Ev
theorem zwh:qff=some true:=by kernel_rfl
theorem zaw9 (c:Circ):qfk c=some (zjz c&&zl4 c):=by
 unfold qfk
 rw[zayu]
 cases h:zjz c with
 |false=>rfl
 |true=>
  simp only[cond_true,zawk (zaic h).short]
  rfl
def usF (item:Int) (x:Move) (s:Int×Int):Int×Int:=
 bif x.Item==item then (bif x.Kind==3 then (wr .i64 (s.1+1),if s.2<x.Day then x.Day else s.2) else bif x.Kind==1||x.Kind==4 then (s.1,if s.2<x.Day then x.Day else s.2) else s) else s
def usC (c:Circ) (item:Int):Int×Int:=c.Moves.foldl (fun s x=>usF item x s) (0,-1)
theorem zawh {c:Circ} (hs:c.Moves.length<1000000000) (item:Int):qa4 c item=some (usC c item):=by
 have h:=zdq (step:=zlh) (fun i (s:Int×Int)=>(item,s.1,s.2,c.Moves,(c.Moves.length:Int),(i:Int),())) c.Moves (usF item) (fun s=>(s.1,s.2,())) hs
  (fun s=>by simp only[zlh,dge,cond_false])
  (fun i x s hx=>by
   have hi:=(List.getElem?_eq_some_iff.1 hx).1
   simp only[zlh,dlt hi,cond_true,zaq,hx,zas (show i<9223372036854775807 by omega),usF]
   cases x.Item==item<;>cases x.Kind==3<;>cases x.Kind==1<;>cases x.Kind==4<;>rfl)
  (0,-1)
 unfold qa4
 rw[show zah zlh (item,0,(-1),c.Moves,(c.Moves.length:Int),0,())=_ from h]
 rfl
theorem zagv {c:Circ} (hs:c.Moves.length<1000000000) (item:Int):qax c item=some (usC c item):=by
 have h:=zdq (step:=zlo) (fun i (s:Int×Int)=>(item,s.1,s.2,(i:Int),c,())) c.Moves (usF item) (fun s=>(s.1,s.2,())) hs
  (fun s=>by simp only[zlo,dge,cond_false])
  (fun i x s hx=>by
   have hi:=(List.getElem?_eq_some_iff.1 hx).1
   simp only[zlo,dlt hi,cond_true,zaq,hx,zas (show i<9223372036854775807 by omega),usF]
   have e:(bif decide (s.2<x.Day) then x.Day else s.2)=if s.2<x.Day then x.Day else s.2:=by by_cases h:s.2<x.Day<;>simp[h]
   rw[←e]
   cases x.Item==item<;>cases x.Kind==3<;>cases x.Kind==1<;>cases x.Kind==4<;>cases decide (s.2<x.Day)<;>rfl)
  (0,-1)
 unfold qax
 rw[show zah zlo (item,0,(-1),0,c,())=_ from h]
 rfl
def cpF (record:Int) (x:Item) (n:Int):Int:=bif x.Record==record&&!(x.Custody.State==12) then wr .i64 (n+1) else n
def cpC (c:Circ) (record:Int):Int:=c.Items.foldl (fun s x=>cpF record x s) 0
theorem zawm {c:Circ} (hs:c.Items.length<1000000000) (record:Int):qat c record=some (cpC c record):=by
 have h:=zdq (step:=zlm) (fun i (s:Int)=>(record,s,c.Items,(c.Items.length:Int),(i:Int),())) c.Items (cpF record) (fun s=>(s,())) hs
  (fun s=>by simp only[zlm,dge,cond_false])
  (fun i x s hx=>by
   have hi:=(List.getElem?_eq_some_iff.1 hx).1
   simp only[zlm,dlt hi,cond_true,zaq,hx,zas (show i<9223372036854775807 by omega),cpF]
   cases x.Record==record<;>cases x.Custody.State==12<;>rfl)
  0
 unfold qat
 rw[show zah zlm (record,0,c.Items,(c.Items.length:Int),0,())=_ from h]
 rfl
theorem zawq {c:Circ} (hs:c.Items.length<1000000000) (record:Int):qbj c record=some (cpC c record):=by
 have h:=zdq (step:=zlr) (fun i (s:Int)=>(record,s,(i:Int),c,())) c.Items (cpF record) (fun s=>(s,())) hs
  (fun s=>by simp only[zlr,dge,cond_false])
  (fun i x s hx=>by
   have hi:=(List.getElem?_eq_some_iff.1 hx).1
   simp only[zlr,dlt hi,cond_true,zaq,hx,zas (show i<9223372036854775807 by omega),cpF]
   cases x.Record==record<;>cases x.Custody.State==12<;>rfl)
  0
 unfold qbj
 rw[show zah zlr (record,0,0,c,())=_ from h]
 rfl
end Go.Proofs.YtpaidiaknfhclaaGreatDoor
namespace Go.Proofs.YtpaidiaknfhclaaGreatDoor
open Go Ev
theorem zsa {R:Int→Int→Prop} (ha:∀a b,R a b→R b a→a=b):∀{l m:List Int},l.Perm m→l.Pairwise R→m.Pairwise R→l=m:=by
 intro l
 induction l with
 |nil=>intro m hp _ _;exact (List.nil_perm.1 hp).symm
 |cons a l ih=>
  intro m hp hl hm
  cases m with
  |nil=>exact absurd hp.length_eq (by simp)
  |cons b m=>
   rw[List.pairwise_cons]at hl hm
   have hab:a=b:=by
    by_cases e:a=b
    ·exact e
    ·have h1:a∈m:=by
      have:=hp.mem_iff.1 (List.mem_cons_self (a:=a) (l:=l))
      rcases List.mem_cons.1 this with h|h
      ·exact absurd h e
      ·exact h
     have h2:b∈l:=by
      have:=hp.mem_iff.2 (List.mem_cons_self (a:=b) (l:=m))
      rcases List.mem_cons.1 this with h|h
      ·exact absurd h.symm e
      ·exact h
     exact ha a b (hl.1 b h2) (hm.1 a h1)
   subst hab
   rw[ih (List.perm_cons a |>.1 hp) hl.2 hm.2]
theorem zrx {X Y:Type} (p:X→Bool) (f:X→Y):∀(l:List X) (acc:List Y),l.foldl (fun s x=>bif p x then s++[f x] else s) acc=acc++(l.filter p).map f:=by
 intro l
 induction l with
 |nil=>intro acc;simp
 |cons x l ih=>
  intro acc
  rw[List.foldl_cons,ih]
  cases hp:p x<;>simp[hp]
theorem zac9 {l:List Int} (hl:l.length<1000000000):qak l l=some true:=by
 have h:=za2 (step:=zlk) (fun i=>(l,l,(i:Int),())) l (fun _ _=>true) (.inr (false,())) (.inl ()) hl
  (by simp only[zlk,dge,cond_false])
  (fun i x hx=>by
   have hi:=(List.getElem?_eq_some_iff.1 hx).1
   simp only[zlk,dlt hi,cond_true,zaq,hx,zas (show i<9223372036854775807 by omega),beq_self_eq_true,Bool.not_true,cond_false])
 unfold qak
 rw[show zah zlk (l,l,0,())=_ from h,zbj,show (l.all fun _=>true)=true by simp]
 simp only[beq_self_eq_true,Bool.not_true,cond_false,cond_true]
def zxk (c:Circ) (x:Item):Bool:=c.Holds.any fun h=>h.Record==x.Record||h.Item==x.ID
def okC (c:Circ) (days loans:Int) (x:Item):Bool:=x.Custody.State==3&&(decide ((usC c x.ID).1≤loans)&&(decide (days<wr .i64 (c.Today-(usC c x.ID).2))&&!zxk c x))
def mkC (c:Circ) (x:Item):Weed_candidate:=⟨x.ID,x.Record,(usC c x.ID).1,(usC c x.ID).2⟩
def zds (c:Circ) (days loans:Int):List Weed_candidate:=(c.Items.filter (okC c days loans)).map (mkC c)
structure WeedS (c:Circ):Prop where
 items:c.Items.length≤10
 holds:c.Holds.length≤12
 moves:c.Moves.length≤200
theorem zay9 {c:Circ} (h:SmallP c):WeedS c:=⟨h.items,h.holds,h.moves⟩
theorem zf5 {c:Circ} (h:WeedS c) (days loans:Int):(zds c days loans).length≤10:=by
 unfold zds
 rw[List.length_map]
 exact Nat.le_trans (List.length_filter_le _ _) h.items
theorem z8j {c:Circ} (h:WeedS c) (x:Item):qb0 (fun (g:Unit×Item×Unit) x0=>qck x0 g.2.1) c.Holds ((),(x,()))=some (zxk c x):=by
 have:=h.holds
 exact zape (fun h=>h.Record==x.Record||h.Item==x.ID) (by omega) (fun y _=>by
  simp only[qck]
  cases y.Record==x.Record<;>rfl)
theorem zays {c:Circ} (h:WeedS c) (days loans:Int):qi c days loans=some (pdqL cfC (zds c days loans)):=by
 have h1:=h.items
 have h2:=h.moves
 have hw:=zcf (step:=zyk) (fun i (l:List Weed_candidate)=>l.length≤i) (fun i l=>(days,loans,c.Items,(c.Items.length:Int),(i:Int),c,l,())) c.Items
  (fun _ x l=>.inl (bif okC c days loans x then l++[mkC c x] else l)) (fun l=>(l,())) (by show c.Items.length<18446744073709551616;omega)
  (fun l _=>by simp only[zyk,dge,cond_false])
  (fun i x l hx hl=>by
   have hi:=(List.getElem?_eq_some_iff.1 hx).1
   have hlim:decide (l.length+([mkC c x]:List Weed_candidate).length≤LIM)=true:=by rw[zfp];simp;omega
   refine ⟨?_,fun s' hs'=>?_⟩
   ·simp only[zyk,dlt hi,cond_true,zaq,hx,z8j h,zawh (show c.Moves.length<1000000000 by omega),zas (show i<9223372036854775807 by omega),okC]
    rw[show (⟨x.ID,x.Record,(usC c x.ID).1,(usC c x.ID).2⟩:Weed_candidate)=mkC c x from rfl,hlim]
    cases x.Custody.State==3<;>cases decide ((usC c x.ID).1≤loans)<;>cases decide (days<wr .i64 (c.Today-(usC c x.ID).2))<;>cases zxk c x<;>rfl
   ·cases hs'
    cases okC c days loans x<;>simp<;>omega)
  [] (by simp)
 unfold qi
 rw[show zah zyk (days,loans,c.Items,(c.Items.length:Int),0,c,([]:List Weed_candidate),())=_ from hw,zem,zrx]
 simp only[List.nil_append]
 have hl:=zf5 h days loans
 have e:qdg (fun (g:Unit×Unit) x0 x1=>qd8 x0 x1) (zds c days loans) ((),())=some (pdqL cfC (zds c days loans)):=by
  show (bif decide ((zds c days loans).length≤LIM) then some (pdqL cfC (zds c days loans)) else none)=_
  rw[zfp,decide_eq_true (by omega)]
  rfl
 rw[show (c.Items.filter (okC c days loans)).map (mkC c)=zds c days loans from rfl,e]
theorem zjb (L:List Weed_candidate):(pdqL cfC L).Perm L∧(pdqL cfC L).Pairwise (fun a b=>¬cfC b a<0):=by
 have h:=Go.Sort.pdq_sorts (Go.Proofs.ltOf cfC) zq6 L.toArray 0 L.toArray.size (Go.Lib.bitLen L.toArray.size) true true (Nat.zero_le _) (Nat.le_refl _) (Or.inl rfl)
 generalize hd:Go.Sort.pdq (Go.Proofs.ltOf cfC) L.toArray 0 L.toArray.size (Go.Lib.bitLen L.toArray.size) true true=d at h
 have hd':pdqL cfC L=d.toList:=by rw[←hd];rfl
 obtain ⟨⟨hs,-,hp⟩,hso⟩:=h
 rw[hd']
 constructor
 ·have e1:d.extract 0 L.toArray.size=d:=by rw[←hs];simp
  have e2:L.toArray.extract 0 L.toArray.size=L.toArray:=by simp
  rw[e1,e2]at hp
  exact hp
 ·rw[List.pairwise_iff_getElem]
  intro i j hi hj hij
  have hj':j<L.toArray.size:=by rw[←hs];simpa using hj
  have:=hso i j (Nat.zero_le _) hij hj'
  unfold Go.Proofs.ltOf at this
  rw[decide_eq_false_iff_not]at this
  have hi2:i<d.size:=by simpa using hi
  have hj2:j<d.size:=by simpa using hj
  rw[getElem!_pos d i hi2,getElem!_pos d j hj2]at this
  simpa using this
theorem zno (L:List Weed_candidate):(pdqL cfC L).length=L.length:=(zjb L).1.length_eq
end Go.Proofs.YtpaidiaknfhclaaGreatDoor
namespace Go.Proofs.YtpaidiaknfhclaaGreatDoor
open Go Ev
def ltB (c:Circ) (a b:Int):Bool:=
 bif !((usC c a).1==(usC c b).1) then decide ((usC c a).1<(usC c b).1) else bif !((usC c a).2==(usC c b).2) then decide ((usC c a).2<(usC c b).2) else decide (a<b)
theorem zi8 (c:Circ) (a b:Int):ltB c a b=true↔(usC c a).1<(usC c b).1∨((usC c a).1=(usC c b).1∧((usC c a).2<(usC c b).2∨((usC c a).2=(usC c b).2∧a<b))):=by
 unfold ltB
 by_cases h1:(usC c a).1=(usC c b).1
 ·by_cases h2:(usC c a).2=(usC c b).2
  ·simp[h1,h2]
  ·simp[h1,h2]
 ·simp[h1]
theorem z4i {c:Circ} {a b:Int} (h:ltB c a b=true):ltB c b a=false:=by
 rw[zi8]at h
 cases e:ltB c b a with
 |false=>rfl
 |true=>rw[zi8]at e;omega
theorem z4j {c:Circ} {x y z:Int} (h1:ltB c x y=true) (h2:ltB c y z=true):ltB c x z=true:=by
 rw[zi8]at *;omega
theorem zaoz {c:Circ} {a b:Int} (h1:ltB c a b=false) (h2:ltB c b a=false):a=b:=by
 have n1:¬ltB c a b=true:=by rw[h1];simp
 have n2:¬ltB c b a=true:=by rw[h2];simp
 rw[zi8]at n1 n2
 omega
theorem zaui (c:Circ) (x y:Item):cfC (mkC c x) (mkC c y)<0↔ltB c x.ID y.ID=true:=by rw[ztx,zi8];rfl
theorem zaw6 {c:Circ} (h:WeedS c) (a b:Int):qez c a b=some (ltB c a b):=by
 have:=h.moves
 unfold qez ltB
 simp only[zagv (show c.Moves.length<1000000000 by omega)]
 cases (usC c a).1==(usC c b).1<;>cases (usC c a).2==(usC c b).2<;>rfl
theorem zawi {c:Circ} (h:WeedS c) (x:Item) (days loans:Int):qa6 c x days loans=some (okC c days loans x):=by
 have h1:=h.moves
 have h2:=h.holds
 have hw:=za2 (step:=zli) (fun i=>(days,loans,(i:Int),c,x,())) c.Holds (fun _ h=>!(h.Record==x.Record||h.Item==x.ID)) (.inr (false,())) (.inl (days,loans,c,x,())) (by omega)
  (by simp only[zli,dge,cond_false])
  (fun i y hx=>by
   have hi:=(List.getElem?_eq_some_iff.1 hx).1
   simp only[zli,dlt hi,cond_true,zaq,hx,zas (show i<9223372036854775807 by omega)]
   cases y.Record==x.Record<;>cases y.Item==x.ID<;>rfl)
 have hq:c.Holds.all (fun h=>!(h.Record==x.Record||h.Item==x.ID))=!zxk c x:=by
  unfold zxk
  rw[List.not_any_eq_all_not]
 unfold qa6 okC
 rw[show zah zli (days,loans,0,c,x,())=_ from hw,zbj,hq]
 cases x.Custody.State==3<;>cases zxk c x<;>simp only[Bool.not_true,Bool.not_false,cond_true,cond_false,Bool.false_and,Bool.true_and,Bool.and_false,Bool.and_true,zagv (show c.Moves.length<1000000000 by omega)]
 cases decide ((usC c x.ID).1≤loans)<;>rfl
def insR (p:Int→Bool) (id:Int):List Int→List Int
 | []=>[id]
 |x::xs=>bif p x then id::x::xs else x::insR p id xs
theorem zgl (p:Int→Bool) (id:Int):∀l:List Int,(insR p id l).Perm (id::l):=by
 intro l
 induction l with
 |nil=>exact .refl _
 |cons x l ih=>
  unfold insR
  cases p x with
  |true=>exact .refl _
  |false=>exact (List.Perm.cons x ih).trans (List.Perm.swap id x l)
theorem zrz (c:Circ) (id:Int):∀l:List Int,l.Pairwise (fun a b=>ltB c b a=false)→(insR (ltB c id) id l).Pairwise (fun a b=>ltB c b a=false):=by
 intro l
 induction l with
 |nil=>intro _;simp[insR]
 |cons x l ih=>
  intro h
  unfold insR
  cases hp:ltB c id x with
  |true=>
   rw[cond_true,List.pairwise_cons]
   refine ⟨fun y hy=>?_,h⟩
   rcases List.mem_cons.1 hy with rfl|hy
   ·exact z4i hp
   ·have:=(List.pairwise_cons.1 h).1 y hy
    cases e:ltB c y id with
    |false=>rfl
    |true=>rw[z4j e hp]at this;cases this
  |false=>
   rw[List.pairwise_cons]at h
   rw[cond_false,List.pairwise_cons]
   refine ⟨fun y hy=>?_,ih h.2⟩
   rcases List.mem_cons.1 ((zgl _ _ l).mem_iff.1 hy) with rfl|hy
   ·exact hp
   ·exact h.1 y hy
theorem z2r (c:Circ):∀(l acc:List Int),acc.Pairwise (fun a b=>ltB c b a=false)→
 (l.foldl (fun s id=>insR (ltB c id) id s) acc).Pairwise (fun a b=>ltB c b a=false)∧(l.foldl (fun s id=>insR (ltB c id) id s) acc).Perm (l++acc):=by
 intro l
 induction l with
 |nil=>intro acc h;exact ⟨h,.refl _⟩
 |cons x l ih=>
  intro acc h
  rw[List.foldl_cons]
  obtain ⟨h1,h2⟩:=ih (insR (ltB c x) x acc) (zrz c x acc h)
  refine ⟨h1,h2.trans ?_⟩
  exact ((zgl _ _ _).append_left l).trans List.perm_middle
theorem zaa6 (p:Int→Bool) (id:Int):∀(l acc:List Int),
 (l.foldl (fun (s:Bool×List Int) x=>bif !s.1&&p x then (true,(s.2++[id])++[x]) else (s.1,s.2++[x])) (true,acc))=(true,acc++l)∧
 (bif !(l.foldl (fun (s:Bool×List Int) x=>bif !s.1&&p x then (true,(s.2++[id])++[x]) else (s.1,s.2++[x])) (false,acc)).1 then
  (l.foldl (fun (s:Bool×List Int) x=>bif !s.1&&p x then (true,(s.2++[id])++[x]) else (s.1,s.2++[x])) (false,acc)).2++[id]
  else (l.foldl (fun (s:Bool×List Int) x=>bif !s.1&&p x then (true,(s.2++[id])++[x]) else (s.1,s.2++[x])) (false,acc)).2)=acc++insR p id l:=by
 intro l
 induction l with
 |nil=>intro acc;exact ⟨by simp,rfl⟩
 |cons x l ih=>
  intro acc
  simp only[List.foldl_cons,Bool.not_true,Bool.false_and,cond_false,Bool.not_false,Bool.true_and]
  refine ⟨?_,?_⟩
  ·rw[(ih (acc++[x])).1];simp
  ·unfold insR
   cases hp:p x with
   |true=>simp only[cond_true];rw[(ih (acc++[id]++[x])).1];simp
   |false=>simp only[cond_false];rw[(ih (acc++[x])).2];simp
theorem zapk {c:Circ} (h:WeedS c) (days loans:Int) (i:Int) (vid:Int) {vout:List Int} (hv:vout.length≤100) :
 ∃d l,zah zl0 (days,loans,vout,i,vid,false,0,c,([]:List Int),())=some (days,loans,i,vid,d,c,l,())∧(bif !d then l++[vid] else l)=insR (ltB c vid) vid vout∧l.length≤vout.length+1:=by
 have hw:=zcf (step:=zl0) (fun k (s:Bool×List Int)=>(s.1=false→s.2.length≤k)∧s.2.length≤k+1) (fun k s=>(days,loans,vout,i,vid,s.1,(k:Int),c,s.2,())) vout
  (fun _ x s=>.inl (bif !s.1&&ltB c vid x then (true,(s.2++[vid])++[x]) else (s.1,s.2++[x]))) (fun s=>(days,loans,i,vid,s.1,c,s.2,())) (by show vout.length<18446744073709551616;omega)
  (fun s _=>by simp only[zl0,dge,cond_false])
  (fun k x s hx hs=>by
   have hk:=(List.getElem?_eq_some_iff.1 hx).1
   obtain ⟨d,l⟩:=s
   simp only at hs
   have l1:decide (l.length+([vid]:List Int).length≤LIM)=true:=by rw[zfp];simp;omega
   have l2:decide ((l++([vid]:List Int)).length+([x]:List Int).length≤LIM)=true:=by rw[zfp];simp;omega
   have l3:decide (l.length+([x]:List Int).length≤LIM)=true:=by rw[zfp];simp;omega
   refine ⟨?_,fun s' hs'=>?_⟩
   ·simp only[zl0,dlt hk,cond_true,zaq,hx,zaw6 h,zas (show k<9223372036854775807 by omega),l1,l2,l3]
    cases d<;>cases ltB c vid x<;>rfl
   ·cases hs'
    cases d with
    |true=>simp;omega
    |false=>
     have:=hs.1 rfl
     cases ltB c vid x<;>simp<;>omega)
  (false,[]) ⟨fun _=>by simp,by simp⟩
 rw[zem]at hw
 obtain ⟨q1,q2⟩:=zaa6 (ltB c vid) vid vout []
 refine ⟨_,_,hw,by simpa using q2,?_⟩
 have hl:=(zgl (ltB c vid) vid vout).length_eq
 rw[List.nil_append]at q2
 rw[←q2]at hl
 revert hl
 generalize vout.foldl _ _=s
 intro hl
 cases h1:s.1 with
 |true=>rw[h1]at hl;simp at hl;omega
 |false=>rw[h1]at hl;simp at hl;omega
def refC (c:Circ) (days loans:Int):List Int:=((c.Items.filter (okC c days loans)).map (·.ID)).foldl (fun s id=>insR (ltB c id) id s) []
theorem zaa5 (p:Int→Bool) (id:Int) (l:List Int):(insR p id l).length=l.length+1:=by rw[(zgl p id l).length_eq];rfl
theorem zayw {c:Circ} (h:WeedS c) (days loans:Int):qx c days loans=some (refC c days loans):=by
 have h1:=h.items
 have hw:=zcf (step:=zyq) (fun i (l:List Int)=>l.length≤i) (fun i l=>(days,loans,l,(i:Int),c,())) c.Items
  (fun _ x l=>.inl (bif okC c days loans x then insR (ltB c x.ID) x.ID l else l)) (fun l=>(l,())) (by show c.Items.length<18446744073709551616;omega)
  (fun l _=>by simp only[zyq,dge,cond_false])
  (fun i x l hx hl=>by
   have hi:=(List.getElem?_eq_some_iff.1 hx).1
   obtain ⟨d,m,e1,e2,e3⟩:=zapk h days loans (i:Int) x.ID (vout:=l) (by omega)
   have hlim:decide (m.length+([x.ID]:List Int).length≤LIM)=true:=by rw[zfp];simp;omega
   refine ⟨?_,fun s' hs'=>?_⟩
   ·simp only[zyq,dlt hi,cond_true,zaq,hx,zawi h,zas (show i<9223372036854775807 by omega),e1,hlim,←e2]
    cases okC c days loans x<;>cases d<;>rfl
   ·cases hs'
    cases okC c days loans x
    ·simp;omega
    ·simp[zaa5];omega)
  [] (by simp)
 unfold qx
 rw[show zah zyq (days,loans,([]:List Int),0,c,())=_ from hw,zem]
 have e:∀(l:List Item) (acc:List Int),l.foldl (fun s x=>bif okC c days loans x then insR (ltB c x.ID) x.ID s else s) acc=((l.filter (okC c days loans)).map (·.ID)).foldl (fun s id=>insR (ltB c id) id s) acc:=by
  intro l
  induction l with
  |nil=>intro acc;rfl
  |cons x l ih=>
   intro acc
   rw[List.foldl_cons,ih]
   cases hx:okC c days loans x<;>simp[hx]
 rw[e]
 rfl
theorem zw2 (c:Circ) (days loans:Int):(pdqL cfC (zds c days loans)).map (·.id_)=refC c days loans:=by
 obtain ⟨p1,p2⟩:=zjb (zds c days loans)
 obtain ⟨q1,q2⟩:=z2r c ((c.Items.filter (okC c days loans)).map (·.ID)) [] .nil
 refine zsa (R:=fun a b=>ltB c b a=false) (fun a b h1 h2=>zaoz h2 h1) ?_ ?_ q1
 ·refine (p1.map _).trans ?_
  rw[List.append_nil]at q2
  refine List.Perm.trans ?_ q2.symm
  unfold zds
  rw[List.map_map]
  exact .refl _
 ·rw[List.pairwise_map]
  refine List.Pairwise.imp_of_mem (fun {a b} ha hb hab=>?_) p2
  have ha:=p1.mem_iff.1 ha
  have hb:=p1.mem_iff.1 hb
  unfold zds at ha hb
  obtain ⟨x,-,rfl⟩:=List.mem_map.1 ha
  obtain ⟨y,-,rfl⟩:=List.mem_map.1 hb
  rw[zaui]at hab
  simpa[mkC]using hab
end Go.Proofs.YtpaidiaknfhclaaGreatDoor
namespace Go.Proofs.YtpaidiaknfhclaaGreatDoor
open Go Ev
theorem zaa2 (k n:Int) (e:MapI) (he:e.key=k):∀m:List MapI,getM MapI.key n (setM MapI.key k e m)=bif k==n then some e else getM MapI.key n m:=by
 intro m
 induction m with
 |nil=>
  unfold setM getM
  rw[he]
  cases k==n<;>rfl
 |cons x m ih=>
  unfold setM
  cases hx:x.key==k with
  |true=>
   rw[cond_true]
   unfold getM
   rw[he]
   have:x.key=k:=by simpa using hx
   rw[this]
   cases k==n<;>rfl
  |false=>
   rw[cond_false]
   unfold getM
   rw[ih]
   cases hn:x.key==n with
   |true=>
    have h1:x.key=n:=by simpa using hn
    have h2:(k==n)=false:=by
     rw[beq_eq_false_iff_ne]at hx ⊢
     intro q;exact hx (h1.trans q.symm)
    rw[h2];rfl
   |false=>cases k==n<;>rfl
def cnt (T:List Weed_candidate) (r:Int):Int:=((T.filter (fun t=>t.record==r)).length:Int)
theorem zaah (T:List Weed_candidate) (x:Weed_candidate) (r:Int):cnt (T++[x]) r=cnt T r+(bif x.record==r then 1 else 0):=by
 unfold cnt
 rw[List.filter_append,List.length_append]
 cases h:x.record==r<;>simp[h]
theorem zafc (T:List Weed_candidate) (r:Int):0≤cnt T r∧cnt T r≤T.length:=by
 unfold cnt
 have:=List.length_filter_le (fun t:Weed_candidate=>t.record==r) T
 omega
theorem zafi {c:Circ} (h:c.Items.length<1000000) (r:Int):0≤cpC c r∧cpC c r≤c.Items.length:=by
 unfold cpC
 have key:∀(l:List Item) (n:Int),0≤n→n+l.length<100000000→0≤l.foldl (fun s x=>cpF r x s) n∧l.foldl (fun s x=>cpF r x s) n≤n+l.length:=by
  intro l
  induction l with
  |nil=>intro n h1 h2;simp;omega
  |cons x l ih=>
   intro n h1 h2
   rw[List.foldl_cons]
   have hl:((x::l).length:Int)=l.length+1:=by simp
   have:cpF r x n=n∨cpF r x n=n+1:=by
    unfold cpF
    rw[zd3 (by omega) (by omega)]
    cases x.Record==r&&!(x.Custody.State==12)<;>simp
   rcases this with e|e
   ·rw[e];obtain ⟨q1,q2⟩:=ih n h1 (by omega);omega
   ·rw[e];obtain ⟨q1,q2⟩:=ih (n+1) (by omega) (by omega);omega
 have:=key c.Items 0 (by omega) (by omega)
 omega
def zet (c:Circ) (most:Int) (T:List Weed_candidate) (x:Weed_candidate):List Weed_candidate:=
 bif decide ((T.length:Int)<most)&&decide (1<cpC c x.record-cnt T x.record) then T++[x] else T
def zsc (c:Circ) (days loans most:Int):List Weed_candidate:=(pdqL cfC (zds c days loans)).foldl (zet c most) []
theorem zjd (c:Circ) (most:Int) (T:List Weed_candidate) (x:Weed_candidate):(zet c most T x).length≤T.length+1:=by
 unfold zet
 cases decide ((T.length:Int)<most)&&decide (1<cpC c x.record-cnt T x.record)<;>simp
theorem zawp {c:Circ} (h:WeedS c) (days loans most:Int):qbe c days loans most=some ((zsc c days loans most).map (·.id_)):=by
 have hi':=h.items
 have hl:=zf5 h days loans
 have hn:=zno (zds c days loans)
 unfold qbe zsc
 rw[zays h]
 simp only
 generalize pdqL cfC (zds c days loans)=v at hn
 have hw:=zcf (step:=zlq) (fun i (s:List Weed_candidate×List MapI)=>s.1.length≤i∧∀r,zr8 MapI.key MapI.val s.2 r=cnt s.1 r)
  (fun i s=>(most,v,(v.length:Int),(i:Int),c,s.1.map (·.id_),s.2,())) v
  (fun _ x s=>.inl (zet c most s.1 x,bif decide ((s.1.length:Int)<most)&&decide (1<cpC c x.record-cnt s.1 x.record) then setM MapI.key x.record (⟨x.record,cnt s.1 x.record+1⟩:MapI) s.2 else s.2)) (fun s=>(s.1.map (·.id_),())) (by show v.length<18446744073709551616;omega)
  (fun s _=>by simp only[zlq,dge,cond_false])
  (fun i x s hx hs=>by
   have hi:=(List.getElem?_eq_some_iff.1 hx).1
   obtain ⟨T,m⟩:=s
   obtain ⟨s1,s2⟩:=hs
   simp only at s1 s2
   have hlim:decide (T.length+([x.id_]:List Int).length≤LIM)=true:=by rw[zfp];simp;omega
   have hc:=zafc T x.record
   have hp:=zafi (c:=c) (by omega) x.record
   refine ⟨?_,fun s' hs'=>?_⟩
   ·simp only[zlq,dlt hi,cond_true,zaq,hx,zawm (show c.Items.length<1000000000 by omega),zas (show i<9223372036854775807 by omega),s2,hlim,List.length_map,
     zd3 (show -9223372036854775808≤cpC c x.record-cnt T x.record by omega) (by omega),zd3 (show -9223372036854775808≤cnt T x.record+1 by omega) (by omega),zet]
    cases decide ((T.length:Int)<most)<;>cases decide (1<cpC c x.record-cnt T x.record)<;>simp
   ·cases hs'
    simp only
    refine ⟨by have:=zjd c most T x;omega,fun r=>?_⟩
    unfold zet
    cases hb:decide ((T.length:Int)<most)&&decide (1<cpC c x.record-cnt T x.record) with
    |false=>rw[cond_false,cond_false];exact s2 r
    |true=>
     rw[cond_true,cond_true,zaah]
     unfold zr8
     rw[zaa2 x.record r ⟨x.record,cnt T x.record+1⟩ rfl]
     cases hr:x.record==r with
     |true=>
      have:x.record=r:=by simpa using hr
      subst this
      simp
     |false=>
      rw[cond_false,cond_false,Int.add_zero]
      exact s2 r)
  ([],[]) ⟨by simp,fun r=>rfl⟩
 rw[show zah zlq (most,v,(v.length:Int),0,c,([]:List Int),([]:List MapI),())=_ from hw,zem]
 have e:∀(l:List Weed_candidate) (s:List Weed_candidate×List MapI),(l.foldl (fun (s:List Weed_candidate×List MapI) x=>(zet c most s.1 x,bif decide ((s.1.length:Int)<most)&&decide (1<cpC c x.record-cnt s.1 x.record) then setM MapI.key x.record (⟨x.record,cnt s.1 x.record+1⟩:MapI) s.2 else s.2)) s).1=l.foldl (zet c most) s.1:=by
  intro l
  induction l with
  |nil=>intro s;rfl
  |cons x l ih=>intro s;rw[List.foldl_cons,List.foldl_cons,ih]
 rw[e]
theorem zso {c:Circ} (h:WeedS c) (m:MidP c) {y:Item} (hy:y∈c.Items):qba c y.ID=some y.Record:=by
 have hi':=h.items
 have hw:=zcc (step:=zlp) (fun i=>(y.ID,(i:Int),c,())) c.Items (fun x=>x.ID==y.ID) (fun _ x=>(.inr (x.Record,()):Unit⊕(Int×Unit))) (.inl ()) (by omega)
  (by simp only[zlp,dge,cond_false])
  (fun i x hx=>by
   have hi:=(List.getElem?_eq_some_iff.1 hx).1
   simp only[zlp,dlt hi,cond_true,zaq,hx,zas (show i<9223372036854775807 by omega)])
 unfold qba
 rw[show zah zlp (y.ID,0,c,())=_ from hw,zkx]
 cases hf:c.Items.find? (fun x=>x.ID==y.ID) with
 |none=>
  have:=List.find?_eq_none.1 hf y hy
  simp at this
 |some x=>
  have h1:=List.find?_some hf
  have h2:=List.mem_of_find?_eq_some hf
  obtain ⟨i,hi⟩:=List.mem_iff_getElem?.1 h2
  obtain ⟨j,hj⟩:=List.mem_iff_getElem?.1 hy
  have hij:=m.ids i x j y hi hj (by simpa using h1)
  rw[hij,hj]at hi
  cases hi
  rfl
theorem z0g (r:Int):∀(T:List Weed_candidate) (left:Int),left≤1000000→-1000000+T.length≤left→T.foldl (fun s t=>bif t.record==r then wr .i64 (s-1) else s) left=left-cnt T r:=by
 intro T
 induction T with
 |nil=>intro left _ _;simp[cnt]
 |cons t T ih=>
  intro left h1 h2
  rw[List.foldl_cons]
  have hl:((t::T).length:Int)=T.length+1:=by simp
  have hc:cnt (t::T) r=(bif t.record==r then 1 else 0)+cnt T r:=by
   unfold cnt
   cases h:t.record==r<;>simp[h]
   omega
  rw[hc]
  cases h:t.record==r with
  |true=>
   rw[cond_true,cond_true,zd3 (by omega) (by omega),ih (left-1) (by omega) (by omega)]
   omega
  |false=>
   rw[cond_false,cond_false,ih left h1 (by omega)]
   omega
theorem zada {c:Circ} (most:Int) (l:List Int) (i record left:Int) {T:List Weed_candidate} (hT:T.length≤1000) (hr:∀t∈T,qba c t.id_=some t.record) (h1:0≤left) (h2:left≤1000) :
 zah zjf (most,l,i,record,left,0,c,T.map (·.id_),())=some (most,l,i,left-cnt T record,c,T.map (·.id_),()):=by
 have hw:=zdq (step:=zjf) (fun k (s:Int)=>(most,l,i,record,s,(k:Int),c,T.map (·.id_),())) T (fun t s=>bif t.record==record then wr .i64 (s-1) else s) (fun s=>(most,l,i,s,c,T.map (·.id_),())) (by omega)
  (fun s=>by
   have:decide (((T.length:Nat):Int)<((T.map (·.id_)).length:Int))=false:=by simp
   simp only[zjf,this,cond_false])
  (fun k t s hx=>by
   have hk:=(List.getElem?_eq_some_iff.1 hx).1
   have e1:(T.map (·.id_))[k]?=some t.id_:=by rw[List.getElem?_map,hx];rfl
   have e2:decide ((k:Int)<((T.map (·.id_)).length:Int))=true:=by simpa using hk
   simp only[zjf,e2,cond_true,zaq,e1,Int.toNat_natCast,hr t (List.mem_of_getElem? hx),zas (show k<9223372036854775807 by omega)]
   cases t.record==record<;>rfl)
  left
 rw[show zah zjf (most,l,i,record,left,0,c,T.map (·.id_),())=_ from hw,z0g record T left (by omega) (by omega)]
theorem zyd (c:Circ) (most:Int):∀(l T:List Weed_candidate),¬((T.length:Int)<most)→l.foldl (zet c most) T=T:=by
 intro l
 induction l with
 |nil=>intro T _;rfl
 |cons x l ih=>
  intro T h
  rw[List.foldl_cons]
  have:zet c most T x=T:=by unfold zet;rw[decide_eq_false h];rfl
  rw[this];exact ih T h
theorem zyv (c:Circ) (most:Int) {β:Type} (fin:List Weed_candidate→β):∀(l:List Weed_candidate) (i:Nat) (T:List Weed_candidate),
 zez (fun _ x T=>if (T.length:Int)<most then .inl (zet c most T x) else .inr (fin T)) fin i l T=fin (l.foldl (zet c most) T):=by
 intro l
 induction l with
 |nil=>intro i T;rfl
 |cons x l ih=>
  intro i T
  unfold zez
  by_cases h:(T.length:Int)<most
  ·rw[if_pos h];simp only;rw[ih];rfl
  ·rw[if_neg h];simp only;rw[zyd c most _ T h]
theorem z4s (c:Circ) (most:Int) (T:List Weed_candidate) (x t:Weed_candidate) (h:t∈zet c most T x):t∈T∨t=x:=by
 unfold zet at h
 cases hb:decide ((T.length:Int)<most)&&decide (1<cpC c x.record-cnt T x.record) with
 |false=>rw[hb]at h;exact .inl h
 |true=>rw[hb]at h;simpa using h
theorem zawj {c:Circ} (h:WeedS c) (m:MidP c) (days loans most:Int):qab c days loans most=some ((zsc c days loans most).map (·.id_)):=by
 have hi':=h.items
 have hl:=zf5 h days loans
 have hn:=zno (zds c days loans)
 have hrec:∀x∈pdqL cfC (zds c days loans),qba c x.id_=some x.record:=by
  intro x hx
  have hx:=(zjb (zds c days loans)).1.mem_iff.1 hx
  unfold zds at hx
  obtain ⟨y,hy,rfl⟩:=List.mem_map.1 hx
  exact zso h m (List.mem_filter.1 hy).1
 unfold qab zsc
 rw[zayw h,←zw2]
 simp only
 generalize pdqL cfC (zds c days loans)=v at hn hrec
 have hw:=zcf (step:=zlj) (fun i (T:List Weed_candidate)=>T.length≤i∧∀t∈T,t∈v)
  (fun i T=>(most,v.map (·.id_),(i:Int),c,T.map (·.id_),())) v
  (fun _ x T=>if (T.length:Int)<most then .inl (zet c most T x) else .inr (T.map (·.id_),())) (fun T=>(T.map (·.id_),())) (by show v.length<18446744073709551616;omega)
  (fun T _=>by
   have:decide (((v.length:Nat):Int)<((v.map (·.id_)).length:Int))=false:=by simp
   simp only[zlj,this,cond_false])
  (fun i x T hx hs=>by
   have hi:=(List.getElem?_eq_some_iff.1 hx).1
   obtain ⟨s1,s2⟩:=hs
   have e1:(v.map (·.id_))[i]?=some x.id_:=by rw[List.getElem?_map,hx];rfl
   have e2:decide ((i:Int)<((v.map (·.id_)).length:Int))=true:=by simpa using hi
   have hlim:decide ((T.map (·.id_)).length+([x.id_]:List Int).length≤LIM)=true:=by rw[zfp];simp;omega
   have hp:=zafi (c:=c) (by omega) x.record
   have hc:=zafc T x.record
   have hleft:=zada (c:=c) most (v.map (·.id_)) (i:Int) x.record (cpC c x.record) (T:=T) (by omega) (fun t ht=>hrec t (s2 t ht)) (by omega) (by omega)
   have hd:decide (2≤cpC c x.record-cnt T x.record)=decide (1<cpC c x.record-cnt T x.record):=by
    by_cases q:1<cpC c x.record-cnt T x.record
    ·rw[decide_eq_true q,decide_eq_true (by omega)]
    ·rw[decide_eq_false q,decide_eq_false (by omega)]
   have hlen:decide (((T.map (·.id_)).length:Int)<most)=decide ((T.length:Int)<most):=by rw[List.length_map]
   refine ⟨?_,fun s' hs'=>?_⟩
   ·simp only[zlj,e2,cond_true,zaq,e1,hrec x (List.mem_of_getElem? hx),zawq (show c.Items.length<1000000000 by omega),hleft,hd,hlim,hlen,zas (show i<9223372036854775807 by omega)]
    by_cases q:(T.length:Int)<most
    ·rw[if_pos q,decide_eq_true q,cond_true]
     unfold zet
     rw[decide_eq_true q,Bool.true_and]
     cases decide (1<cpC c x.record-cnt T x.record)<;>simp
    ·rw[if_neg q,decide_eq_false q,cond_false]
   ·by_cases q:(T.length:Int)<most
    ·rw[if_pos q]at hs'
     cases hs'
     refine ⟨by have:=zjd c most T x;omega,fun t ht=>?_⟩
     rcases z4s c most T x t ht with h1|rfl
     ·exact s2 t h1
     ·exact List.mem_of_getElem? hx
    ·rw[if_neg q]at hs';cases hs')
  [] ⟨by simp,by simp⟩
 rw[show zah zlj (most,v.map (·.id_),0,c,([]:List Int),())=_ from hw,zyv c most (fun T=>(T.map (·.id_),()))]
theorem z4t {c:Circ} (h:WeedS c) (days loans most:Int):(zsc c days loans most).length≤10:=by
 have hl:=zf5 h days loans
 have hn:=zno (zds c days loans)
 unfold zsc
 generalize pdqL cfC (zds c days loans)=v at hn
 have key:∀(l T:List Weed_candidate),(l.foldl (zet c most) T).length≤T.length+l.length:=by
  intro l
  induction l with
  |nil=>intro T;simp
  |cons x l ih=>
   intro T
   rw[List.foldl_cons]
   have:=ih (zet c most T x)
   have:=zjd c most T x
   simp only[List.length_cons]
   omega
 have:=key v []
 simp at this
 omega
theorem zke (c:Circ) (days loans most:Int):qdi c days loans most=some true:=by
 unfold qdi
 simp only[zaw9,zwh]
 cases hb:zjz c&&zl4 c with
 |false=>rfl
 |true=>
  simp only[Bool.and_eq_true]at hb
  have hm:=zaic hb.1
  have h:=zay9 hm
  have m:=zant hm (fitP hb.2)
  have hl:=z4t h days loans most
  have hl2:((zsc c days loans most).map (·.id_)).length<1000000000:=by rw[List.length_map];omega
  simp only[zawp h,zawj h m,zac9 hl2]
  rfl
end Go.Proofs.YtpaidiaknfhclaaGreatDoor
