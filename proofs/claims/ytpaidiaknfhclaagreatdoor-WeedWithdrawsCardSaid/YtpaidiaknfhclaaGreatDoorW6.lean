/- WeedWithdraws: a part of the proof of the given statement, which is proved without conditions. -/
import Derived.Test.YtpaidiaknfhclaaGreatDoorW5
import Derived.KernelRfl
set_option linter.all false
namespace Go.Proofs.YtpaidiaknfhclaaGreatDoor
open Ev
open Go (IntKind)
def zar5 (state:Int):Bool:=(state==4||state==5||state==8||state==9||state==10)
theorem zkm (state:Int):qff state=some (zar5 state):=by
 unfold qff
 try simp -zeta only[k_or,zbk,zjg,zcs,cond_true,cond_false]
 try dsimp only
 try simp only[zcs]
 try rfl
def zkl (c:Custody):Bool:=(bif decide (c.State<1)||decide (12<c.State)||decide (c.Branch<1)||decide (4<c.Branch) then false
 else
  bif c.State==6 then
   decide (0≤c.Who)&&decide (c.Who≤9999)&&decide (1≤c.To)&&decide (c.To≤4)&&!c.To==c.Branch
  else
   bif !c.To==0 then false
   else bif zar5 c.State then decide (1≤c.Who)&&decide (c.Who≤9999) else c.Who==0)
theorem zkk (c:Custody):qdr c=some (zkl c):=by
 unfold qdr
 try simp -zeta only[k_or,zbk,zjg,zcs,cond_true,cond_false,zkm]
 try dsimp only
 try simp only[zcs]
 try rfl
def zoo (m:Move):Bool:=(decide (0≤m.Day)&&decide (m.Day≤109572)&&decide (1≤m.Item)&&decide (m.Item≤9999)&&
 decide (1≤m.Kind)&&
 decide (m.Kind≤15)&&
 decide (1≤m.Branch)&&
 decide (m.Branch≤4)&&
 decide (0≤m.Who)&&
 decide (m.Who≤9999))
theorem zmr (m:Move):qeo m=some (zoo m):=by
 unfold qeo
 try simp -zeta only[k_or,zbk,zjg,zcs,cond_true,cond_false,zkm,zkk]
 try dsimp only
 try simp only[zcs]
 try rfl
def z65 (kind:Int):(List Int):=(bif kind==1 then [1]
 else
  bif kind==2 then [2,5]
  else
   bif kind==3 then [3,5]
   else
    bif kind==4 then [4,8,9,10]
    else
     bif kind==5||kind==8 then [2,3]
     else
      bif kind==6 then [2,3,5]
      else
       bif kind==7 then [6]
       else
        bif kind==9 then [7]
        else
         bif kind==10 then [3]
         else
          bif kind==11 then [4]
          else
           bif kind==12 then [4,9]
           else
            bif kind==13 then [2,3,5,6,7]
            else bif kind==14 then [11] else bif kind==15 then [1,2,3,11,10] else [])
theorem zrt (kind:Int):qcx kind=some (z65 kind):=by
 unfold qcx
 try simp -zeta only[k_or,zbk,zjg,zcs,cond_true,cond_false,zkm,zkk,zmr]
 try dsimp only
 try simp only[zcs]
 try rfl
def zec (kind:Int):Int:=(bif kind==1||(kind==4||(kind==7||(kind==9||kind==14))) then 2
 else
  bif kind==2 then 3
  else
   bif kind==3 then 4
   else
    bif kind==5 then 5
    else
     bif kind==6 then 6
     else
      bif kind==8 then 7
      else
       bif kind==10 then 8
       else bif kind==11 then 9 else bif kind==12 then 10 else bif kind==13 then 11 else 12)
theorem zxv (kind:Int):qfk kind=some (zec kind):=by
 unfold qfk
 try simp -zeta only[k_or,zbk,zjg,zcs,cond_true,cond_false,zkm,zkk,zmr,zrt]
 try dsimp only
 try simp only[zcs]
 try rfl
def zafd (c:Custody) (m:Move):Bool:=(bif m.Kind==1||(m.Kind==4||(m.Kind==9||m.Kind==14)) then m.Who==0
 else
  bif m.Kind==7 then m.Who==0&&m.Branch==c.To
  else
   bif m.Kind==6 then !m.Branch==c.Branch
   else
    bif m.Kind==3||(m.Kind==5||m.Kind==10) then m.Branch==c.Branch&&decide (1≤m.Who)
    else m.Branch==c.Branch&&m.Who==0)
theorem z67 (c:Custody) (m:Move):qde c m=some (zafd c m):=by
 unfold qde
 try simp -zeta only[k_or,zbk,zjg,zcs,cond_true,cond_false,zkm,zkk,zmr,zrt,zxv]
 try dsimp only
 try simp only[zcs]
 try rfl
def ztx (branch:Int):Custody:={State:=1,Branch:=branch,Who:=0,To:=0}
theorem zajl (branch:Int):qdq branch=some (ztx branch):=by
 unfold qdq
 try simp -zeta only[k_or,zbk,zjg,zcs,cond_true,cond_false,zkm,zkk,zmr,zrt,zxv,z67]
 try dsimp only
 try simp only[zcs]
 try rfl
def zon (u:Custody):Bool:=(u.State==4||u.State==9||u.State==10)
theorem zajn (u:Custody):qej u=some (zon u):=by
 unfold qej
 try simp -zeta only[k_or,zbk,zjg,zcs,cond_true,cond_false,zkm,zkk,zmr,zrt,zxv,z67,zajl]
 try dsimp only
 try simp only[zcs]
 try rfl
end Go.Proofs.YtpaidiaknfhclaaGreatDoor
namespace Go.Proofs.YtpaidiaknfhclaaGreatDoor
open Ev
open Go (IntKind)
theorem hasX {X:Type} {p:X→Bool}:∀{l:List X} {i:Nat},zeo p (fun _ _=>true) false i l=l.any p:=by
 intro l
 induction l with
 |nil=>intros;rfl
 |cons x l ih=>intro i;simp only[zeo,List.any_cons];cases p x with|true=>rfl|false=>rw[cond_false,ih,Bool.false_or]
def zlq (state kind:Int):Bool:=(z65 kind).any (fun x=>x==state)
theorem zack {X:Type} {b:Bool} {x y:List X} {n:Nat} (hx:x.length<n) (hy:y.length<n):(bif b then x else y).length<n:=by cases b<;>assumption
theorem z0r (kind:Int):(z65 kind).length<10:=by
 unfold z65
 repeat' first|apply zack|decide
theorem zazc (state kind:Int):qan state kind=some (zlq state kind):=by
 unfold qan zlq
 rw[zrt]
 have hl:=z0r kind
 generalize z65 kind=l at hl ⊢
 have h:=zbl (step:=zmm) (fun i=>(state,l,(i:Int),())) l (fun x=>x==state) (fun _ _=>(.inr (true,()):Unit⊕(Bool×Unit))) (.inl ()) (by omega)
  (by simp only[zmm,dge,cond_false])
  (fun i x hx=>by
   have hi:=(List.getElem?_eq_some_iff.1 hx).1
   simp only[zmm,dlt hi,zak,hx,cond_true,zar (show i<9223372036854775807 by omega)])
 dsimp only
 rw[show zae zmm (state,l,0,())=_ from h,←hasX (i:=0)]
 have key:∀(l:List Int) (i:Nat),(match some (zeo (fun x=>x==state) (fun _ _=>(.inr (true,()):Unit⊕(Bool×Unit))) (.inl ()) i l) with|some (.inl _)=>some false|some (.inr (v,_))=>some v|none=>none)=some (zeo (fun x=>x==state) (fun _ _=>true) false i l):=by
  intro l
  induction l with
  |nil=>intro i;rfl
  |cons x l ih=>intro i;simp only[zeo];cases x==state with|true=>rfl|false=>exact ih _
 exact key l 0
def za5 (c:Custody) (m:Move):Custody×Int:=
 bif !(zkl c)||!(zoo m) then (⟨0,0,0,0⟩,1)
 else bif !(zlq c.State m.Kind) then (⟨0,0,0,0⟩,12)
 else bif m.Kind==3&&c.State==5&&!(m.Who==c.Who) then (⟨0,0,0,0⟩,16)
 else bif !(zafd c m) then (⟨0,0,0,0⟩,1)
 else bif zec m.Kind==2 then (⟨zec m.Kind,m.Branch,0,0⟩,0)
 else bif zec m.Kind==4||(zec m.Kind==5||zec m.Kind==8) then (⟨zec m.Kind,c.Branch,m.Who,0⟩,0)
 else bif zec m.Kind==6 then (⟨zec m.Kind,c.Branch,m.Who,m.Branch⟩,0)
 else bif zec m.Kind==9||zec m.Kind==10 then (⟨zec m.Kind,c.Branch,c.Who,0⟩,0)
 else (⟨zec m.Kind,c.Branch,0,0⟩,0)
theorem zajh (c:Custody) (m:Move):qcb c m=some (za5 c m):=by
 unfold qcb za5
 simp -zeta only[k_or,zbk,zjg,zkk,zmr,zazc,z67,zxv]
 dsimp only
 simp only[zcs]
def zc0:Nat→List Move→Int→Custody→(Custody⊕(Int×Int))
 |_,[],_,c=>.inl c
 |i,x::l,item,c=>bif x.Item==item then (bif (za5 c x).2==0 then zc0 (i+1) l item (za5 c x).1 else .inr ((i:Int),(za5 c x).2)) else zc0 (i+1) l item c
def zdv (branch:Int) (l:List Move) (item:Int):Custody×Int×Int:=
 bif decide (branch<1)||decide (4<branch) then (⟨0,0,0,0⟩,-1,1)
 else match zc0 0 l item (ztx branch) with
  |.inl c=>(c,-1,0)
  |.inr (i,e)=>(⟨0,0,0,0⟩,i,e)
theorem zud {β:Type} (item:Int) (fin:Custody→β) (out:Int×Int→β):∀(l:List Move) (i:Nat) (c:Custody),
 ze4 (fun i x c=>bif x.Item==item then (bif (za5 c x).2==0 then .inl (za5 c x).1 else .inr (out ((i:Int),(za5 c x).2))) else .inl c) fin i l c=(match zc0 i l item c with | .inl c=>fin c | .inr p=>out p):=by
 intro l
 induction l with
 |nil=>intros;rfl
 |cons x l ih=>
  intro i c
  simp only[ze4,zc0]
  cases x.Item==item with
  |false=>exact ih _ _
  |true=>
   simp only[cond_true]
   cases (za5 c x).2==0 with
   |true=>exact ih _ _
   |false=>rfl
theorem zazd {branch:Int} {l:List Move} {item:Int} (hl:l.length<1000000000):qao branch l item=some (zdv branch l item):=by
 unfold qao zdv
 simp -zeta only[k_or,zajl]
 dsimp only
 have h:=zdx (step:=zmn) (fun i c=>(l,item,(i:Int),(⟨0,0,0,0⟩:Custody),c,())) l
  (fun i x c=>bif x.Item==item then (bif (za5 c x).2==0 then .inl (za5 c x).1 else .inr (.inr ((i:Int),(za5 c x).2,(⟨0,0,0,0⟩:Custody),()))) else .inl c)
  (fun c=>.inl (⟨0,0,0,0⟩,c,())) (by show l.length<18446744073709551616;omega) (fun c=>by simp only[zmn,dge,cond_false])
  (fun i x c hx=>by
   have hi:=(List.getElem?_eq_some_iff.1 hx).1
   simp only[zmn,dlt hi,zak,hx,cond_true,zajh,zar (show i<9223372036854775807 by omega)]
   cases x.Item==item with
   |false=>rfl
   |true=>
    simp only[Bool.not_true,cond_false,cond_true]
    obtain ⟨d,e⟩:=za5 c x
    cases he:e==0 with
    |true=>rfl
    |false=>rfl) (ztx branch)
 rw[zud item (fun c=>(.inl (⟨0,0,0,0⟩,c,()):(Custody×Custody×Unit)⊕(Int×Int×Custody×Unit))) (fun p=>.inr (p.1,p.2,(⟨0,0,0,0⟩:Custody),()))]at h
 rw[show zae zmn (l,item,0,(⟨0,0,0,0⟩:Custody),ztx branch,())=_ from h]
 cases (decide (branch<1)||decide (4<branch)) with
 |true=>rfl
 |false=>
  simp only[cond_false]
  cases zc0 0 l item (ztx branch) with
  |inl c=>rfl
  |inr p=>rfl
end Go.Proofs.YtpaidiaknfhclaaGreatDoor
namespace Go.Proofs.YtpaidiaknfhclaaGreatDoor
open Ev
open Go (IntKind)
theorem zb6 {X:Type} (p:X→Bool) (l:List X):(fIdx p l = -1∧l.find? p=none)∨∃(i:Nat) (x:X),fIdx p l=(i:Int)∧l[i]?=some x∧p x=true∧l.find? p=some x:=by
 unfold fIdx
 induction l with
 |nil=>exact .inl ⟨rfl,rfl⟩
 |cons y l ih=>
  simp only[List.findIdx?_cons,List.find?_cons]
  cases hp:p y with
  |true=>exact .inr ⟨0,y,rfl,rfl,hp,rfl⟩
  |false=>
   simp only[Bool.false_eq_true,if_false]
   rcases ih with ⟨h1,h2⟩|⟨i,x,h1,h2,h3,h4⟩
   ·left
    refine ⟨?_,h2⟩
    cases hf:l.findIdx? p with
    |none=>rfl
    |some k=>rw[hf]at h1;simp only at h1;omega
   ·right
    refine ⟨i+1,x,?_,by simpa using h2,h3,h4⟩
    cases hf:l.findIdx? p with
    |none=>rw[hf]at h1;simp only at h1;omega
    |some k=>rw[hf]at h1;simp only[Option.map_some]at h1 ⊢;omega
theorem zps:decide ((-1:Int)<0)=true:=rfl
theorem zlc {i:Nat}:decide ((i:Int)<0)=false:=by rw[decide_eq_false_iff_not];omega
def getP (l:List Patron) (id:Int):Patron×Bool:=match l.find? (fun p=>p.ID==id) with|some p=>(p,true)|none=>(⟨0,0,0,0,false,[]⟩,false)
def zf4 (l:List Loan) (item:Int):Loan×Bool:=match l.find? (fun n=>n.Item==item) with|some n=>(n,true)|none=>(⟨0,0,0,0,0,false⟩,false)
def z6t:Hold:=⟨0,0,0,0,0,0,0,0,0,0,0⟩
def zg8 (c:Circ) (item:Int):Hold×Bool:=match c.Holds.find? (fun h=>h.Got==item) with|some h=>(h,true)|none=>(z6t,false)
theorem zafe {c:Circ} {item:Int} (hl:c.Items.length<1000000000):qp c item=some (fIdx (fun x=>x.ID==item) c.Items):=by
 unfold qp
 have h:=zbl (step:=z0g) (fun i=>(item,(i:Int),c,())) c.Items (fun x=>x.ID==item) (fun i _=>(.inr ((i:Int),()):Unit⊕(Int×Unit))) (.inl ()) hl
  (by simp only[z0g,dge,cond_false])
  (fun i x hx=>by
   have hi:=(List.getElem?_eq_some_iff.1 hx).1
   simp only[z0g,dlt hi,zak,hx,cond_true,zar (show i<9223372036854775807 by omega)])
 rw[show zae z0g (item,0,c,())=_ from h,←zdm]
 have:=zcm (p:=fun x:Item=>x.ID==item) (g:=fun i _=>(.inr ((i:Int),()):Unit⊕(Int×Unit))) (d:=.inl ()) (fun z=>match (some z:Option (Unit⊕(Int×Unit))) with|some (.inl _)=>some (-1)|some (.inr (v,_))=>some v|none=>none) (l:=c.Items) (i:=0)
 exact this.trans ((zcm (p:=fun x:Item=>x.ID==item) (g:=fun i _=>(i:Int)) (d:=-1) (fun z=>some z) (l:=c.Items) (i:=0)).symm)
theorem zop {c:Circ} {item:Int} (hl:c.Items.length<1000000000):(qp c item=some (-1)∧c.Items.find? (fun x=>x.ID==item)=none)∨
 ∃(i:Nat) (x:Item),qp c item=some (i:Int)∧c.Items[i]?=some x∧x.ID=item∧c.Items.find? (fun x=>x.ID==item)=some x:=by
 rw[zafe hl]
 rcases zb6 (fun x:Item=>x.ID==item) c.Items with ⟨h1,h2⟩|⟨i,x,h1,h2,h3,h4⟩
 ·exact .inl ⟨by rw[h1],h2⟩
 ·exact .inr ⟨i,x,by rw[h1],h2,by simpa using h3,h4⟩
theorem zazh {l:List Patron} {id:Int} (hl:l.length<1000000000):qau l id=some (fIdx (fun x=>x.ID==id) l):=by
 unfold qau
 have h:=zbl (step:=zmp) (fun i=>(l,id,(i:Int),())) l (fun x=>x.ID==id) (fun i _=>(.inr ((i:Int),()):Unit⊕(Int×Unit))) (.inl ()) hl
  (by simp only[zmp,dge,cond_false])
  (fun i x hx=>by
   have hi:=(List.getElem?_eq_some_iff.1 hx).1
   simp only[zmp,dlt hi,zak,hx,cond_true,zar (show i<9223372036854775807 by omega)])
 rw[show zae zmp (l,id,0,())=_ from h,←zdm]
 have:=zcm (p:=fun x:Patron=>x.ID==id) (g:=fun i _=>(.inr ((i:Int),()):Unit⊕(Int×Unit))) (d:=.inl ()) (fun z=>match (some z:Option (Unit⊕(Int×Unit))) with|some (.inl _)=>some (-1)|some (.inr (v,_))=>some v|none=>none) (l:=l) (i:=0)
 exact this.trans ((zcm (p:=fun x:Patron=>x.ID==id) (g:=fun i _=>(i:Int)) (d:=-1) (fun z=>some z) (l:=l) (i:=0)).symm)
theorem zrs {l:List Patron} {id:Int} (hl:l.length<1000000000):qca l id=some (getP l id):=by
 unfold qca getP
 rw[zazh hl]
 rcases zb6 (fun x:Patron=>x.ID==id) l with ⟨h1,h2⟩|⟨i,x,h1,h2,h3,h4⟩
 ·simp only[h1,h2,zps,cond_true]
 ·simp only[h1,h4,zlc,cond_false,zak,h2]
theorem zait {l:List Loan} {id:Int} (hl:l.length<1000000000):qah l id=some (fIdx (fun x=>x.Item==id) l):=by
 unfold qah
 have h:=zbl (step:=zmj) (fun i=>(l,id,(i:Int),())) l (fun x=>x.Item==id) (fun i _=>(.inr ((i:Int),()):Unit⊕(Int×Unit))) (.inl ()) hl
  (by simp only[zmj,dge,cond_false])
  (fun i x hx=>by
   have hi:=(List.getElem?_eq_some_iff.1 hx).1
   simp only[zmj,dlt hi,zak,hx,cond_true,zar (show i<9223372036854775807 by omega)])
 rw[show zae zmj (l,id,0,())=_ from h,←zdm]
 have:=zcm (p:=fun x:Loan=>x.Item==id) (g:=fun i _=>(.inr ((i:Int),()):Unit⊕(Int×Unit))) (d:=.inl ()) (fun z=>match (some z:Option (Unit⊕(Int×Unit))) with|some (.inl _)=>some (-1)|some (.inr (v,_))=>some v|none=>none) (l:=l) (i:=0)
 exact this.trans ((zcm (p:=fun x:Loan=>x.Item==id) (g:=fun i _=>(i:Int)) (d:=-1) (fun z=>some z) (l:=l) (i:=0)).symm)
theorem zazo {l:List Loan} {id:Int} (hl:l.length<1000000000):qds l id=some (zf4 l id):=by
 unfold qds zf4
 rw[zait hl]
 rcases zb6 (fun x:Loan=>x.Item==id) l with ⟨h1,h2⟩|⟨i,x,h1,h2,h3,h4⟩
 ·simp only[h1,h2,zps,cond_true]
 ·simp only[h1,h4,zlc,cond_false,zak,h2]
theorem zazg {c:Circ} {item:Int} (hl:c.Holds.length<1000000000):qat c item=some (zg8 c item):=by
 unfold qat zg8
 have h:=zbl (step:=zmo) (fun i=>(item,(i:Int),c,z6t,())) c.Holds (fun x=>x.Got==item) (fun _ x=>(.inr (true,x,()):(Hold×Unit)⊕(Bool×Hold×Unit))) (.inl (z6t,())) hl
  (by simp only[zmo,dge,cond_false])
  (fun i x hx=>by
   have hi:=(List.getElem?_eq_some_iff.1 hx).1
   simp only[zmo,dlt hi,zak,hx,cond_true,zar (show i<9223372036854775807 by omega)])
 rw[show zae zmo (item,0,c,(⟨0,0,0,0,0,0,0,0,0,0,0⟩:Hold),())=_ from h,zhd]
 cases c.Holds.find? (fun x=>x.Got==item)<;>rfl
def zdj (c:Circ) (i:Nat) (x:Item):Bool:=
 !(decide (x.ID<1)||decide (9999<x.ID)||zcc c.Items i (fun y=>decide (x.ID≤y.ID))||decide (x.Record<1)||decide (9999<x.Record)||decide (x.Branch<1)||decide (4<x.Branch))&&
 !(decide (x.Kind<1)||decide (9<x.Kind)||decide (x.Price<0)||decide (100000000<x.Price)||decide (200<(x.Call.length:Int))||!(vld x.Call))&&
 !(!((zdv x.Branch c.Moves x.ID).2.2==0)||!(za9 (zdv x.Branch c.Moves x.ID).1 x.Custody))
def zeq (c:Circ):Bool:=!(decide (64<(c.Items.length:Int))||decide (2000<(c.Moves.length:Int)))&&(zcq (zdj c) 0 c.Items&&c.Moves.all (fun m=>(c.Items.find? (fun x=>x.ID==m.Item)).isSome))
structure Short (c:Circ):Prop where
 items:c.Items.length<1000000000
 patrons:c.Patrons.length<1000000000
 loans:c.Loans.length<1000000000
 holds:c.Holds.length<1000000000
 charges:c.Charges.length<1000000000
 rules:c.Rules.length<1000000000
 moves:c.Moves.length<1000000000
 call:∀x∈c.Items,x.Call.length<10000000
 name:∀x∈c.Patrons,x.Name.length<10000000
 cal0:c.Cals.x0.Closed.length<1000000000
 cal1:c.Cals.x1.Closed.length<1000000000
 cal2:c.Cals.x2.Closed.length<1000000000
 cal3:c.Cals.x3.Closed.length<1000000000
theorem z60 {c:Circ} (hs:Short c):zae ztm (0,c,())=some (bif zcq (zdj c) 0 c.Items then .inl (c,()) else .inr (false,())):=by
 have h:=zat (step:=ztm) (fun i=>((i:Int),c,())) c.Items (zdj c) (.inr (false,())) (.inl (c,())) hs.items
  (by simp only[ztm,dge,cond_false])
  (fun i x hx=>by
   have hi:=(List.getElem?_eq_some_iff.1 hx).1
   have hm:=List.mem_of_getElem? hx
   have hv:=zaiu (s:=x.Call) (by have:=hs.call x hm;omega)
   have hr:=zazd (branch:=x.Branch) (item:=x.ID) hs.moves
   unfold zdj
   rcases i with _|j
   ·simp -zeta only[ztm,dlt hi,zak,hx,k_or,zbk,z34,cond_false,cond_true,zcc,zar (show 0<9223372036854775807 by omega),hv,hr]
    dsimp only
    generalize (decide (x.ID<1)||decide (9999<x.ID)||false||decide (x.Record<1)||decide (9999<x.Record)||decide (x.Branch<1)||decide (4<x.Branch))=b1
    generalize (decide (x.Kind<1)||decide (9<x.Kind)||decide (x.Price<0)||decide (100000000<x.Price)||decide (200<(x.Call.length:Int))||!(vld x.Call))=b2
    generalize (!((zdv x.Branch c.Moves x.ID).2.2==0)||!(za9 (zdv x.Branch c.Moves x.ID).1 x.Custody))=b3
    cases b1<;>cases b2<;>cases b3<;>rfl
   ·have hj:c.Items[j]?=some c.Items[j]:=List.getElem?_eq_getElem (by omega)
    have:=hs.items
    simp -zeta only[ztm,dlt hi,zak,hx,k_or,zbk,dpos,zhr (show j<1000000000 by omega),hj,cond_false,cond_true,Bool.true_and,zcc,zar (show j+1<9223372036854775807 by omega),hv,hr]
    dsimp only
    generalize (decide (x.ID<1)||decide (9999<x.ID)||decide (x.ID≤c.Items[j].ID)||decide (x.Record<1)||decide (9999<x.Record)||decide (x.Branch<1)||decide (4<x.Branch))=b1
    generalize (decide (x.Kind<1)||decide (9<x.Kind)||decide (x.Price<0)||decide (100000000<x.Price)||decide (200<(x.Call.length:Int))||!(vld x.Call))=b2
    generalize (!((zdv x.Branch c.Moves x.ID).2.2==0)||!(za9 (zdv x.Branch c.Moves x.ID).1 x.Custody))=b3
    cases b1<;>cases b2<;>cases b3<;>rfl)
 exact h
theorem zz3 {c:Circ} (hs:Short c):zae zj6 (0,c,())=some (bif c.Moves.all (fun m=>(c.Items.find? (fun x=>x.ID==m.Item)).isSome) then .inl () else .inr (false,())):=by
 have h:=zat (step:=zj6) (fun i=>((i:Int),c,())) c.Moves (fun _ m=>(c.Items.find? (fun x=>x.ID==m.Item)).isSome) (.inr (false,())) (.inl ()) hs.moves
  (by simp only[zj6,dge,cond_false])
  (fun i x hx=>by
   have hi:=(List.getElem?_eq_some_iff.1 hx).1
   have:=hs.moves
   simp only[zj6,dlt hi,zak,hx,cond_true,zar (show i<9223372036854775807 by omega)]
   rcases zop (item:=x.Item) hs.items with ⟨h1,h2⟩|⟨k,y,h1,h2,h3,h4⟩
   ·simp only[h1,h2,zps,cond_true,Option.isSome_none,cond_false]
   ·simp only[h1,h4,zlc,cond_false,Option.isSome_some,cond_true])
 rw[show zae zj6 (0,c,())=_ from h,zax]
theorem za1e {c:Circ} (hs:Short c):q9 c=some (zeq c):=by
 unfold q9 zeq
 simp -zeta only[k_or]
 dsimp only
 rw[z60 hs]
 cases (decide (64<(c.Items.length:Int))||decide (2000<(c.Moves.length:Int))) with
 |true=>rfl
 |false=>
  cases zcq (zdj c) 0 c.Items with
  |false=>rfl
  |true=>
   simp only[cond_false,cond_true,zz3 hs]
   cases c.Moves.all (fun m=>(c.Items.find? (fun x=>x.ID==m.Item)).isSome)<;>rfl
def zfs (c:Circ) (n:Loan):Bool:=match c.Items.find? (fun x=>x.ID==n.Item) with
 |some x=>!(!(getP c.Patrons n.Patron).2||!(zon x.Custody)||!(x.Custody.Who==n.Patron))
 |none=>false
def zfi (c:Circ):Bool:=c.Loans.all (zfs c)&&c.Items.all (fun x=>(zf4 c.Loans x.ID).2==zon x.Custody)
theorem za1d {c:Circ} (hs:Short c):q8 c=some (zfi c):=by
 have h1:=zat (step:=ztl) (fun i=>((i:Int),c,())) c.Loans (fun _=>zfs c) (.inr (false,())) (.inl (c,())) hs.loans
  (by simp only[ztl,dge,cond_false])
  (fun i x hx=>by
   have hi:=(List.getElem?_eq_some_iff.1 hx).1
   have:=hs.loans
   unfold zfs
   rcases zop (item:=x.Item) hs.items with ⟨h1,h2⟩|⟨k,y,h1,h2,h3,h4⟩
   ·simp -zeta only[ztl,dlt hi,zak,hx,cond_true,k_or,zrs hs.patrons,h1,h2,zps,Bool.true_or]
    try rfl
   ·simp -zeta only[ztl,dlt hi,zak,hx,cond_true,k_or,zrs hs.patrons,h1,h2,h4,zlc,Bool.false_or,zajn,zar (show i<9223372036854775807 by omega)]
    dsimp only
    cases (!(getP c.Patrons x.Patron).2||!(zon y.Custody)||!(y.Custody.Who==x.Patron))<;>rfl)
 have h2:=zat (step:=zmg) (fun i=>((i:Int),c,())) c.Items (fun _ x=>(zf4 c.Loans x.ID).2==zon x.Custody) (.inr (false,())) (.inl ()) hs.items
  (by simp only[zmg,dge,cond_false])
  (fun i x hx=>by
   have hi:=(List.getElem?_eq_some_iff.1 hx).1
   have:=hs.items
   simp only[zmg,dlt hi,zak,hx,cond_true,zazo hs.loans,zajn,zar (show i<9223372036854775807 by omega)]
   cases (zf4 c.Loans x.ID).2==zon x.Custody<;>rfl)
 unfold q8 zfi
 rw[show zae ztl (0,c,())=_ from h1,zax]
 cases c.Loans.all (zfs c) with
 |false=>rfl
 |true=>
  simp only[cond_true]
  rw[show zae zmg (0,c,())=_ from h2,zax]
  cases c.Items.all (fun x=>(zf4 c.Loans x.ID).2==zon x.Custody)<;>rfl
def zgr (c:Circ) (h:Hold):Bool:=
 !(!(getP c.Patrons h.Patron).2||decide (c.NextHold≤h.ID))&&(h.State==1||(match c.Items.find? (fun x=>x.ID==h.Got) with
  |some x=>!(!(x.Record==h.Record))&&!(h.State==3&&(!(x.Custody.State==5)||!(x.Custody.Branch==h.Pickup)||!(x.Custody.Who==h.Patron)))&&
   !(h.State==2&&(!(x.Custody.State==6)||!(x.Custody.To==h.Pickup)||!(x.Custody.Who==h.Patron)))
  |none=>false))
def zfl (c:Circ) (x:Item):Bool:=!(x.Custody.State==5)||!(!(zg8 c x.ID).2||!((zg8 c x.ID).1.State==3))
def zfg (c:Circ):Bool:=c.Holds.all (zgr c)&&c.Items.all (zfl c)
theorem zay7 {c:Circ} (hs:Short c):qaa c=some (zfg c):=by
 have h1:=zat (step:=zj8) (fun i=>((i:Int),c,())) c.Holds (fun _=>zgr c) (.inr (false,())) (.inl (c,())) hs.holds
  (by simp only[zj8,dge,cond_false])
  (fun i x hx=>by
   have hi:=(List.getElem?_eq_some_iff.1 hx).1
   have:=hs.holds
   unfold zgr
   rcases zop (item:=x.Got) hs.items with ⟨h1,h2⟩|⟨k,y,h1,h2,h3,h4⟩
   ·simp -zeta only[zj8,dlt hi,zak,hx,cond_true,k_or,zrs hs.patrons,h1,h2,zps,zar (show i<9223372036854775807 by omega)]
    dsimp only
    cases (!(getP c.Patrons x.Patron).2||decide (c.NextHold≤x.ID)) with
    |true=>rfl
    |false=>cases x.State==1<;>rfl
   ·simp -zeta only[zj8,dlt hi,zak,hx,cond_true,k_or,zbk,zrs hs.patrons,h1,h2,h4,zlc,cond_false,zar (show i<9223372036854775807 by omega)]
    dsimp only
    generalize (!(getP c.Patrons x.Patron).2||decide (c.NextHold≤x.ID))=b1
    generalize (x.State==1)=b2
    generalize (!(y.Record==x.Record))=b3
    generalize (!(y.Custody.State==5)||!(y.Custody.Branch==x.Pickup)||!(y.Custody.Who==x.Patron))=b4
    generalize (!(y.Custody.State==6)||!(y.Custody.To==x.Pickup)||!(y.Custody.Who==x.Patron))=b5
    generalize (x.State==3)=b6
    generalize (x.State==2)=b7
    cases b1<;>cases b2<;>cases b3<;>cases b4<;>cases b5<;>cases b6<;>cases b7<;>rfl)
 have h2:=zat (step:=zhm) (fun i=>((i:Int),c,())) c.Items (fun _=>zfl c) (.inr (false,())) (.inl ()) hs.items
  (by simp only[zhm,dge,cond_false])
  (fun i x hx=>by
   have hi:=(List.getElem?_eq_some_iff.1 hx).1
   have:=hs.items
   unfold zfl
   simp -zeta only[zhm,dlt hi,zak,hx,cond_true,k_or,zazg hs.holds,zar (show i<9223372036854775807 by omega)]
   dsimp only
   cases x.Custody.State==5 with
   |false=>rfl
   |true=>
    generalize (!(zg8 c x.ID).2||!((zg8 c x.ID).1.State==3))=b
    cases b<;>rfl)
 unfold qaa zfg
 rw[show zae zj8 (0,c,())=_ from h1,zax]
 cases c.Holds.all (zgr c) with
 |false=>rfl
 |true=>
  simp only[cond_true]
  rw[show zae zhm (0,c,())=_ from h2,zax]
  cases c.Items.all (zfl c)<;>rfl
end Go.Proofs.YtpaidiaknfhclaaGreatDoor
namespace Go.Proofs.YtpaidiaknfhclaaGreatDoor
open Ev
open Go (IntKind)
def zgf (c:Circ):Bool:=zca c.Cals.x0==0&&(zca c.Cals.x1==0&&(zca c.Cals.x2==0&&zca c.Cals.x3==0))
theorem zz8 {c:Circ} (hs:Short c):zae zhy (0,c,())=some (bif zgf c then .inl (c,()) else .inr (false,())):=by
 have s0:zhy (0,c,())=bif zca c.Cals.x0==0 then some (.inl (1,c,())) else some (.inr (.inr (false,()))):=by
  show (match qy c.Cals.x0 with|some r=>(bif !(r==0) then (some (.inr (.inr (false,()))):Option ((Int×Circ×Unit)⊕((Circ×Unit)⊕(Bool×Unit)))) else some (.inl (1,c,())))|none=>none)=_
  rw[zafj hs.cal0];dsimp only;cases zca c.Cals.x0==0<;>rfl
 have s1:zhy (1,c,())=bif zca c.Cals.x1==0 then some (.inl (2,c,())) else some (.inr (.inr (false,()))):=by
  show (match qy c.Cals.x1 with|some r=>(bif !(r==0) then (some (.inr (.inr (false,()))):Option ((Int×Circ×Unit)⊕((Circ×Unit)⊕(Bool×Unit)))) else some (.inl (2,c,())))|none=>none)=_
  rw[zafj hs.cal1];dsimp only;cases zca c.Cals.x1==0<;>rfl
 have s2:zhy (2,c,())=bif zca c.Cals.x2==0 then some (.inl (3,c,())) else some (.inr (.inr (false,()))):=by
  show (match qy c.Cals.x2 with|some r=>(bif !(r==0) then (some (.inr (.inr (false,()))):Option ((Int×Circ×Unit)⊕((Circ×Unit)⊕(Bool×Unit)))) else some (.inl (3,c,())))|none=>none)=_
  rw[zafj hs.cal2];dsimp only;cases zca c.Cals.x2==0<;>rfl
 have s3:zhy (3,c,())=bif zca c.Cals.x3==0 then some (.inl (4,c,())) else some (.inr (.inr (false,()))):=by
  show (match qy c.Cals.x3 with|some r=>(bif !(r==0) then (some (.inr (.inr (false,()))):Option ((Int×Circ×Unit)⊕((Circ×Unit)⊕(Bool×Unit)))) else some (.inl (4,c,())))|none=>none)=_
  rw[zafj hs.cal3];dsimp only;cases zca c.Cals.x3==0<;>rfl
 have s4:zhy (4,c,())=some (.inr (.inl (c,()))):=rfl
 refine zey 5 (by rw[zg5];omega) ?_
 unfold zgf
 simp only[zcr,s0,s1,s2,s3,s4]
 cases zca c.Cals.x0==0 with
 |false=>rfl
 |true=>
  simp only[cond_true,zcr,s1]
  cases zca c.Cals.x1==0 with
  |false=>rfl
  |true=>
   simp only[cond_true,zcr,s2]
   cases zca c.Cals.x2==0 with
   |false=>rfl
   |true=>
    simp only[cond_true,zcr,s3]
    cases zca c.Cals.x3==0 with
    |false=>rfl
    |true=>simp only[cond_true,zcr,s4];rfl
def zej (c:Circ) (x:Charge):Bool:=!(!(getP c.Patrons x.Patron).2||decide (c.NextCharge≤x.ID))
theorem zto {c:Circ} (hs:Short c):zae zf7 (0,c,())=some (bif c.Charges.all (zej c) then .inl (c,()) else .inr (false,())):=by
 have h:=zat (step:=zf7) (fun i=>((i:Int),c,())) c.Charges (fun _=>zej c) (.inr (false,())) (.inl (c,())) hs.charges
  (by simp only[zf7,dge,cond_false])
  (fun i x hx=>by
   have hi:=(List.getElem?_eq_some_iff.1 hx).1
   have:=hs.charges
   unfold zej
   simp -zeta only[zf7,dlt hi,zak,hx,cond_true,k_or,zrs hs.patrons,zar (show i<9223372036854775807 by omega)]
   dsimp only
   cases (!(getP c.Patrons x.Patron).2||decide (c.NextCharge≤x.ID))<;>rfl)
 rw[show zae zf7 (0,c,())=_ from h,zax]
def zoj (c:Circ):Bool:=!(decide (c.Today<0)||decide (109572<c.Today)||decide (c.NextHold<1)||decide (100000<c.NextHold)||decide (c.NextCharge<1)||decide (100000<c.NextCharge))
def zjj (c:Circ):Bool:=!(!(zet c.Patrons==0)||!(zgx c.Loans==0)||!(zdi c.Holds==0)||!(zek c.Charges==0)||!(zfu c.Rules==0))
def zmu (c:Circ):Bool:=zoj c&&(zjj c&&(zgf c&&(c.Charges.all (zej c)&&(zeq c&&(zfi c&&zfg c)))))
theorem zaza {c:Circ} (hs:Short c):qag c=some (zmu c):=by
 unfold qag zmu zoj zjj
 simp -zeta only[k_or,zbk,zazf hs.patrons hs.name,zaze hs.loans,za1j hs.holds,zay5 hs.charges,za1i hs.rules]
 dsimp only
 rw[zz8 hs]
 generalize (decide (c.Today<0)||decide (109572<c.Today)||decide (c.NextHold<1)||decide (100000<c.NextHold)||decide (c.NextCharge<1)||decide (100000<c.NextCharge))=b1
 generalize (!(zet c.Patrons==0)||!(zgx c.Loans==0)||!(zdi c.Holds==0)||!(zek c.Charges==0)||!(zfu c.Rules==0))=b2
 cases b1 with
 |true=>rfl
 |false=>
  cases b2 with
  |true=>rfl
  |false=>
   cases zgf c with
   |false=>rfl
   |true=>
    simp only[cond_false,cond_true,zto hs]
    cases c.Charges.all (zej c) with
    |false=>rfl
    |true=>
     simp -zeta only[cond_false,cond_true,za1e hs,za1d hs,zay7 hs,zbk]
     try dsimp only
     cases zeq c<;>cases zfi c<;>cases zfg c<;>rfl
def zkz (c:Circ):Bool:=
 !(decide (10<(c.Items.length:Int))||decide (8<(c.Patrons.length:Int))||decide (12<(c.Holds.length:Int))||decide (12<(c.Loans.length:Int))||decide (30<(c.Charges.length:Int))||decide (10<(c.Rules.length:Int))||decide (200<(c.Moves.length:Int)))&&
 (c.Items.all (fun x=>!(decide (300<(x.Call.length:Int))))&&(c.Patrons.all (fun x=>!(decide (300<(x.Name.length:Int))))&&
  (!(decide (20<(c.Cals.x0.Closed.length:Int)))&&(!(decide (20<(c.Cals.x1.Closed.length:Int)))&&(!(decide (20<(c.Cals.x2.Closed.length:Int)))&&!(decide (20<(c.Cals.x3.Closed.length:Int))))))))
theorem za1f (c:Circ):qa c=some (zkz c):=by
 unfold qa zkz
 simp -zeta only[k_or,zbk]
 dsimp only
 cases hb:(decide (10<(c.Items.length:Int))||decide (8<(c.Patrons.length:Int))||decide (12<(c.Holds.length:Int))||decide (12<(c.Loans.length:Int))||decide (30<(c.Charges.length:Int))||decide (10<(c.Rules.length:Int))||decide (200<(c.Moves.length:Int))) with
 |true=>rfl
 |false=>
  simp only[Bool.or_eq_false_iff,decide_eq_false_iff_not]at hb
  have h1:=zat (step:=zz5) (fun i=>((i:Int),c,())) c.Items (fun _ x=>!(decide (300<(x.Call.length:Int)))) (.inr (false,())) (.inl (c,())) (by omega)
   (by simp only[zz5,dge,cond_false])
   (fun i x hx=>by
    have hi:=(List.getElem?_eq_some_iff.1 hx).1
    simp only[zz5,dlt hi,zak,hx,cond_true,zar (show i<9223372036854775807 by omega)]
    cases decide (300<(x.Call.length:Int))<;>rfl)
  have h2:=zat (step:=zz6) (fun i=>((i:Int),c,())) c.Patrons (fun _ x=>!(decide (300<(x.Name.length:Int)))) (.inr (false,())) (.inl (c,())) (by omega)
   (by simp only[zz6,dge,cond_false])
   (fun i x hx=>by
    have hi:=(List.getElem?_eq_some_iff.1 hx).1
    simp only[zz6,dlt hi,zak,hx,cond_true,zar (show i<9223372036854775807 by omega)]
    cases decide (300<(x.Name.length:Int))<;>rfl)
  have h3:zae zhx (0,c,())=some (bif (!(decide (20<(c.Cals.x0.Closed.length:Int)))&&(!(decide (20<(c.Cals.x1.Closed.length:Int)))&&(!(decide (20<(c.Cals.x2.Closed.length:Int)))&&!(decide (20<(c.Cals.x3.Closed.length:Int)))))) then .inl () else .inr (false,())):=by
   have s0:zhx (0,c,())=bif decide (20<(c.Cals.x0.Closed.length:Int)) then some (.inr (.inr (false,()))) else some (.inl (1,c,())):=rfl
   have s1:zhx (1,c,())=bif decide (20<(c.Cals.x1.Closed.length:Int)) then some (.inr (.inr (false,()))) else some (.inl (2,c,())):=rfl
   have s2:zhx (2,c,())=bif decide (20<(c.Cals.x2.Closed.length:Int)) then some (.inr (.inr (false,()))) else some (.inl (3,c,())):=rfl
   have s3:zhx (3,c,())=bif decide (20<(c.Cals.x3.Closed.length:Int)) then some (.inr (.inr (false,()))) else some (.inl (4,c,())):=rfl
   have s4:zhx (4,c,())=some (.inr (.inl ())):=rfl
   refine zey 5 (by rw[zg5];omega) ?_
   simp only[zcr,s0]
   cases decide (20<(c.Cals.x0.Closed.length:Int)) with
   |true=>rfl
   |false=>
    simp only[cond_false,zcr,s1]
    cases decide (20<(c.Cals.x1.Closed.length:Int)) with
    |true=>rfl
    |false=>
     simp only[cond_false,zcr,s2]
     cases decide (20<(c.Cals.x2.Closed.length:Int)) with
     |true=>rfl
     |false=>
      simp only[cond_false,zcr,s3]
      cases decide (20<(c.Cals.x3.Closed.length:Int)) with
      |true=>rfl
      |false=>simp only[cond_false,zcr,s4];rfl
  simp only[cond_false,Bool.not_false,Bool.true_and]
  rw[show zae zz5 (0,c,())=_ from h1,zax]
  cases c.Items.all (fun x=>!(decide (300<(x.Call.length:Int)))) with
  |false=>rfl
  |true=>
   simp only[cond_true,Bool.true_and]
   rw[show zae zz6 (0,c,())=_ from h2,zax]
   cases c.Patrons.all (fun x=>!(decide (300<(x.Name.length:Int)))) with
   |false=>rfl
   |true=>
    simp only[cond_true,Bool.true_and,h3]
    cases (!(decide (20<(c.Cals.x0.Closed.length:Int)))&&(!(decide (20<(c.Cals.x1.Closed.length:Int)))&&(!(decide (20<(c.Cals.x2.Closed.length:Int)))&&!(decide (20<(c.Cals.x3.Closed.length:Int))))))<;>rfl
structure SmallP (c:Circ):Prop where
 items:c.Items.length≤10
 patrons:c.Patrons.length≤8
 holds:c.Holds.length≤12
 loans:c.Loans.length≤12
 charges:c.Charges.length≤30
 rules:c.Rules.length≤10
 moves:c.Moves.length≤200
 call:∀x∈c.Items,x.Call.length≤300
 name:∀x∈c.Patrons,x.Name.length≤300
 cal0:c.Cals.x0.Closed.length≤20
 cal1:c.Cals.x1.Closed.length≤20
 cal2:c.Cals.x2.Closed.length≤20
 cal3:c.Cals.x3.Closed.length≤20
theorem zakv {c:Circ} (h:zkz c=true):SmallP c:=by
 unfold zkz at h
 simp only[Bool.and_eq_true,Bool.not_eq_true',Bool.or_eq_false_iff,decide_eq_false_iff_not,List.all_eq_true]at h
 obtain ⟨⟨⟨⟨⟨⟨⟨h1,h2⟩,h3⟩,h4⟩,h5⟩,h6⟩,h7⟩,h8,h9,h10,h11,h12,h13⟩:=h
 exact ⟨by omega,by omega,by omega,by omega,by omega,by omega,by omega,fun x hx=>by have:=h8 x hx;omega,fun x hx=>by have:=h9 x hx;omega,by omega,by omega,by omega,by omega⟩
theorem SmallP.short {c:Circ} (h:SmallP c):Short c:=by
 obtain ⟨h1,h2,h3,h4,h5,h6,h7,h8,h9,h10,h11,h12,h13⟩:=h
 exact ⟨by omega,by omega,by omega,by omega,by omega,by omega,by omega,fun x hx=>by have:=h8 x hx;omega,fun x hx=>by have:=h9 x hx;omega,by omega,by omega,by omega,by omega⟩
end Go.Proofs.YtpaidiaknfhclaaGreatDoor
namespace Go.Proofs.YtpaidiaknfhclaaGreatDoor
open Ev
open Go (IntKind)
end Go.Proofs.YtpaidiaknfhclaaGreatDoor
namespace Go.Proofs.YtpaidiaknfhclaaGreatDoor
open Ev
open Go (IntKind)
theorem zarr (lo hi n:Int):(!(rng lo hi n))=(decide (n<lo)||decide (hi<n)):=by
 unfold rng
 by_cases h1:n<lo
 ·have:¬lo≤n:=by omega
  simp[h1,this]
 ·have:lo≤n:=by omega
  by_cases h2:hi<n
  ·have:¬n≤hi:=by omega
   simp[*]
  ·have:n≤hi:=by omega
   simp[*]
theorem zap1 {X:Type} (p:X→Bool) (l:List X):decide (fIdx p l<0)=!(l.any p):=by
 unfold fIdx
 induction l with
 |nil=>rfl
 |cons y l ih=>
  simp only[List.findIdx?_cons,List.any_cons]
  cases hp:p y with
  |true=>rfl
  |false=>
   simp only[Bool.false_eq_true,if_false,Bool.false_or]
   rw[←ih]
   cases l.findIdx? p with
   |none=>rfl
   |some k=>simp only[Option.map_some];rw[decide_eq_decide];omega
theorem z38 {X:Type} (p:X→Bool) (l:List X):decide (0≤fIdx p l)=l.any p:=by
 have h:=zap1 p l
 cases hb:l.any p with
 |true=>rw[hb]at h;simp at h ⊢;omega
 |false=>rw[hb]at h;simp at h ⊢;omega
theorem zajp {γ:Type} {p:γ→Loan→Option Bool} {g:γ} (q:Loan→Bool) {l:List Loan} (hl:l.length<1000000000) (hp:∀x∈l,p g x=some (q x)):qk p l g=some (fIdx q l):=by
 have h:=zbl (step:=ztz p) (fun i=>(l,g,(l.length:Int),(i:Int),())) l q (fun i _=>(.inr ((i:Int),()):(Unit)⊕(Int×Unit))) (.inl ()) hl
  (by simp only[ztz,dge,cond_false])
  (fun i x hx=>by
   have hi:=(List.getElem?_eq_some_iff.1 hx).1
   simp only[ztz,dlt hi,zak,hx,cond_true,hp x (List.mem_of_getElem? hx),zar (show i<9223372036854775807 by omega)])
 unfold qk
 rw[show zae (ztz p) (l,g,(l.length:Int),0,())=_ from h]
 have e:=zcm (p:=q) (g:=fun i _=>(.inr ((i:Int),()):(Unit)⊕(Int×Unit))) (d:=.inl ()) (fun r:(Unit)⊕(Int×Unit)=>match r with | .inl (_)=>(-1:Int) | .inr (v,_)=>v) (l:=l) (i:=0)
 dsimp only at e
 rw[←zdm,←e]
 generalize zeo q (fun i _=>(.inr ((i:Int),()):(Unit)⊕(Int×Unit))) (.inl ()) 0 l=r
 rcases r with _|⟨v,_⟩<;>rfl
theorem zajg {γ:Type} {p:γ→Item→Option Bool} {g:γ} (q:Item→Bool) {l:List Item} (hl:l.length<1000000000) (hp:∀x∈l,p g x=some (q x)):qc p l g=some (fIdx q l):=by
 have h:=zbl (step:=zom p) (fun i=>(l,g,(l.length:Int),(i:Int),())) l q (fun i _=>(.inr ((i:Int),()):(Unit)⊕(Int×Unit))) (.inl ()) hl
  (by simp only[zom,dge,cond_false])
  (fun i x hx=>by
   have hi:=(List.getElem?_eq_some_iff.1 hx).1
   simp only[zom,dlt hi,zak,hx,cond_true,hp x (List.mem_of_getElem? hx),zar (show i<9223372036854775807 by omega)])
 unfold qc
 rw[show zae (zom p) (l,g,(l.length:Int),0,())=_ from h]
 have e:=zcm (p:=q) (g:=fun i _=>(.inr ((i:Int),()):(Unit)⊕(Int×Unit))) (d:=.inl ()) (fun r:(Unit)⊕(Int×Unit)=>match r with | .inl (_)=>(-1:Int) | .inr (v,_)=>v) (l:=l) (i:=0)
 dsimp only at e
 rw[←zdm,←e]
 generalize zeo q (fun i _=>(.inr ((i:Int),()):(Unit)⊕(Int×Unit))) (.inl ()) 0 l=r
 rcases r with _|⟨v,_⟩<;>rfl
theorem z64 {γ:Type} {p:γ→Item→Option Bool} {g:γ} (q:Item→Bool) {l:List Item} (hl:l.length<1000000000) (hp:∀x∈l,p g x=some (q x)):qch p l g=some (l.any q):=by
 unfold qch
 rw[zajg q hl hp]
 dsimp only
 rw[z38]
theorem zazi {γ:Type} {p:γ→Hold→Option Bool} {g:γ} (q:Hold→Bool) {l:List Hold} (hl:l.length<1000000000) (hp:∀x∈l,p g x=some (q x)):qb p l g=some (fIdx q l):=by
 have h:=zbl (step:=zkd p) (fun i=>(l,g,(l.length:Int),(i:Int),())) l q (fun i _=>(.inr ((i:Int),()):(Unit)⊕(Int×Unit))) (.inl ()) hl
  (by simp only[zkd,dge,cond_false])
  (fun i x hx=>by
   have hi:=(List.getElem?_eq_some_iff.1 hx).1
   simp only[zkd,dlt hi,zak,hx,cond_true,hp x (List.mem_of_getElem? hx),zar (show i<9223372036854775807 by omega)])
 unfold qb
 rw[show zae (zkd p) (l,g,(l.length:Int),0,())=_ from h]
 have e:=zcm (p:=q) (g:=fun i _=>(.inr ((i:Int),()):(Unit)⊕(Int×Unit))) (d:=.inl ()) (fun r:(Unit)⊕(Int×Unit)=>match r with | .inl (_)=>(-1:Int) | .inr (v,_)=>v) (l:=l) (i:=0)
 dsimp only at e
 rw[←zdm,←e]
 generalize zeo q (fun i _=>(.inr ((i:Int),()):(Unit)⊕(Int×Unit))) (.inl ()) 0 l=r
 rcases r with _|⟨v,_⟩<;>rfl
theorem zar1 {γ:Type} {p:γ→Hold→Option Bool} {g:γ} (q:Hold→Bool) {l:List Hold} (hl:l.length<1000000000) (hp:∀x∈l,p g x=some (q x)):qb1 p l g=some (l.any q):=by
 unfold qb1
 rw[zazi q hl hp]
 dsimp only
 rw[z38]
theorem zgq (l:List Hold) (i:Nat) (x:Hold):zcy l i x=bif zcc l i (fun y=>decide (x.ID≤y.ID)) then 7 else zbu x:=by
 unfold zcy
 congr 1
 cases h:zbu x==0 with
 |true=>simp at h;simp[h]
 |false=>simp
def za1v (q:Hold→Hold→Bool) (l:List Hold):Bool:=zcq (fun i x=>(l.take i).all (fun y=>!(q y x))) 0 l
end Go.Proofs.YtpaidiaknfhclaaGreatDoor
namespace Go.Proofs.YtpaidiaknfhclaaGreatDoor
open Ev
open Go (IntKind)
theorem zaje (n lo hi:Int):qbt n lo hi=some (rng lo hi n):=by
 unfold qbt
 simp -zeta only[k_or,zbk]
 try rfl
theorem zed {lo hi n:Int}:rng lo hi n=true↔lo≤n∧n≤hi:=by
 unfold rng
 simp only[Bool.and_eq_true,decide_eq_true_eq]
theorem zi9 {n:Int} (h:rng 1 12 n=true):n=1∨n=2∨n=3∨n=4∨n=5∨n=6∨n=7∨n=8∨n=9∨n=10∨n=11∨n=12:=by
 have:=zed.1 h;omega
theorem zdu {n:Int} (h:rng 1 15 n=true):n=1∨n=2∨n=3∨n=4∨n=5∨n=6∨n=7∨n=8∨n=9∨n=10∨n=11∨n=12∨n=13∨n=14∨n=15:=by
 have:=zed.1 h;omega
theorem zazt {s k:Int} (hs:rng 1 12 s=true) (hk:rng 1 15 k=true):qfc s k=some (zlq s k):=by
 rcases zi9 hs with h|h|h|h|h|h|h|h|h|h|h|h<;>subst h<;>
  rcases zdu hk with h|h|h|h|h|h|h|h|h|h|h|h|h|h|h<;>subst h<;>rfl
theorem zazu (c:Custody):qfe c=some (zkl c):=by
 unfold qfe zkl zar5
 simp -zeta only[k_or,zbk,zjg,zaje,zarr]
 dsimp only
 cases hb:(decide (c.State<1)||decide (12<c.State)||(decide (c.Branch<1)||decide (4<c.Branch))) with
 |true=>
  have:(decide (c.State<1)||decide (12<c.State)||decide (c.Branch<1)||decide (4<c.Branch))=true:=by rw[←hb,Bool.or_assoc _ _ (decide (4<c.Branch))]
  rw[this];rfl
 |false=>
  have:(decide (c.State<1)||decide (12<c.State)||decide (c.Branch<1)||decide (4<c.Branch))=false:=by rw[←hb,Bool.or_assoc _ _ (decide (4<c.Branch))]
  rw[this]
  have hr:rng 1 12 c.State=true:=by
   simp only[Bool.or_eq_false_iff,decide_eq_false_iff_not]at hb
   rw[zed];omega
  unfold rng
  simp only[cond_false]
  generalize decide (0≤c.Who)=a1
  generalize decide (c.Who≤9999)=a2
  generalize decide (1≤c.Who)=a3
  generalize decide (1≤c.To)=a4
  generalize decide (c.To≤4)=a5
  generalize (c.To==0)=a6
  generalize (c.To==c.Branch)=a7
  generalize (c.Who==0)=a8
  rcases zi9 hr with h|h|h|h|h|h|h|h|h|h|h|h<;>rw[h]<;>revert a1 a2 a3 a4 a5 a6 a7 a8<;>decide
theorem zaji (c:Custody) (ok:Bool):qco c ok=some (bif ok then (c,0) else (⟨0,0,0,0⟩,1)):=by
 cases ok<;>rfl
theorem zazv (c:Custody) (m:Move):qfg c m=some (bif !(m.Branch==c.Branch) then (⟨6,c.Branch,m.Who,m.Branch⟩,0) else (⟨0,0,0,0⟩,1)):=by
 unfold qfg
 rw[zaji]
theorem zazm (c:Custody) (m:Move):qd3 c m=some (za5 c m):=by
 unfold qd3 za5
 simp -zeta only[k_or,zbk,zjg,zaje,zazu]
 dsimp only
 have hw:(!(rng 0 109572 m.Day)||!(rng 1 9999 m.Item)||!(rng 1 15 m.Kind)||!(rng 1 4 m.Branch)||!(rng 0 9999 m.Who))=!(zoo m):=by
  unfold zoo rng
  simp only[Bool.not_and,Bool.or_assoc]
 rw[show (!(zkl c)||!(rng 0 109572 m.Day)||!(rng 1 9999 m.Item)||!(rng 1 15 m.Kind)||!(rng 1 4 m.Branch)||!(rng 0 9999 m.Who))=(!(zkl c)||!(zoo m)) by rw[←hw];simp only[Bool.or_assoc]]
 cases hb:(!(zkl c)||!(zoo m)) with
 |true=>rfl
 |false=>
  simp only[Bool.or_eq_false_iff,Bool.not_eq_false']at hb
  obtain ⟨h1,h2⟩:=hb
  rw[h2,Bool.not_true]at hw
  simp only[Bool.or_eq_false_iff,Bool.not_eq_false']at hw
  obtain ⟨⟨⟨⟨w1,w2⟩,w3⟩,w4⟩,w5⟩:=hw
  have hs:rng 1 12 c.State=true:=by
   unfold zkl at h1
   rw[zed]
   cases hq:(decide (c.State<1)||decide (12<c.State)||decide (c.Branch<1)||decide (4<c.Branch)) with
   |true=>rw[hq]at h1;cases h1
   |false=>simp only[Bool.or_eq_false_iff,decide_eq_false_iff_not]at hq;omega
  rw[zazt hs w3]
  simp only[cond_false]
  cases ha:zlq c.State m.Kind with
  |false=>rfl
  |true=>
   simp only[Bool.not_true,cond_false]
   have h0:=(zed.1 w5).1
   unfold zafd zec
   simp only[zaji,zazv]
   generalize (c.State==5)=g5
   generalize (m.Who==c.Who)=g7
   generalize (m.Branch==c.To)=g6
   by_cases hw0:m.Who=0
   ·have e2:decide (1≤m.Who)=false:=by rw[decide_eq_false_iff_not];omega
    rw[e2]
    simp only[hw0]
    by_cases hb:m.Branch=c.Branch
    ·simp only[hb,beq_self_eq_true]
     rcases zdu w3 with h|h|h|h|h|h|h|h|h|h|h|h|h|h|h<;>
      (simp only[h];cases g5<;>cases g6<;>cases g7<;>rfl)
    ·have e3:(m.Branch==c.Branch)=false:=by simpa using hb
     simp only[e3]
     rcases zdu w3 with h|h|h|h|h|h|h|h|h|h|h|h|h|h|h<;>
      (simp only[h];cases g5<;>cases g6<;>cases g7<;>rfl)
   ·have e2:decide (1≤m.Who)=true:=by rw[decide_eq_true_eq];omega
    have e1:(m.Who==0)=false:=by simpa using hw0
    rw[e2]
    simp only[e1]
    by_cases hb:m.Branch=c.Branch
    ·simp only[hb,beq_self_eq_true]
     rcases zdu w3 with h|h|h|h|h|h|h|h|h|h|h|h|h|h|h<;>
      (simp only[h];cases g5<;>cases g6<;>cases g7<;>rfl)
    ·have e3:(m.Branch==c.Branch)=false:=by simpa using hb
     simp only[e3]
     rcases zdu w3 with h|h|h|h|h|h|h|h|h|h|h|h|h|h|h<;>
      (simp only[h];cases g5<;>cases g6<;>cases g7<;>rfl)
end Go.Proofs.YtpaidiaknfhclaaGreatDoor
namespace Go.Proofs.YtpaidiaknfhclaaGreatDoor
open Ev
open Go (IntKind)
theorem zazb {c:Circ} {item:Int} (hl:c.Items.length<1000000000):qam c item=some (fIdx (fun x=>x.ID==item) c.Items):=by
 unfold qam
 rw[zajg (fun x=>x.ID==item) hl (fun x _=>rfl)]
theorem zazq {l:List Loan} {item:Int} (hl:l.length<1000000000):qea l item=some (zf4 l item):=by
 unfold qea qar qb2 zf4
 dsimp only
 rw[zajp (p:=fun (g:Unit×Int×Unit) x0=>qcc x0 g.2.1) (g:=((),(item,()))) (fun x=>x.Item==item) hl (fun x _=>rfl)]
 rcases zb6 (fun x:Loan=>x.Item==item) l with ⟨h1,h2⟩|⟨i,x,h1,h2,h3,h4⟩
 ·simp only[h1,h2,zps,cond_true]
  try rfl
 ·simp only[h1,h4,zlc,cond_false,zak,h2]
  have:decide ((0:Int)≤(i:Int))=true:=by rw[decide_eq_true_eq];omega
  rw[this]
def zcb (x:Item):Bool:=rng 1 9999 x.ID&&rng 1 9999 x.Record&&rng 1 4 x.Branch&&rng 1 9 x.Kind&&rng 0 100000000 x.Price&&decide ((x.Call.length:Int)≤200)&&vld x.Call
def zcn (c:Circ) (x:Item):Bool:=!(!((zdv x.Branch c.Moves x.ID).2.2==0)||!(za9 (zdv x.Branch c.Moves x.ID).1 x.Custody))
def z6s (c:Circ):Bool:=c.Moves.all (fun m=>(c.Items.find? (fun x=>x.ID==m.Item)).isSome)
def zgw (c:Circ):Bool:=!(decide (64<(c.Items.length:Int))||decide (2000<(c.Moves.length:Int)))&&(zcq (fun i x=>!(!(zcb x)||zcc c.Items i (fun y=>decide (x.ID≤y.ID)))) 0 c.Items&&(z6s c&&c.Items.all (zcn c)))
end Go.Proofs.YtpaidiaknfhclaaGreatDoor
namespace Go.Proofs.YtpaidiaknfhclaaGreatDoor
open Ev
open Go (IntKind)
theorem zr2 {X:Type} {key:X→Int} {l:List X} (h:∀i x,l[i]?=some x→zcc l i (fun y=>decide (key x≤key y))=false):∀(j i:Nat) (x y:X),i<j→l[i]?=some x→l[j]?=some y→key x<key y:=by
 intro j
 induction j with
 |zero=>intro i x y hi;omega
 |succ j ih=>
  intro i x y hi hx hy
  have hj:=(List.getElem?_eq_some_iff.1 hy).1
  have hz:l[j]?=some l[j]:=List.getElem?_eq_getElem (by omega)
  have:=h _ _ hy
  simp only[zcc,hz,decide_eq_false_iff_not]at this
  by_cases e:i=j
  ·subst e
   rw[hz]at hx;cases hx;omega
  ·have:=ih i x l[j] (by omega) hx hz
   omega
theorem zi8 {X:Type} {f:Nat→X→Int}:∀{l:List X} {k:Nat},zb8 f k l=0→∀i x,l[i]?=some x→f (k+i) x=0:=by
 intro l
 induction l with
 |nil=>intro k _ i x hx;simp at hx
 |cons y l ih=>
  intro k h i x hx
  unfold zb8 at h
  by_cases e:f k y=0
  ·rw[e]at h
   simp only[beq_self_eq_true,if_true]at h
   cases i with
   |zero=>simp at hx;subst hx;exact e
   |succ i=>have:=ih h i x (by simpa using hx);rwa [show k+(i+1)=k+1+i by omega]
  ·have:(f k y==0)=false:=by simpa using e
   rw[this]at h
   exact absurd h e
theorem zc9 {b:Bool} {n m:Int} (h:(bif b then n else m)=0) (hn:n≠0):b=false:=by
 cases b with
 |false=>rfl
 |true=>exact absurd h hn
theorem zgs {l:List Hold} (h:zdi l=0):zb8 (zcy l) 0 l=0:=by
 unfold zdi at h
 rw[zc9 h (by decide)]at h
 simp only[cond_false]at h
 by_cases e:zb8 (zcy l) 0 l=0
 ·exact e
 ·have h2:(zb8 (zcy l) 0 l==0)=false:=by simpa using e
  rw[h2]at h
  exact h
theorem zpz {l:List Hold} (h:zdi l=0):∀i x,l[i]?=some x→zcc l i (fun y=>decide (x.ID≤y.ID))=false:=by
 intro i x hx
 have:=zi8 (k:=0) (zgs h) i x hx
 rw[Nat.zero_add,zgq]at this
 exact zc9 this (by decide)
theorem zza {l:List Hold} (h:zdi l=0) {x:Hold} (hx:x∈l):zbu x=0:=by
 obtain ⟨i,hi⟩:=List.getElem?_of_mem hx
 have:=zi8 (k:=0) (zgs h) i x hi
 rw[Nat.zero_add,zgq]at this
 rw[zc9 this (by decide)]at this
 exact this
theorem zi6 {a b:Custody}:za9 a b=true↔a=b:=by
 obtain ⟨a1,a2,a3,a4⟩:=a
 obtain ⟨b1,b2,b3,b4⟩:=b
 unfold za9
 simp[Bool.and_eq_true]
 try (constructor<;>(intro h;simp_all))
end Go.Proofs.YtpaidiaknfhclaaGreatDoor
namespace Go.Proofs.YtpaidiaknfhclaaGreatDoor
open Ev
open Go (IntKind)
theorem zs9 (c:Circ) (i:Nat) (x:Item):zdj c i x=(!(!(zcb x)||zcc c.Items i (fun y=>decide (x.ID≤y.ID)))&&zcn c x):=by
 unfold zdj zcn zcb
 rw[Bool.eq_iff_iff]
 simp only[Bool.and_eq_true,Bool.not_eq_true',Bool.or_eq_false_iff,decide_eq_false_iff_not,Bool.not_eq_false',zed,decide_eq_true_eq]
 constructor
 ·rintro ⟨⟨h1,h2⟩,h3⟩
  obtain ⟨⟨⟨⟨⟨⟨a1,a2⟩,a3⟩,a4⟩,a5⟩,a6⟩,a7⟩:=h1
  obtain ⟨⟨⟨⟨⟨b1,b2⟩,b3⟩,b4⟩,b5⟩,b6⟩:=h2
  refine ⟨⟨⟨⟨⟨⟨⟨⟨⟨?_,?_⟩,⟨?_,?_⟩⟩,⟨?_,?_⟩⟩,⟨?_,?_⟩⟩,⟨?_,?_⟩⟩,?_⟩,b6⟩,a3⟩,h3⟩<;>omega
 ·rintro ⟨⟨h1,a3⟩,h3⟩
  obtain ⟨⟨⟨⟨⟨⟨⟨a1,a2⟩,⟨a4,a5⟩⟩,⟨a6,a7⟩⟩,⟨a8,a9⟩⟩,⟨b1,b2⟩⟩,b3⟩,b4⟩:=h1
  refine ⟨⟨⟨⟨⟨⟨⟨⟨?_,?_⟩,a3⟩,?_⟩,?_⟩,?_⟩,?_⟩,⟨⟨⟨⟨⟨?_,?_⟩,?_⟩,?_⟩,?_⟩,b4⟩⟩,h3⟩<;>omega
theorem zp6 (c:Circ):zeq c=zgw c:=by
 have key:zcq (zdj c) 0 c.Items=(zcq (fun i x=>!(!(zcb x)||zcc c.Items i (fun y=>decide (x.ID≤y.ID)))) 0 c.Items&&c.Items.all (zcn c)):=by
  have gen:∀(l:List Item) (k:Nat),zcq (zdj c) k l=(zcq (fun i x=>!(!(zcb x)||zcc c.Items i (fun y=>decide (x.ID≤y.ID)))) k l&&l.all (zcn c)):=by
   intro l
   induction l with
   |nil=>intro k;rfl
   |cons x l ih=>
    intro k
    simp only[zcq,List.all_cons]
    rw[ih,zs9]
    generalize (!(!(zcb x)||zcc c.Items k (fun y=>decide (x.ID≤y.ID))))=b1
    generalize zcq (fun i x=>!(!(zcb x)||zcc c.Items i (fun y=>decide (x.ID≤y.ID)))) (k+1) l=b2
    cases b1<;>cases b2<;>cases zcn c x<;>cases l.all (zcn c)<;>rfl
  exact gen _ _
 unfold zeq zgw z6s
 rw[key]
 generalize (!(decide (64<(c.Items.length:Int))||decide (2000<(c.Moves.length:Int))))=b1
 generalize zcq (fun i x=>!(!(zcb x)||zcc c.Items i (fun y=>decide (x.ID≤y.ID)))) 0 c.Items=b2
 generalize c.Moves.all (fun m=>(c.Items.find? (fun x=>x.ID==m.Item)).isSome)=b3
 cases b1<;>cases b2<;>cases b3<;>cases c.Items.all (zcn c)<;>rfl
theorem zp8 {c:Circ} (h:zgw c=true):∀i x,c.Items[i]?=some x→zcc c.Items i (fun y=>decide (x.ID≤y.ID))=false:=by
 intro i x hx
 unfold zgw at h
 simp only[Bool.and_eq_true]at h
 have:=(zoz.1 h.2.1) i x hx
 rw[Nat.zero_add]at this
 simp only[Bool.not_eq_true',Bool.or_eq_false_iff]at this
 exact this.2
theorem zp7 {c:Circ} (h:zgw c=true) {x:Item} (hx:x∈c.Items):zcn c x=true:=by
 unfold zgw at h
 simp only[Bool.and_eq_true,List.all_eq_true]at h
 exact h.2.2.2 x hx
end Go.Proofs.YtpaidiaknfhclaaGreatDoor
namespace Go.Proofs.YtpaidiaknfhclaaGreatDoor
open Ev
open Go (IntKind)
theorem zck {X:Type} (l:List X):l.all (fun _=>true)=true:=by rw[List.all_eq_true];intros;rfl
theorem zba (x:Custody):za9 x x=true:=by simp[za9]
theorem zns (x:Item):znr x x=true:=by simp[znr,zba]
theorem zi7 (x:Patron):zhc x x=true:=by simp[zhc,zba]
theorem znu (x:Loan):znt x x=true:=by simp[znt,zba]
theorem znq (x:Hold):znp x x=true:=by simp[znp,zba]
theorem zi5 (x:Charge):zhb x x=true:=by simp[zhb,zba]
theorem zny (x:Rule):znx x x=true:=by simp[znx,zba]
theorem znw (x:Move):znv x x=true:=by simp[znv,zba]
theorem z0b {c:Circ} (hs:Short c):zae ztw (0,c,c,())=some (.inl (c,c,())):=by
 have h:=zat (step:=ztw) (fun i=>((i:Int),c,c,())) c.Items (fun _ _=>true) (.inr (false,())) (.inl (c,c,())) hs.items
  (by simp only[ztw,dge,cond_false])
  (fun i x hx=>by
   have hi:=(List.getElem?_eq_some_iff.1 hx).1
   have:=hs.items
   simp only[ztw,dlt hi,zak,hx,cond_true,zns,Bool.not_true,cond_false,zar (show i<9223372036854775807 by omega)])
 rw[show zae ztw (0,c,c,())=_ from h,zax]
 rw[zck];rfl
theorem ztq {c:Circ} (hs:Short c):zae zke (0,c,c,())=some (.inl (c,c,())):=by
 have h:=zat (step:=zke) (fun i=>((i:Int),c,c,())) c.Patrons (fun _ _=>true) (.inr (false,())) (.inl (c,c,())) hs.patrons
  (by simp only[zke,dge,cond_false])
  (fun i x hx=>by
   have hi:=(List.getElem?_eq_some_iff.1 hx).1
   have:=hs.patrons
   simp only[zke,dlt hi,zak,hx,cond_true,zi7,Bool.not_true,cond_false,zar (show i<9223372036854775807 by omega)])
 rw[show zae zke (0,c,c,())=_ from h,zax]
 rw[zck];rfl
theorem ztr {c:Circ} (hs:Short c):zae zkf (0,c,c,())=some (.inl (c,c,())):=by
 have h:=zat (step:=zkf) (fun i=>((i:Int),c,c,())) c.Loans (fun _ _=>true) (.inr (false,())) (.inl (c,c,())) hs.loans
  (by simp only[zkf,dge,cond_false])
  (fun i x hx=>by
   have hi:=(List.getElem?_eq_some_iff.1 hx).1
   have:=hs.loans
   simp only[zkf,dlt hi,zak,hx,cond_true,znu,Bool.not_true,cond_false,zar (show i<9223372036854775807 by omega)])
 rw[show zae zkf (0,c,c,())=_ from h,zax]
 rw[zck];rfl
theorem zts {c:Circ} (hs:Short c):zae zkg (0,c,c,())=some (.inl (c,c,())):=by
 have h:=zat (step:=zkg) (fun i=>((i:Int),c,c,())) c.Holds (fun _ _=>true) (.inr (false,())) (.inl (c,c,())) hs.holds
  (by simp only[zkg,dge,cond_false])
  (fun i x hx=>by
   have hi:=(List.getElem?_eq_some_iff.1 hx).1
   have:=hs.holds
   simp only[zkg,dlt hi,zak,hx,cond_true,znq,Bool.not_true,cond_false,zar (show i<9223372036854775807 by omega)])
 rw[show zae zkg (0,c,c,())=_ from h,zax]
 rw[zck];rfl
theorem ztt {c:Circ} (hs:Short c):zae zkh (0,c,c,())=some (.inl (c,c,())):=by
 have h:=zat (step:=zkh) (fun i=>((i:Int),c,c,())) c.Charges (fun _ _=>true) (.inr (false,())) (.inl (c,c,())) hs.charges
  (by simp only[zkh,dge,cond_false])
  (fun i x hx=>by
   have hi:=(List.getElem?_eq_some_iff.1 hx).1
   have:=hs.charges
   simp only[zkh,dlt hi,zak,hx,cond_true,zi5,Bool.not_true,cond_false,zar (show i<9223372036854775807 by omega)])
 rw[show zae zkh (0,c,c,())=_ from h,zax]
 rw[zck];rfl
theorem ztu {c:Circ} (hs:Short c):zae zki (0,c,c,())=some (.inl (c,c,())):=by
 have h:=zat (step:=zki) (fun i=>((i:Int),c,c,())) c.Rules (fun _ _=>true) (.inr (false,())) (.inl (c,c,())) hs.rules
  (by simp only[zki,dge,cond_false])
  (fun i x hx=>by
   have hi:=(List.getElem?_eq_some_iff.1 hx).1
   have:=hs.rules
   simp only[zki,dlt hi,zak,hx,cond_true,zny,Bool.not_true,cond_false,zar (show i<9223372036854775807 by omega)])
 rw[show zae zki (0,c,c,())=_ from h,zax]
 rw[zck];rfl
theorem ztv {c:Circ} (hs:Short c):zae zkj (0,c,c,())=some (.inl (c,c,())):=by
 have h:=zat (step:=zkj) (fun i=>((i:Int),c,c,())) c.Moves (fun _ _=>true) (.inr (false,())) (.inl (c,c,())) hs.moves
  (by simp only[zkj,dge,cond_false])
  (fun i x hx=>by
   have hi:=(List.getElem?_eq_some_iff.1 hx).1
   have:=hs.moves
   simp only[zkj,dlt hi,zak,hx,cond_true,znw,Bool.not_true,cond_false,zar (show i<9223372036854775807 by omega)])
 rw[show zae zkj (0,c,c,())=_ from h,zax]
 rw[zck];rfl
theorem zt2 {c:Circ} (hs:Short c):zae zdy (0,0,c,c,())=some (.inl (0,c,c,())):=by
 have st:∀k:Int,zdy (0,k,c,c,())=(bif decide (k<(c.Cals.x0.Closed.length:Int)) then (match getI c.Cals.x0.Closed k with|some x=>(match getI c.Cals.x0.Closed k with|some y=>(bif !(x==y) then some (.inr (.inr (false,()))) else some (.inl (0,wr .i64 (k+1),c,c,())))|none=>none)|none=>none) else some (.inr (.inl (0,c,c,())))):=fun k=>rfl
 have h:=zat (step:=zdy) (fun k=>(0,(k:Int),c,c,())) c.Cals.x0.Closed (fun _ _=>true) (.inr (false,())) (.inl (0,c,c,())) hs.cal0
  (by rw[st];simp only[dge,cond_false])
  (fun k x hx=>by
   have hi:=(List.getElem?_eq_some_iff.1 hx).1
   have:=hs.cal0
   rw[st]
   simp only[dlt hi,zak,hx,cond_true,beq_self_eq_true,Bool.not_true,cond_false,zar (show k<9223372036854775807 by omega)])
 rw[show zae zdy (0,0,c,c,())=_ from h,zax]
 rw[zck];rfl
theorem zaff {c:Circ} (hs:Short c):zh9 (0,c,c,())=some (.inl (1,c,c,())):=by
 have st:zh9 (0,c,c,())=(bif !(c.Cals.x0.Week==c.Cals.x0.Week) then some (.inr (.inr (false,()))) else bif !((c.Cals.x0.Closed.length:Int)==(c.Cals.x0.Closed.length:Int)) then some (.inr (.inr (false,()))) else
  match zae zdy (0,0,c,c,()) with
  |some (.inl (i,a,b,_))=>some (.inl (wr .i64 (i+1),a,b,()))
  |some (.inr (v,_))=>some (.inr (.inr (v,())))
  |none=>none):=by
  show (bif !(c.Cals.x0.Week==c.Cals.x0.Week) then _ else _)=_
  cases (!(c.Cals.x0.Week==c.Cals.x0.Week))<;>rfl
 rw[st,zt2 hs]
 simp only[beq_self_eq_true,Bool.not_true,cond_false]
 try rfl
theorem zt3 {c:Circ} (hs:Short c):zae zdy (1,0,c,c,())=some (.inl (1,c,c,())):=by
 have st:∀k:Int,zdy (1,k,c,c,())=(bif decide (k<(c.Cals.x1.Closed.length:Int)) then (match getI c.Cals.x1.Closed k with|some x=>(match getI c.Cals.x1.Closed k with|some y=>(bif !(x==y) then some (.inr (.inr (false,()))) else some (.inl (1,wr .i64 (k+1),c,c,())))|none=>none)|none=>none) else some (.inr (.inl (1,c,c,())))):=fun k=>rfl
 have h:=zat (step:=zdy) (fun k=>(1,(k:Int),c,c,())) c.Cals.x1.Closed (fun _ _=>true) (.inr (false,())) (.inl (1,c,c,())) hs.cal1
  (by rw[st];simp only[dge,cond_false])
  (fun k x hx=>by
   have hi:=(List.getElem?_eq_some_iff.1 hx).1
   have:=hs.cal1
   rw[st]
   simp only[dlt hi,zak,hx,cond_true,beq_self_eq_true,Bool.not_true,cond_false,zar (show k<9223372036854775807 by omega)])
 rw[show zae zdy (1,0,c,c,())=_ from h,zax]
 rw[zck];rfl
theorem zafg {c:Circ} (hs:Short c):zh9 (1,c,c,())=some (.inl (2,c,c,())):=by
 have st:zh9 (1,c,c,())=(bif !(c.Cals.x1.Week==c.Cals.x1.Week) then some (.inr (.inr (false,()))) else bif !((c.Cals.x1.Closed.length:Int)==(c.Cals.x1.Closed.length:Int)) then some (.inr (.inr (false,()))) else
  match zae zdy (1,0,c,c,()) with
  |some (.inl (i,a,b,_))=>some (.inl (wr .i64 (i+1),a,b,()))
  |some (.inr (v,_))=>some (.inr (.inr (v,())))
  |none=>none):=by
  show (bif !(c.Cals.x1.Week==c.Cals.x1.Week) then _ else _)=_
  cases (!(c.Cals.x1.Week==c.Cals.x1.Week))<;>rfl
 rw[st,zt3 hs]
 simp only[beq_self_eq_true,Bool.not_true,cond_false]
 try rfl
theorem zt4 {c:Circ} (hs:Short c):zae zdy (2,0,c,c,())=some (.inl (2,c,c,())):=by
 have st:∀k:Int,zdy (2,k,c,c,())=(bif decide (k<(c.Cals.x2.Closed.length:Int)) then (match getI c.Cals.x2.Closed k with|some x=>(match getI c.Cals.x2.Closed k with|some y=>(bif !(x==y) then some (.inr (.inr (false,()))) else some (.inl (2,wr .i64 (k+1),c,c,())))|none=>none)|none=>none) else some (.inr (.inl (2,c,c,())))):=fun k=>rfl
 have h:=zat (step:=zdy) (fun k=>(2,(k:Int),c,c,())) c.Cals.x2.Closed (fun _ _=>true) (.inr (false,())) (.inl (2,c,c,())) hs.cal2
  (by rw[st];simp only[dge,cond_false])
  (fun k x hx=>by
   have hi:=(List.getElem?_eq_some_iff.1 hx).1
   have:=hs.cal2
   rw[st]
   simp only[dlt hi,zak,hx,cond_true,beq_self_eq_true,Bool.not_true,cond_false,zar (show k<9223372036854775807 by omega)])
 rw[show zae zdy (2,0,c,c,())=_ from h,zax]
 rw[zck];rfl
theorem zafh {c:Circ} (hs:Short c):zh9 (2,c,c,())=some (.inl (3,c,c,())):=by
 have st:zh9 (2,c,c,())=(bif !(c.Cals.x2.Week==c.Cals.x2.Week) then some (.inr (.inr (false,()))) else bif !((c.Cals.x2.Closed.length:Int)==(c.Cals.x2.Closed.length:Int)) then some (.inr (.inr (false,()))) else
  match zae zdy (2,0,c,c,()) with
  |some (.inl (i,a,b,_))=>some (.inl (wr .i64 (i+1),a,b,()))
  |some (.inr (v,_))=>some (.inr (.inr (v,())))
  |none=>none):=by
  show (bif !(c.Cals.x2.Week==c.Cals.x2.Week) then _ else _)=_
  cases (!(c.Cals.x2.Week==c.Cals.x2.Week))<;>rfl
 rw[st,zt4 hs]
 simp only[beq_self_eq_true,Bool.not_true,cond_false]
 try rfl
theorem zt5 {c:Circ} (hs:Short c):zae zdy (3,0,c,c,())=some (.inl (3,c,c,())):=by
 have st:∀k:Int,zdy (3,k,c,c,())=(bif decide (k<(c.Cals.x3.Closed.length:Int)) then (match getI c.Cals.x3.Closed k with|some x=>(match getI c.Cals.x3.Closed k with|some y=>(bif !(x==y) then some (.inr (.inr (false,()))) else some (.inl (3,wr .i64 (k+1),c,c,())))|none=>none)|none=>none) else some (.inr (.inl (3,c,c,())))):=fun k=>rfl
 have h:=zat (step:=zdy) (fun k=>(3,(k:Int),c,c,())) c.Cals.x3.Closed (fun _ _=>true) (.inr (false,())) (.inl (3,c,c,())) hs.cal3
  (by rw[st];simp only[dge,cond_false])
  (fun k x hx=>by
   have hi:=(List.getElem?_eq_some_iff.1 hx).1
   have:=hs.cal3
   rw[st]
   simp only[dlt hi,zak,hx,cond_true,beq_self_eq_true,Bool.not_true,cond_false,zar (show k<9223372036854775807 by omega)])
 rw[show zae zdy (3,0,c,c,())=_ from h,zax]
 rw[zck];rfl
theorem zafi {c:Circ} (hs:Short c):zh9 (3,c,c,())=some (.inl (4,c,c,())):=by
 have st:zh9 (3,c,c,())=(bif !(c.Cals.x3.Week==c.Cals.x3.Week) then some (.inr (.inr (false,()))) else bif !((c.Cals.x3.Closed.length:Int)==(c.Cals.x3.Closed.length:Int)) then some (.inr (.inr (false,()))) else
  match zae zdy (3,0,c,c,()) with
  |some (.inl (i,a,b,_))=>some (.inl (wr .i64 (i+1),a,b,()))
  |some (.inr (v,_))=>some (.inr (.inr (v,())))
  |none=>none):=by
  show (bif !(c.Cals.x3.Week==c.Cals.x3.Week) then _ else _)=_
  cases (!(c.Cals.x3.Week==c.Cals.x3.Week))<;>rfl
 rw[st,zt5 hs]
 simp only[beq_self_eq_true,Bool.not_true,cond_false]
 try rfl
theorem zar7 {c:Circ} (hs:Short c):qw c c=some true:=by
 have s4:zh9 (4,c,c,())=some (.inr (.inl ())):=rfl
 have h:zae zh9 (0,c,c,())=some (.inl ()):=by
  refine zey 5 (by rw[zg5];omega) ?_
  simp only[zcr,zaff hs,zafg hs,zafh hs,zafi hs,s4]
 unfold qw
 rw[h]
theorem zar2 {c:Circ} (hs:Short c):qd c c=some true:=by
 unfold qd
 simp -zeta only[k_or,beq_self_eq_true,Bool.not_true,Bool.or_false]
 dsimp only
 simp only[z0b hs,ztq hs,ztr hs,zts hs,ztt hs,ztu hs,ztv hs,zar7 hs,Bool.or_false,cond_false]
end Go.Proofs.YtpaidiaknfhclaaGreatDoor
namespace Go.Proofs.YtpaidiaknfhclaaGreatDoor
open Ev
open Go (IntKind)
theorem zji {n m:Nat} (h:n+m≤1000000100):decide (n+m≤LIM)=true:=by rw[decide_eq_true_eq];unfold LIM;omega
theorem znd {X:Type} {s:List X} (h:s.length<1000000000):decide (([]:List X).length+s.length≤LIM)=true:=zji (by simp;omega)
def zbm:Circ:=⟨0,[],[],[],[],[],[],⟨⟨0,[]⟩,⟨0,[]⟩,⟨0,[]⟩,⟨0,[]⟩⟩,[],0,0,false⟩
theorem zrp:Short zbm:=by
 constructor<;>first|(show (0:Nat)<_;decide)|(intro x hx;cases hx)
end Go.Proofs.YtpaidiaknfhclaaGreatDoor
namespace Go.Proofs.YtpaidiaknfhclaaGreatDoor
open Ev
open Go (IntKind)
def owed (p:Int):List Charge→Int
 | []=>0
 |x::l=>(bif x.Patron==p then x.Amount-x.Paid else 0)+owed p l
end Go.Proofs.YtpaidiaknfhclaaGreatDoor
namespace Go.Proofs.YtpaidiaknfhclaaGreatDoor
open Ev
open Go (IntKind)
end Go.Proofs.YtpaidiaknfhclaaGreatDoor
namespace Go.Proofs.YtpaidiaknfhclaaGreatDoor
open Ev
open Go (IntKind)
def calS (c:Circ) (b:Int):Calendar:=bif b==1 then c.Cals.x0 else bif b==2 then c.Cals.x1 else bif b==3 then c.Cals.x2 else c.Cals.x3
end Go.Proofs.YtpaidiaknfhclaaGreatDoor
namespace Go.Proofs.YtpaidiaknfhclaaGreatDoor
open Ev
open Go (IntKind)
end Go.Proofs.YtpaidiaknfhclaaGreatDoor
namespace Go.Proofs.YtpaidiaknfhclaaGreatDoor
open Ev
open Go (IntKind)
structure CalOk (c:Calendar):Prop where
 w1:0≤c.Week
 w2:c.Week≤126
 len:c.Closed.length<1000000000
 inc:incr c.Closed=true
theorem zaay {c:Calendar} (h:(zca c==0)=true):CalOk c:=by
 have h:zca c=0:=by simpa using h
 unfold zca at h
 have h1:=zc9 h (by decide)
 rw[h1]at h
 simp only[cond_false]at h
 have h2:=zc9 h (by decide)
 rw[h2]at h
 simp only[cond_false]at h
 simp only[Bool.or_eq_false_iff,decide_eq_false_iff_not]at h1 h2
 cases h3:c.Closed.all (fun x=>!(decide (x<0)||decide (109572<x))) with
 |false=>rw[h3]at h;cases h
 |true=>
  rw[h3]at h
  cases h4:incr c.Closed with
  |false=>rw[h4]at h;cases h
  |true=>exact ⟨by omega,by omega,by omega,h4⟩
end Go.Proofs.YtpaidiaknfhclaaGreatDoor
namespace Go.Proofs.YtpaidiaknfhclaaGreatDoor
open Ev
open Go (IntKind)
end Go.Proofs.YtpaidiaknfhclaaGreatDoor
namespace Go.Proofs.YtpaidiaknfhclaaGreatDoor
open Ev
open Go (IntKind)
theorem zn6 {l:List Loan} {item:Int} (hl:l.length<1000000000):qb2 (fun (g:Unit×Int×Unit) x0=>qcc x0 g.2.1) l ((),(item,())) =
 some (match l.find? (fun n=>n.Item==item) with|some x=>(x,fIdx (fun n=>n.Item==item) l)|none=>((⟨0,0,0,0,0,false⟩:Loan),-1)):=by
 unfold qb2
 rw[zajp (p:=fun (g:Unit×Int×Unit) x0=>qcc x0 g.2.1) (g:=((),(item,()))) (fun x=>x.Item==item) hl (fun x _=>rfl)]
 rcases zb6 (fun x:Loan=>x.Item==item) l with ⟨h1,h2⟩|⟨i,x,h1,h2,h3,h4⟩
 ·simp only[h1,h2,zps,cond_true]
 ·simp only[h1,h4,zlc,cond_false,zak,h2]
def zi2 (c:Circ) (l:List Loan):Circ:=⟨c.Today,c.Items,c.Patrons,l,c.Holds,c.Charges,c.Rules,c.Cals,c.Moves,c.NextHold,c.NextCharge,c.Local⟩
end Go.Proofs.YtpaidiaknfhclaaGreatDoor
namespace Go.Proofs.YtpaidiaknfhclaaGreatDoor
open Ev
open Go (IntKind)
structure FitP (c:Circ):Prop where
 charges:zek c.Charges=0
 loans:zgx c.Loans=0
 holds:zdi c.Holds=0
 rules:zfu c.Rules=0
 patrons:zet c.Patrons=0
 cal0:CalOk c.Cals.x0
 cal1:CalOk c.Cals.x1
 cal2:CalOk c.Cals.x2
 cal3:CalOk c.Cals.x3
 items:zgw c=true
 loanG:∀n∈c.Loans,zfs c n=true
 itemG:∀x∈c.Items,(zf4 c.Loans x.ID).2=zon x.Custody
 holdG:∀h∈c.Holds,zgr c h=true
 readyG:∀x∈c.Items,zfl c x=true
 nums:zoj c=true
theorem fitP {c:Circ} (h:zmu c=true):FitP c:=by
 unfold zmu at h
 rw[zp6]at h
 simp only[Bool.and_eq_true]at h
 obtain ⟨h1,h2,h3,h4,h5,h6,h7⟩:=h
 unfold zjj at h2
 simp only[Bool.not_eq_true',Bool.or_eq_false_iff,Bool.not_eq_false',beq_iff_eq]at h2
 unfold zgf at h3
 simp only[Bool.and_eq_true]at h3
 unfold zfi at h6
 unfold zfg at h7
 simp only[Bool.and_eq_true,List.all_eq_true,beq_iff_eq]at h6 h7
 exact ⟨h2.1.2,h2.1.1.1.2,h2.1.1.2,h2.2,h2.1.1.1.1,zaay h3.1,zaay h3.2.1,zaay h3.2.2.1,zaay h3.2.2.2,h5,h6.1,h6.2,h7.1,h7.2,h1⟩
theorem zalb {c:Circ} (h:FitP c) (b:Int):CalOk (calS c b):=by
 unfold calS
 cases b==1 with
 |true=>exact h.cal0
 |false=>
  cases b==2 with
  |true=>exact h.cal1
  |false=>
   cases b==3 with
   |true=>exact h.cal2
   |false=>exact h.cal3
theorem zar8 {c:Circ} (h:FitP c) {r:Rule} (hr:r∈c.Rules):zmv r=true:=by
 have h:=h.rules
 unfold zfu at h
 rw[zc9 h (by decide)]at h
 obtain ⟨i,hi⟩:=List.getElem?_of_mem hr
 have:=zi8 (k:=0) h i r hi
 rw[Nat.zero_add]at this
 unfold zga at this
 have:=zc9 this (by decide)
 simpa using this
def zez (c:Custody):Prop:=rng 1 4 c.Branch=true
theorem zry {c:Custody} (h:zkl c=true):zez c:=by
 unfold zkl at h
 unfold zez
 cases hq:(decide (c.State<1)||decide (12<c.State)||decide (c.Branch<1)||decide (4<c.Branch)) with
 |true=>rw[hq]at h;cases h
 |false=>
  simp only[Bool.or_eq_false_iff,decide_eq_false_iff_not]at hq
  rw[zed];omega
theorem zox {m:Move} (h:zoo m=true):rng 1 4 m.Branch=true:=by
 unfold zoo at h
 simp only[Bool.and_eq_true,decide_eq_true_eq]at h
 rw[zed];omega
theorem zgd {c:Custody} {m:Move} (h:((za5 c m).2==0)=true):zez (za5 c m).1:=by
 unfold za5 at h ⊢
 cases e1:(!(zkl c)||!(zoo m)) with
 |true=>rw[e1]at h;cases h
 |false=>
  have e0:=e1
  simp only[Bool.or_eq_false_iff,Bool.not_eq_false']at e0
  have b1:=zry e0.1
  have b2:=zox e0.2
  rw[e1]at h
  simp only[cond_false]at h ⊢
  cases e2:!(zlq c.State m.Kind) with
  |true=>rw[e2]at h;cases h
  |false=>
   rw[e2]at h
   simp only[cond_false]at h ⊢
   cases e3:(m.Kind==3&&c.State==5&&!(m.Who==c.Who)) with
   |true=>rw[e3]at h;cases h
   |false=>
    rw[e3]at h
    simp only[cond_false]at h ⊢
    cases e4:!(zafd c m) with
    |true=>rw[e4]at h;cases h
    |false=>
     simp only[cond_false]
     cases (zec m.Kind==2) with
     |true=>exact b2
     |false=>
      simp only[cond_false]
      cases (zec m.Kind==4||(zec m.Kind==5||zec m.Kind==8)) with
      |true=>exact b1
      |false=>
       simp only[cond_false]
       cases e5:(zec m.Kind==6) with
       |true=>exact b1
       |false=>
        simp only[cond_false]
        cases (zec m.Kind==9||zec m.Kind==10) with
        |true=>exact b1
        |false=>exact b1
theorem zlj:∀{l:List Move} {i:Nat} {item:Int} {c d:Custody},zez c→zc0 i l item c=.inl d→zez d:=by
 intro l
 induction l with
 |nil=>intro i item c d hc h;simp only[zc0]at h;cases h;exact hc
 |cons x l ih=>
  intro i item c d hc h
  simp only[zc0]at h
  cases e:x.Item==item with
  |false=>rw[e]at h;exact ih hc h
  |true=>
   rw[e]at h
   simp only[cond_true]at h
   cases e2:(za5 c x).2==0 with
   |true=>rw[e2]at h;exact ih (zgd e2) h
   |false=>rw[e2]at h;cases h
theorem zkq {c:Circ} {x:Item} (h:zcn c x=true):zez x.Custody:=by
 unfold zcn at h
 simp only[Bool.not_eq_true',Bool.or_eq_false_iff,Bool.not_eq_false',beq_iff_eq]at h
 obtain ⟨h1,h2⟩:=h
 have e:=zi6.1 h2
 rw[←e]
 unfold zdv at h1 ⊢
 cases hb:(decide (x.Branch<1)||decide (4<x.Branch)) with
 |true=>rw[hb]at h1;cases h1
 |false=>
  rw[hb]at h1
  simp only[cond_false]at h1 ⊢
  have hb2:zez (ztx x.Branch):=by
   simp only[Bool.or_eq_false_iff,decide_eq_false_iff_not]at hb
   show rng 1 4 x.Branch=true
   rw[zed];omega
  cases hr:zc0 0 c.Moves x.ID (ztx x.Branch) with
  |inl d=>exact zlj hb2 hr
  |inr p=>
   rw[hr]at h1
   exfalso
   obtain ⟨i,e⟩:=p
   simp only at h1
   have key:∀(l:List Move) (i:Nat) (c:Custody) (p:Int×Int),zc0 i l x.ID c=.inr p→p.2≠0:=by
    intro l
    induction l with
    |nil=>intro i c p h;simp only[zc0]at h;cases h
    |cons y l ih=>
     intro i c p h
     simp only[zc0]at h
     cases e:y.Item==x.ID with
     |false=>rw[e]at h;exact ih _ _ _ h
     |true=>
      rw[e]at h
      simp only[cond_true]at h
      cases e2:(za5 c y).2==0 with
      |true=>rw[e2]at h;exact ih _ _ _ h
      |false=>rw[e2]at h;cases h;simpa using e2
   exact key _ _ _ _ hr h1
theorem zy6 {c:Circ} (h:FitP c) {x:Item} (hx:x∈c.Items):rng 1 4 x.Custody.Branch=true:=zkq (zp7 h.items hx)
theorem zzs {c:Circ} (h:FitP c) {n:Loan} (hn:n∈c.Loans):∃x p,c.Items.find? (fun x=>x.ID==n.Item)=some x∧x∈c.Items∧x.ID=n.Item∧getP c.Patrons n.Patron=(p,true)∧p.ID=n.Patron∧zon x.Custody=true∧x.Custody.Who=n.Patron:=by
 have hg:=h.loanG n hn
 unfold zfs at hg
 cases hf:c.Items.find? (fun x=>x.ID==n.Item) with
 |none=>rw[hf]at hg;cases hg
 |some x=>
  rw[hf]at hg
  simp only[Bool.not_eq_true',Bool.or_eq_false_iff,Bool.not_eq_false',beq_iff_eq]at hg
  obtain ⟨⟨g1,g2⟩,g3⟩:=hg
  unfold getP at g1 ⊢
  cases hp:c.Patrons.find? (fun p=>p.ID==n.Patron) with
  |none=>rw[hp]at g1;cases g1
  |some p=>exact ⟨x,p,rfl,List.mem_of_find?_eq_some hf,by have:=List.find?_some hf;simpa using this,rfl,by have:=List.find?_some hp;simpa using this,g2,g3⟩
end Go.Proofs.YtpaidiaknfhclaaGreatDoor
namespace Go.Proofs.YtpaidiaknfhclaaGreatDoor
open Ev
open Go (IntKind)
end Go.Proofs.YtpaidiaknfhclaaGreatDoor
namespace Go.Proofs.YtpaidiaknfhclaaGreatDoor
open Ev
open Go (IntKind)
end Go.Proofs.YtpaidiaknfhclaaGreatDoor
namespace Go.Proofs.YtpaidiaknfhclaaGreatDoor
open Ev
open Go (IntKind)
def zay3:Loan:=⟨0,0,0,0,0,false⟩
end Go.Proofs.YtpaidiaknfhclaaGreatDoor
namespace Go.Proofs.YtpaidiaknfhclaaGreatDoor
open Ev
open Go (IntKind)
section
variable {γ:Type} {p:γ→Hold→Hold→Option Int} {g:γ} {lt:Hold→Hold→Bool}
end
end Go.Proofs.YtpaidiaknfhclaaGreatDoor
namespace Go.Proofs.YtpaidiaknfhclaaGreatDoor
open Ev
open Go (IntKind)
end Go.Proofs.YtpaidiaknfhclaaGreatDoor
namespace Go.Proofs.YtpaidiaknfhclaaGreatDoor
open Ev
open Go (IntKind)
end Go.Proofs.YtpaidiaknfhclaaGreatDoor
namespace Go.Proofs.YtpaidiaknfhclaaGreatDoor
open Ev
open Go (IntKind)
theorem zy9 {c:Circ} (h:FitP c) {o:Hold} (ho:o∈c.Holds):rng 0 9 o.Rank=true∧o.ID≠0:=by
 have:=zza h.holds ho
 unfold zbu at this
 have:=zc9 this (by decide)
 simp only[Bool.or_eq_false_iff,decide_eq_false_iff_not]at this
 obtain ⟨⟨hx,h1⟩,h2⟩:=this
 refine ⟨by rw[zed];omega,?_⟩
 have:=hx.1.1.1.1.1.1.1.1.1.1
 omega
structure MidW (c:Circ):Prop where
 short:Short c
 moves:c.Moves.length≤2000
 holds:c.Holds.length≤64
 loans:c.Loans.length≤64
 few:∀r,(c.Holds.filter (fun o=>o.Record==r)).length<20
theorem SmallP.w {c:Circ} (h:SmallP c):MidW c:=by
 have h1:=h.moves
 have h2:=h.holds
 have h3:=h.loans
 exact ⟨h.short,by omega,by omega,by omega,fun r=>by have:=List.length_filter_le (fun o:Hold=>o.Record==r) c.Holds;omega⟩
end Go.Proofs.YtpaidiaknfhclaaGreatDoor
namespace Go.Proofs.YtpaidiaknfhclaaGreatDoor
open Ev
open Go (IntKind)
end Go.Proofs.YtpaidiaknfhclaaGreatDoor
namespace Go.Proofs.YtpaidiaknfhclaaGreatDoor
open Ev
open Go (IntKind)
end Go.Proofs.YtpaidiaknfhclaaGreatDoor
namespace Go.Proofs.YtpaidiaknfhclaaGreatDoor
open Ev
open Go (IntKind)
def zlm {X:Type} (i:Int) (upd:X→X):Nat→List X→List X
 |_,[]=>[]
 |k,x::l=>(bif (k:Int)==i then upd x else x)::zlm i upd (k+1) l
theorem z0s {X:Type} {i:Nat} {upd:X→X}:∀{l:List X} {k:Nat},i<k→zlm (i:Int) upd k l=l:=by
 intro l
 induction l with
 |nil=>intros;rfl
 |cons x l ih=>
  intro k h
  have:((k:Int)==(i:Int))=false:=by
   have hne:¬(k:Int)=(i:Int):=by omega
   simpa using hne
  simp only[zlm,this,cond_false]
  rw[ih (by omega)]
theorem z99 {X:Type} {upd:X→X} {x:X}:∀{l:List X} {k j:Nat},l[j]?=some x→zlm ((k+j:Nat):Int) upd k l=l.set j (upd x):=by
 intro l
 induction l with
 |nil=>intro k j h;simp at h
 |cons y l ih=>
  intro k j h
  cases j with
  |zero=>
   simp at h
   subst h
   have:((k:Int)==((k+0:Nat):Int))=true:=by simp
   simp only[zlm,this,cond_true,List.set_cons_zero]
   rw[z0s (by omega)]
  |succ j=>
   have hne:((k:Int)==((k+(j+1):Nat):Int))=false:=by
    have:¬(k:Int)=((k+(j+1):Nat):Int):=by omega
    simpa using this
   simp only[zlm,hne,cond_false,List.set_cons_succ]
   have:=ih (k:=k+1) (j:=j) (by simpa using h)
   rw[show k+1+j=k+(j+1) by omega]at this
   rw[this]
theorem z7k {X β:Type} {i:Int} {upd:X→X} {g:List X→β}:∀{l:List X} {k:Nat} {s:List X},ze4 (fun (k:Nat) x (s:List X)=>.inl (s++[bif (k:Int)==i then upd x else x])) g k l s=g (s++zlm i upd k l):=by
 intro l
 induction l with
 |nil=>intro k s;simp[ze4,zlm]
 |cons x l ih=>intro k s;simp only[ze4,zlm];rw[ih];simp
def zur (u:Custody) (x:Item):Item:=⟨x.ID,x.Record,x.Branch,x.Kind,x.Price,x.Call,u⟩
def zhk (c:Circ) (i:Nat) (x:Item) (m:Move) (u:Custody):Circ:=⟨c.Today,c.Items.set i (zur u x),c.Patrons,c.Loans,c.Holds,c.Charges,c.Rules,c.Cals,c.Moves++[m],c.NextHold,c.NextCharge,c.Local⟩
def zh8 (c:Circ) (e:Int):Int:=bif e==0&&decide (2000≤(c.Moves.length:Int)) then 13 else e
theorem zhv {c:Circ} {i:Nat} {x:Item} {kind branch who:Int} (hs:Short c) (hm:c.Moves.length<100000000) (hx:c.Items[i]?=some x) :
 qbg (i:Int) kind branch who ⟨c,0⟩=some ((),bif zh8 c (za5 x.Custody ⟨c.Today,x.ID,kind,branch,who⟩).2==0 then ⟨zhk c i x ⟨c.Today,x.ID,kind,branch,who⟩ (za5 x.Custody ⟨c.Today,x.ID,kind,branch,who⟩).1,0⟩ else ⟨c,zh8 c (za5 x.Custody ⟨c.Today,x.ID,kind,branch,who⟩).2⟩):=by
 have hc1:qcj c.Items=some c.Items:=by unfold qcj;rw[znd hs.items];rfl
 have hc2:qdi c.Moves=some c.Moves:=by unfold qdi;rw[znd hs.moves];rfl
 have l1:decide (c.Moves.length+([(⟨c.Today,x.ID,kind,branch,who⟩:Move)]:List Move).length≤LIM)=true:=zji (by simp;omega)
 unfold qbg zh8
 simp -zeta only[beq_self_eq_true,Bool.not_true,cond_false,zak,hx,zazm,zbk]
 generalize za5 x.Custody ⟨c.Today,x.ID,kind,branch,who⟩=q
 obtain ⟨u,e⟩:=q
 dsimp only
 cases hb:(e==0&&decide (2000≤(c.Moves.length:Int))) with
 |true=>
  simp only[cond_true,qu,beq_self_eq_true]
  try rfl
 |false=>
  simp only[cond_false]
  cases he:e==0 with
  |true=>
   have:e=0:=by simpa using he
   subst this
   simp only[Bool.not_true,cond_false,cond_true,hc1,hc2,zak,hx,Int.toNat_natCast,l1]
   try rfl
  |false=>
   simp only[Bool.not_false,cond_true,cond_false,qu,beq_self_eq_true]
theorem ztp {c:Circ} {i:Nat} {m:Move} {u:Custody} (hs:Short c):zae zf8 ((i:Int),0,c,zbm,m,u,[],())=some (c,zbm,m,zlm (i:Int) (zur u) 0 c.Items,()):=by
 have h:=zd6 (step:=zf8) (fun (k:Nat) (s:List Item)=>s.length≤k) (fun k s=>((i:Int),(k:Int),c,zbm,m,u,s,())) c.Items
  (fun k x s=>.inl (s++[bif (k:Int)==(i:Int) then zur u x else x])) (fun s=>(c,zbm,m,s,())) (by rw[zg5];have:=hs.items;omega)
  (fun s _=>by simp only[zf8,dge,cond_false])
  (fun k x s hx hi=>by
   have hlt:=(List.getElem?_eq_some_iff.1 hx).1
   have:=hs.items
   have l1:∀y:Item,decide (s.length+([y]:List Item).length≤LIM)=true:=fun y=>zji (by simp;omega)
   refine ⟨?_,fun s' hs'=>?_⟩
   ·simp only[zf8,dlt hlt,zak,hx,cond_true,l1,zar (show k<9223372036854775807 by omega)]
    cases (k:Int)==(i:Int)<;>rfl
   ·cases hs'
    simp
    omega) [] (by simp)
 rw[z7k]at h
 exact h
theorem zazj {c:Circ} {item:Int} {i:Nat} {x:Item} {kind branch who:Int} (hs:Short c) (hm:c.Moves.length<100000000) (hat:qp c item=some (i:Int)) (hx:c.Items[i]?=some x) (hid:x.ID=item) :
 qbc c item kind branch who=some (bif zh8 c (za5 x.Custody ⟨c.Today,x.ID,kind,branch,who⟩).2==0 then (zhk c i x ⟨c.Today,x.ID,kind,branch,who⟩ (za5 x.Custody ⟨c.Today,x.ID,kind,branch,who⟩).1,0) else (zbm,zh8 c (za5 x.Custody ⟨c.Today,x.ID,kind,branch,who⟩).2)):=by
 subst hid
 unfold qbc zh8
 rw[hat]
 simp only[zak,hx,zajh]
 generalize za5 x.Custody ⟨c.Today,x.ID,kind,branch,who⟩=q
 obtain ⟨u,e⟩:=q
 simp only
 cases he:e==0 with
 |false=>simp only[Bool.not_false,cond_true,Bool.false_and,cond_false,he];rfl
 |true=>
  have:e=0:=by simpa using he
  subst this
  simp only[Bool.not_true,cond_false,Bool.true_and]
  cases decide (2000≤(c.Moves.length:Int)) with
  |true=>rfl
  |false=>
   have hw:=ztp (i:=i) (m:=⟨c.Today,x.ID,kind,branch,who⟩) (u:=u) hs
   have l1:decide (c.Moves.length≤LIM)=true:=by rw[decide_eq_true_eq];unfold LIM;omega
   have l2:decide (c.Moves.length+([(⟨c.Today,x.ID,kind,branch,who⟩:Move)]:List Move).length≤LIM)=true:=zji (by simp;omega)
   have es:=z99 (upd:=zur u) (l:=c.Items) (k:=0) (j:=i) hx
   rw[Nat.zero_add]at es
   rw[es]at hw
   simp only[cond_false]
   rw[show zae zf8 ((i:Int),0,c,(⟨0,[],[],[],[],[],[],⟨⟨0,[]⟩,⟨0,[]⟩,⟨0,[]⟩,⟨0,[]⟩⟩,[],0,0,false⟩:Circ),(⟨c.Today,x.ID,kind,branch,who⟩:Move),u,([]:List Item),())=_ from hw]
   simp only[l1,l2,cond_true]
   try rfl
end Go.Proofs.YtpaidiaknfhclaaGreatDoor
namespace Go.Proofs.YtpaidiaknfhclaaGreatDoor
open Ev
open Go (IntKind)
end Go.Proofs.YtpaidiaknfhclaaGreatDoor
namespace Go.Proofs.YtpaidiaknfhclaaGreatDoor
open Ev
open Go (IntKind)
end Go.Proofs.YtpaidiaknfhclaaGreatDoor
namespace Go.Proofs.YtpaidiaknfhclaaGreatDoor
open Ev
open Go (IntKind)
end Go.Proofs.YtpaidiaknfhclaaGreatDoor
namespace Go.Proofs.YtpaidiaknfhclaaGreatDoor
open Ev
open Go (IntKind)
theorem zf1 (c:Circ) (l:List Loan) (e e0:Int) (h0:e0≠0):qcp l e ⟨c,e0⟩=some ((),⟨zi2 c c.Loans,e0⟩):=by
 have h:(e0==0)=false:=by simpa using h0
 unfold qcp qu
 simp only[h,cond_false]
 cases !(e==0)<;>simp only[cond_true,cond_false,h]<;>rfl
end Go.Proofs.YtpaidiaknfhclaaGreatDoor
namespace Go.Proofs.YtpaidiaknfhclaaGreatDoor
open Ev
open Go (IntKind)
theorem zth {c:Circ} {i:Nat} {x:Item} {m:Move} {u:Custody} (hs:Short c) (hm:c.Moves.length<100000000) (hx:c.Items[i]?=some x):Short (zhk c i x m u):=by
 obtain ⟨h1,h2,h3,h4,h5,h6,h7,h8,h9,h10,h11,h12,h13⟩:=hs
 refine ⟨?_,h2,h3,h4,h5,h6,?_,fun z hz=>?_,h9,h10,h11,h12,h13⟩
 ·show (c.Items.set i _).length<_
  rw[List.length_set];exact h1
 ·show (c.Moves++[m]).length<_
  simp;omega
 ·rcases List.mem_or_eq_of_mem_set hz with h|h
  ·exact h8 z h
  ·rw[h];exact h8 x (List.mem_of_getElem? hx)
end Go.Proofs.YtpaidiaknfhclaaGreatDoor
namespace Go.Proofs.YtpaidiaknfhclaaGreatDoor
open Ev
open Go (IntKind)
theorem zpq {c:Circ} {id:Int} (hs:Short c):qcr id ⟨c,0⟩=some (fIdx (fun x=>x.ID==id) c.Items,⟨c,bif decide (fIdx (fun x=>x.ID==id) c.Items<0) then 9 else 0⟩):=by
 unfold qcr
 simp only[zazb hs.items]
 cases decide (fIdx (fun x:Item=>x.ID==id) c.Items<0)<;>rfl
end Go.Proofs.YtpaidiaknfhclaaGreatDoor
namespace Go.Proofs.YtpaidiaknfhclaaGreatDoor
open Ev
open Go (IntKind)
structure MidP (c:Circ):Prop where
 short:Short c
 moves:c.Moves.length<10000000
 holdsN:c.Holds.length<1000000
 sorted:∀(i:Nat) (x:Hold),c.Holds[i]?=some x→zcc c.Holds i (fun y=>decide (x.ID≤y.ID))=false
 rank:∀o∈c.Holds,rng 0 9 o.Rank=true∧o.ID≠0
 few:∀r,(c.Holds.filter (fun o=>o.Record==r)).length<20
 cal:∀b,CalOk (calS c b)
 rules:∀r∈c.Rules,zmv r=true
 branch:∀x∈c.Items,rng 1 4 x.Custody.Branch=true
 ids:∀(i:Nat) (x:Item) (j:Nat) (y:Item),c.Items[i]?=some x→c.Items[j]?=some y→x.ID=y.ID→i=j
 chN:c.Charges.length<1000000
theorem zaqe {c:Circ} (hm:SmallP c) (h:FitP c):MidP c:=by
 refine ⟨hm.short,by have:=hm.moves;omega,by have:=hm.holds;omega,zpz h.holds,fun o ho=>zy9 h ho,fun r=>?_,zalb h,fun r hr=>zar8 h hr,fun x hx=>zy6 h hx,fun i x j y hx hy e=>?_,by have:=hm.charges;omega⟩
 ·have:=List.length_filter_le (fun o:Hold=>o.Record==r) c.Holds
  have:=hm.holds
  omega
 ·have hs:=zp8 h.items
  rcases Nat.lt_trichotomy i j with hl|hl|hl
  ·have:=zr2 (key:=fun y:Item=>y.ID) hs j i x y hl hx hy;omega
  ·exact hl
  ·have:=zr2 (key:=fun y:Item=>y.ID) hs i j y x hl hy hx;omega
theorem zay1 {c:Circ} (h:MidP c) {i:Nat} {x:Item} (hx:c.Items[i]?=some x):qp c x.ID=some (i:Int):=by
 rw[zafe h.short.items]
 rcases zb6 (fun y:Item=>y.ID==x.ID) c.Items with ⟨h1,h2⟩|⟨j,y,h1,h2,h3,h4⟩
 ·have:=List.find?_eq_none.1 h2 x (List.mem_of_getElem? hx)
  simp at this
 ·rw[h1,h.ids i x j y hx h2 (by simpa using (by simpa using h3:y.ID=x.ID).symm)]
theorem zrm {X Y:Type} {f:X→Y} {l:List X} {j:Nat} {x y:X} (hx:l[j]?=some x) (hf:f y=f x):(l.set j y).map f=l.map f:=by
 rw[List.map_set,hf]
 apply List.ext_getElem?
 intro k
 rw[List.getElem?_set]
 split
 ·rename_i e
  subst e
  split
  ·rw[List.getElem?_map,hx];rfl
  ·rename_i hk
   have:=(List.getElem?_eq_some_iff.1 hx).1
   exact absurd (by simpa using this) hk
 ·rfl
theorem zaqg {l m:List Item} (e:m.map (fun x=>x.ID)=l.map (fun x=>x.ID)) (h:∀(i:Nat) (x:Item) (j:Nat) (y:Item),l[i]?=some x→l[j]?=some y→x.ID=y.ID→i=j) :
 ∀(i:Nat) (x:Item) (j:Nat) (y:Item),m[i]?=some x→m[j]?=some y→x.ID=y.ID→i=j:=by
 have key:∀(i:Nat) (x:Item),m[i]?=some x→∃x',l[i]?=some x'∧x'.ID=x.ID:=by
  intro i x hx
  have h1:(m.map (fun x=>x.ID))[i]?=some x.ID:=by rw[List.getElem?_map,hx];rfl
  rw[e,List.getElem?_map]at h1
  cases hl:l[i]? with
  |none=>rw[hl]at h1;cases h1
  |some x'=>rw[hl]at h1;exact ⟨x',rfl,by simpa using h1⟩
 intro i x j y hx hy hxy
 obtain ⟨x',hx',ex⟩:=key i x hx
 obtain ⟨y',hy',ey⟩:=key j y hy
 exact h i x' j y' hx' hy' (by rw[ex,ey,hxy])
theorem z6r {c:Circ} (h:MidP c) {i:Nat} {x:Item} (hx:c.Items[i]?=some x) {m:Move} {u:Custody} (hu:rng 1 4 u.Branch=true) (hl:c.Moves.length<5000000):MidP (zhk c i x m u):=by
 refine ⟨zth h.short (by omega) hx,?_,h.holdsN,h.sorted,h.rank,h.few,h.cal,h.rules,fun y hy=>?_,?_,h.chN⟩
 ·show (c.Moves++[m]).length<_
  simp;omega
 ·rcases List.mem_or_eq_of_mem_set hy with hy|hy
  ·exact h.branch y hy
  ·rw[hy];exact hu
 ·exact zaqg (zrm hx rfl) h.ids
theorem zk9 {c:Custody} {m:Move} {u:Custody} (h:za5 c m=(u,0)):rng 1 4 u.Branch=true:=by
 have:=zgd (c:=c) (m:=m) (by rw[h];rfl)
 rw[h]at this
 exact this
theorem zae5 {c:Circ} (h:MidP c) {i:Nat} {x:Item} (hx:c.Items[i]?=some x) (kind branch who:Int) :
 (∃u,za5 x.Custody ⟨c.Today,x.ID,kind,branch,who⟩=(u,0)∧qbg (i:Int) kind branch who ⟨c,0⟩=some ((),⟨zhk c i x ⟨c.Today,x.ID,kind,branch,who⟩ u,0⟩)∧
  qbc c x.ID kind branch who=some (zhk c i x ⟨c.Today,x.ID,kind,branch,who⟩ u,0)∧MidP (zhk c i x ⟨c.Today,x.ID,kind,branch,who⟩ u))∨
 (∃e,e≠0∧qbg (i:Int) kind branch who ⟨c,0⟩=some ((),⟨c,e⟩)∧qbc c x.ID kind branch who=some (zbm,e)):=by
 have hmv:=h.moves
 have dm:=zhv (kind:=kind) (branch:=branch) (who:=who) h.short (by omega) hx
 have rm:=zazj (kind:=kind) (branch:=branch) (who:=who) h.short (by omega) (zay1 h hx) hx rfl
 rw[dm,rm]
 cases ha:za5 x.Custody ⟨c.Today,x.ID,kind,branch,who⟩ with
 |mk u e=>
  by_cases hE:zh8 c e=0
  ·left
   simp only[hE,beq_self_eq_true,cond_true]
   have he:e=0∧c.Moves.length<2000:=by
    unfold zh8 at hE
    cases hb:(e==0&&decide (2000≤(c.Moves.length:Int))) with
    |true=>rw[hb]at hE;cases hE
    |false=>
     rw[hb]at hE
     simp only[cond_false]at hE
     subst hE
     simp only[beq_self_eq_true,Bool.true_and,decide_eq_false_iff_not]at hb
     exact ⟨rfl,by omega⟩
   obtain ⟨rfl,hlen⟩:=he
   exact ⟨u,rfl,rfl,rfl,z6r h hx (zk9 ha) (by omega)⟩
  ·right
   have hE2:(zh8 c e==0)=false:=by simpa using hE
   simp only[hE2,cond_false]
   exact ⟨zh8 c e,hE,rfl,rfl⟩
end Go.Proofs.YtpaidiaknfhclaaGreatDoor
namespace Go.Proofs.YtpaidiaknfhclaaGreatDoor
open Ev
open Go (IntKind)
def z4j (o:Hold):Int×Int×Int:=(o.ID,o.Rank,o.Record)
end Go.Proofs.YtpaidiaknfhclaaGreatDoor
namespace Go.Proofs.YtpaidiaknfhclaaGreatDoor
open Ev
open Go (IntKind)
structure Frame (c d:Circ):Prop where
 ids:d.Items.map (fun x=>x.ID)=c.Items.map (fun x=>x.ID)
 holds:d.Holds.map z4j=c.Holds.map z4j
 patrons:d.Patrons=c.Patrons
 loans:d.Loans=c.Loans
 charges:d.Charges=c.Charges
 rules:d.Rules=c.Rules
 cals:d.Cals=c.Cals
 today:d.Today=c.Today
 here:d.Local=c.Local
 nh:d.NextHold=c.NextHold
 nc:d.NextCharge=c.NextCharge
 br:d.Items.map (fun x=>x.Custody.Branch)=c.Items.map (fun x=>x.Custody.Branch)
 recs:d.Items.map (fun x=>x.Record)=c.Items.map (fun x=>x.Record)
theorem Frame.trans {a b c:Circ} (h:Frame a b) (k:Frame b c):Frame a c:=
 ⟨k.ids.trans h.ids,k.holds.trans h.holds,k.patrons.trans h.patrons,k.loans.trans h.loans,k.charges.trans h.charges,k.rules.trans h.rules,k.cals.trans h.cals,k.today.trans h.today,k.here.trans h.here,k.nh.trans h.nh,k.nc.trans h.nc,k.br.trans h.br,k.recs.trans h.recs⟩
theorem zcl (c:Circ) (e0:Int) (h0:e0≠0):qa4 ⟨c,e0⟩=some ((zbm,e0),⟨c,e0⟩):=by
 have h:(e0==0)=false:=by simpa using h0
 unfold qa4
 simp only[h,Bool.not_false,cond_true]
 try rfl
theorem zpp {c:Circ} {i:Nat} {x:Item} (hx:c.Items[i]?=some x) (kind:Int):qcs (i:Int) kind ⟨c,0⟩=qbg (i:Int) kind x.Custody.Branch 0 ⟨c,0⟩:=by
 unfold qcs
 simp only[beq_self_eq_true,cond_true,zak,hx]
 cases qbg (i:Int) kind x.Custody.Branch 0 ⟨c,0⟩ with
 |none=>rfl
 |some p=>rfl
theorem zgk (c:Circ) (i kind e0:Int) (h0:e0≠0):qcs i kind ⟨c,e0⟩=some ((),⟨c,e0⟩):=by
 have h:(e0==0)=false:=by simpa using h0
 unfold qcs
 simp only[h,cond_false]
end Go.Proofs.YtpaidiaknfhclaaGreatDoor
namespace Go.Proofs.YtpaidiaknfhclaaGreatDoor
open Ev
open Go (IntKind)
theorem zzd {c:Circ} (h:MidP c) (item:Int):(fIdx (fun x=>x.ID==item) c.Items = -1∧qp c item=some (-1)∧c.Items.find? (fun x=>x.ID==item)=none)∨
 ∃(i:Nat) (x:Item),fIdx (fun x=>x.ID==item) c.Items=(i:Int)∧qp c item=some (i:Int)∧c.Items[i]?=some x∧x.ID=item∧c.Items.find? (fun x=>x.ID==item)=some x:=by
 rcases zb6 (fun x:Item=>x.ID==item) c.Items with ⟨h1,h2⟩|⟨i,x,h1,h2,h3,h4⟩
 ·exact .inl ⟨h1,by rw[zafe h.short.items,h1],h2⟩
 ·exact .inr ⟨i,x,h1,by rw[zafe h.short.items,h1],h2,by simpa using h3,h4⟩
end Go.Proofs.YtpaidiaknfhclaaGreatDoor
namespace Go.Proofs.YtpaidiaknfhclaaGreatDoor
open Ev
open Go (IntKind)
def Rest (r:Int) (c d:Circ):Prop:=d.Items.map (fun x=>x.Record)=c.Items.map (fun x=>x.Record)∧∀(j:Nat) (y:Item),c.Items[j]?=some y→¬y.Record=r→d.Items[j]?=some y
theorem Rest.trans {r:Int} {a b c:Circ} (h:Rest r a b) (k:Rest r b c):Rest r a c:=⟨k.1.trans h.1,fun j y hy hr=>k.2 j y (h.2 j y hy hr) hr⟩
end Go.Proofs.YtpaidiaknfhclaaGreatDoor
namespace Go.Proofs.YtpaidiaknfhclaaGreatDoor
open Ev
open Go (IntKind)
end Go.Proofs.YtpaidiaknfhclaaGreatDoor
namespace Go.Proofs.YtpaidiaknfhclaaGreatDoor
open Ev
open Go (IntKind)
end Go.Proofs.YtpaidiaknfhclaaGreatDoor
namespace Go.Proofs.YtpaidiaknfhclaaGreatDoor
open Ev
open Go (IntKind)
end Go.Proofs.YtpaidiaknfhclaaGreatDoor
namespace Go.Proofs.YtpaidiaknfhclaaGreatDoor
open Ev
open Go (IntKind)
def zdg (l:List Loan) (item:Int):List Loan×Loan×Int:=
 match l.find? (fun n=>n.Item==item) with
 |some n=>(l.take (fIdx (fun n=>n.Item==item) l).toNat++l.drop ((fIdx (fun n=>n.Item==item) l).toNat+1),n,0)
 |none=>([],zay3,9)
theorem zazn {l:List Loan} {item:Int} (hl:l.length<100000000):qdd l item=some (zdg l item):=by
 have hl2:l.length<1000000000:=by omega
 unfold qdd zdg qar
 dsimp only
 rw[zn6 hl2]
 rcases zb6 (fun x:Loan=>x.Item==item) l with ⟨h1,h2⟩|⟨i,x,h1,h2,h3,h4⟩
 ·rw[h2];rfl
 ·have hlt:=(List.getElem?_eq_some_iff.1 h2).1
  have hc:qee l=some l:=by unfold qee;rw[znd hl2];rfl
  have hd:qdy l (i:Int) ((i+1:Nat):Int)=some (l.take i++l.drop (i+1)):=by
   show zha l (i:Int) ((i+1:Nat):Int)=_
   unfold zha
   have d1:decide ((0:Int)≤(i:Int))=true:=by rw[decide_eq_true_eq];omega
   have d2:decide ((i:Int)≤((i+1:Nat):Int))=true:=by rw[decide_eq_true_eq];omega
   have d3:decide (((i+1:Nat):Int)≤(l.length:Int))=true:=by rw[decide_eq_true_eq];omega
   have d4:decide (l.length≤1073741824)=true:=by rw[decide_eq_true_eq];omega
   simp only[d1,d2,d3,d4,Bool.and_self,cond_true,Int.toNat_natCast]
  rw[h4,h1]
  unfold qfa
  simp only[zlc,cond_false,hc,zar (show i<9223372036854775807 by omega),hd,Int.toNat_natCast]
theorem zazp {l:List Loan} {item:Int} (hl:l.length<100000000):qe7 l item=some (zdg l item):=by
 have hl2:l.length<1000000000:=by omega
 unfold qe7 zdg
 rw[zait hl2]
 rcases zb6 (fun x:Loan=>x.Item==item) l with ⟨h1,h2⟩|⟨i,x,h1,h2,h3,h4⟩
 ·rw[h1,h2];rfl
 ·have hlt:=(List.getElem?_eq_some_iff.1 h2).1
  have d1:decide ((0:Int)≤(i:Int))=true:=by rw[decide_eq_true_eq];omega
  have d2:decide ((i:Int)≤(l.length:Int))=true:=by rw[decide_eq_true_eq];omega
  have d3:decide (((i+1:Nat):Int)≤(l.length:Int))=true:=by rw[decide_eq_true_eq];omega
  have d4:decide ((0:Int)≤((i+1:Nat):Int))=true:=by rw[decide_eq_true_eq];omega
  have d5:decide ((0:Int)≤0)=true:=rfl
  have d6:decide ((l.length:Int)≤(l.length:Int))=true:=by simp
  have t0:((l.take i).drop (0:Int).toNat)=l.take i:=by simp
  have t1:(l.take (l.length:Int).toNat)=l:=by simp
  have l1:decide (([]:List Loan).length+(l.take i).length≤LIM)=true:=zji (by rw[List.length_take];simp;omega)
  have l2:decide (([]++l.take i).length+(l.drop (i+1)).length≤LIM)=true:=zji (by rw[List.nil_append,List.length_take,List.length_drop];omega)
  rw[h1,h4]
  simp only[zlc,cond_false,d1,d2,d3,d4,d5,d6,Bool.and_self,cond_true,zar (show i<9223372036854775807 by omega),Int.toNat_natCast,t0,t1,l1,l2,zak,h2,List.nil_append,List.take_length]
  have l3:decide ((l.take i).length+(l.drop (i+1)).length≤LIM)=true:=zji (by rw[List.length_take,List.length_drop];omega)
  rw[l3]
  try rfl
theorem zaat {l:List Loan} {item:Int} (hl:l.length<1000000000):(zdg l item).1.length<1000000000:=by
 unfold zdg
 cases l.find? (fun n=>n.Item==item) with
 |none=>simp
 |some n=>
  simp only[List.length_append,List.length_take,List.length_drop]
  omega
theorem z6e {c:Circ} (h:MidP c) {l:List Loan} (hl:l.length<1000000000):MidP (zi2 c l):=by
 obtain ⟨⟨a1,a2,a3,a4,a5,a6,a7,a8,a9,a10,a11,a12,a13⟩,h2,h3,h4,h5,h6,h7,h8,h9,h10,h11⟩:=h
 exact ⟨⟨a1,a2,hl,a4,a5,a6,a7,a8,a9,a10,a11,a12,a13⟩,h2,h3,h4,h5,h6,h7,h8,h9,h10,h11⟩
def zlb (y:Item) (record:Int):Bool:=y.Record==record&&!(y.Custody.State==12)
theorem zajj (y:Item) (record:Int):qdn y record=some (zlb y record):=by
 unfold qdn zlb
 simp -zeta only[zbk]
 try rfl
def zrr (c:Circ) (x:Item):Bool:=c.Items.any (fun y=>!(y.ID==x.ID)&&zlb y x.Record)
def zj2 (c:Circ) (x:Item) (o:Hold):Bool:=o.Item==x.ID||(zlb x x.Record&&!(zrr c x)&&o.Record==x.Record)
theorem zay9 {c:Circ} {x:Item} (hs:Short c):qaf c x=some (c.Holds.any (zj2 c x)):=by
 unfold qaf
 rw[z64 (p:=fun (g:Unit×Item×Unit) x0=>qda x0 g.2.1) (g:=((),(x,()))) (fun y=>!(y.ID==x.ID)&&zlb y x.Record) hs.items (fun y _=>by
  unfold qda
  simp -zeta only[zajj,zbk]
  rfl)]
 simp -zeta only[zajj,zbk]
 dsimp only
 rw[zar1 (p:=fun (g:Unit×Item×Bool×Unit) x0=>qcm x0 g.2.1 g.2.2.1) (g:=((),(x,(zlb x x.Record&&!(c.Items.any (fun y=>!(y.ID==x.ID)&&zlb y x.Record))),()))) (zj2 c x) hs.holds (fun o _=>by
  unfold qcm zj2 zrr
  simp -zeta only[k_or,zbk]
  rfl)]
theorem z4f {X:Type} (q:X→Bool):∀(l:List X) (b:Bool),l.foldl (fun s x=>s||q x) b=(b||l.any q):=by
 intro l
 induction l with
 |nil=>intro b;simp
 |cons x l ih=>intro b;rw[List.foldl_cons,ih,List.any_cons,Bool.or_assoc]
theorem zz7 {c v:Circ} (h:MidP c) {i:Nat} {x:Item} (hx:c.Items[i]?=some x):zae zj9 (x.ID,(i:Int),false,0,c,v,x,())=some (x.ID,zrr c x,c,v,x,()):=by
 have hs:=h.short.items
 have hw:=zuq (step:=zj9) (fun (k:Nat) (s:Bool)=>(x.ID,(i:Int),s,(k:Int),c,v,x,())) c.Items (fun y s=>s||(!(y.ID==x.ID)&&zlb y x.Record)) (fun s=>(x.ID,s,c,v,x,())) hs
  (fun s=>by simp only[zj9,dge,cond_false])
  (fun k y s hy=>by
   have hlt:=(List.getElem?_eq_some_iff.1 hy).1
   have e:((k:Int)==(i:Int))=(y.ID==x.ID):=by
    rw[Bool.eq_iff_iff]
    simp only[beq_iff_eq]
    constructor
    ·intro hk
     have:k=i:=by omega
     subst this
     rw[hx]at hy;cases hy;rfl
    ·intro hk
     rw[h.ids k y i x hy hx hk]
   simp -zeta only[zj9,dlt hlt,zak,hy,cond_true,k_or,zbk,e,zar (show k<9223372036854775807 by omega)]
   dsimp only
   unfold zlb
   cases s<;>cases y.ID==x.ID<;>cases y.Record==x.Record<;>rfl) false
 rw[z4f,Bool.false_or]at hw
 exact hw
theorem ztn {c v:Circ} {x:Item} {b:Bool} (hl:c.Holds.length<1000000000):zae zhn (x.ID,b,0,c,v,x,()) =
 some (match c.Holds.find? (fun o=>o.Item==x.ID||(o.Record==x.Record&&!b&&!(x.Custody.State==12))) with|some _=>.inr (10,zbm,())|none=>.inl (x.ID,c,v,x,())):=by
 have hw:=zbl (step:=zhn) (fun k=>(x.ID,b,(k:Int),c,v,x,())) c.Holds (fun o=>o.Item==x.ID||(o.Record==x.Record&&!b&&!(x.Custody.State==12))) (fun _ _=>(.inr (10,zbm,()):(Int×Circ×Circ×Item×Unit)⊕(Int×Circ×Unit))) (.inl (x.ID,c,v,x,())) hl
  (by simp only[zhn,dge,cond_false])
  (fun k o ho=>by
   have hlt:=(List.getElem?_eq_some_iff.1 ho).1
   simp -zeta only[zhn,dlt hlt,zak,ho,cond_true,k_or,zbk,zar (show k<9223372036854775807 by omega)]
   dsimp only
   cases o.Item==x.ID<;>cases o.Record==x.Record<;>cases b<;>cases x.Custody.State==12<;>rfl)
 rw[zhd]at hw
 refine Eq.trans hw ?_
 cases c.Holds.find? (fun o=>o.Item==x.ID||(o.Record==x.Record&&!b&&!(x.Custody.State==12)))<;>rfl
theorem zy5 {l:List Loan} {item:Int}:(zf4 l item).2=((zdg l item).2.2==0):=by
 unfold zf4 zdg
 cases l.find? (fun n=>n.Item==item)<;>rfl
end Go.Proofs.YtpaidiaknfhclaaGreatDoor
namespace Go.Proofs.YtpaidiaknfhclaaGreatDoor
open Go Ev
theorem zx5:qe4=some true:=by kernel_rfl
theorem zazw (c:Circ):qfl c=some (zkz c&&zmu c):=by
 unfold qfl
 rw[za1f]
 cases h:zkz c with
 |false=>rfl
 |true=>
  simp only[cond_true,zaza (zakv h).short]
  rfl
end Go.Proofs.YtpaidiaknfhclaaGreatDoor
namespace Go.Proofs.YtpaidiaknfhclaaGreatDoor
open Go Ev
theorem zafc {l:List Int} (hl:l.length<1000000000):qak l l=some true:=by
 have h:=zat (step:=zml) (fun i=>(l,l,(i:Int),())) l (fun _ _=>true) (.inr (false,())) (.inl ()) hl
  (by simp only[zml,dge,cond_false])
  (fun i x hx=>by
   have hi:=(List.getElem?_eq_some_iff.1 hx).1
   simp only[zml,dlt hi,cond_true,zak,hx,zar (show i<9223372036854775807 by omega),beq_self_eq_true,Bool.not_true,cond_false])
 unfold qak
 rw[show zae zml (l,l,0,())=_ from h,zax,show (l.all fun _=>true)=true by simp]
 simp only[beq_self_eq_true,Bool.not_true,cond_false,cond_true]
structure WeedS (c:Circ):Prop where
 items:c.Items.length≤10
 holds:c.Holds.length≤12
 moves:c.Moves.length≤200
end Go.Proofs.YtpaidiaknfhclaaGreatDoor
namespace Go.Proofs.YtpaidiaknfhclaaGreatDoor
open Go Ev
end Go.Proofs.YtpaidiaknfhclaaGreatDoor
namespace Go.Proofs.YtpaidiaknfhclaaGreatDoor
open Go Ev
end Go.Proofs.YtpaidiaknfhclaaGreatDoor
namespace Go.Proofs.YtpaidiaknfhclaaGreatDoor
open Go Ev
end Go.Proofs.YtpaidiaknfhclaaGreatDoor
namespace Go.Proofs.YtpaidiaknfhclaaGreatDoor
open Go Ev
structure WdI (c:Circ):Prop where
 mid:MidP c
 loans:c.Loans.length<100000000
 known:∀n∈c.Loans,(c.Items.find? (fun x=>x.ID==n.Item)).isSome=true
theorem zaau {l:List Loan} {item:Int}:∀n∈(zdg l item).1,n∈l:=by
 intro n hn
 unfold zdg at hn
 split at hn
 ·rcases List.mem_append.1 hn with h|h
  ·exact List.mem_of_mem_take h
  ·exact List.mem_of_mem_drop h
 ·exact absurd hn (by simp)
theorem zak9 {l:List Loan} {item:Int}:(zdg l item).1.length≤l.length:=by
 unfold zdg
 split
 ·simp only[List.length_append,List.length_take,List.length_drop];omega
 ·simp
theorem zacy {l:List Item} {i:Nat} {x:Item} {u:Custody} (hx:l[i]?=some x) (id:Int):((l.set i (zur u x)).find? (fun y=>y.ID==id)).isSome=(l.find? (fun y=>y.ID==id)).isSome:=by
 rw[Bool.eq_iff_iff,List.find?_isSome,List.find?_isSome]
 constructor
 ·rintro ⟨y,hy,h⟩
  rcases List.mem_or_eq_of_mem_set hy with hy|rfl
  ·exact ⟨y,hy,h⟩
  ·exact ⟨x,List.mem_of_getElem? hx,h⟩
 ·rintro ⟨y,hy,h⟩
  obtain ⟨j,hj⟩:=List.mem_iff_getElem?.1 hy
  by_cases e:i=j
  ·subst e
   rw[hx]at hj;cases hj
   exact ⟨zur u x,List.mem_of_getElem? (by rw[List.getElem?_set_self (List.getElem?_eq_some_iff.1 hx).1]),h⟩
  ·exact ⟨y,List.mem_of_getElem? (by rw[List.getElem?_set_ne e];exact hj),h⟩
def wdC (c:Circ) (i:Nat) (x:Item) (u:Custody):Circ:=
 bif (zdg c.Loans x.ID).2.2==0 then zi2 (zhk c i x ⟨c.Today,x.ID,15,x.Custody.Branch,0⟩ u) (zdg c.Loans x.ID).1 else zhk c i x ⟨c.Today,x.ID,15,x.Custody.Branch,0⟩ u
theorem zaaf (c:Circ) (i:Nat) (x:Item) (u:Custody):(wdC c i x u).Items=c.Items.set i (zur u x):=by
 unfold wdC;cases (zdg c.Loans x.ID).2.2==0<;>rfl
theorem zr8 (c:Circ) (i:Nat) (x:Item) (u:Custody):(wdC c i x u).Loans=bif (zdg c.Loans x.ID).2.2==0 then (zdg c.Loans x.ID).1 else c.Loans:=by
 unfold wdC;cases (zdg c.Loans x.ID).2.2==0<;>rfl
theorem zaag {c:Circ} (w:WdI c) {i:Nat} {x:Item} {u:Custody} (hx:c.Items[i]?=some x) (hm:MidP (zhk c i x ⟨c.Today,x.ID,15,x.Custody.Branch,0⟩ u)):WdI (wdC c i x u):=by
 refine ⟨?_,?_,fun n hn=>?_⟩
 ·unfold wdC
  cases (zdg c.Loans x.ID).2.2==0 with
  |true=>exact z6e hm (zaat w.mid.short.loans)
  |false=>exact hm
 ·rw[zr8]
  have:=w.loans
  have:=zak9 (l:=c.Loans) (item:=x.ID)
  cases (zdg c.Loans x.ID).2.2==0
  ·exact w.loans
  ·simp only[cond_true];omega
 ·rw[zaaf,zacy hx]
  rw[zr8]at hn
  refine w.known n ?_
  cases h:(zdg c.Loans x.ID).2.2==0 with
  |true=>rw[h]at hn;exact zaau n hn
  |false=>rw[h]at hn;exact hn
def WdNo (c:Circ) (item:Int):Prop:=∀(i:Nat) (x:Item),c.Items[i]?=some x→x.ID=item→c.Holds.find? (zj2 c x)=none→c.Moves.length<2000→(za5 x.Custody ⟨c.Today,x.ID,15,x.Custody.Branch,0⟩).2≠0
theorem zaai {c:Circ} (h:MidP c) {i:Nat} {x:Item} (hx:c.Items[i]?=some x) (hq:c.Holds.find? (zj2 c x)=none→c.Moves.length<2000→(za5 x.Custody ⟨c.Today,x.ID,15,x.Custody.Branch,0⟩).2≠0):WdNo c x.ID:=by
 intro j y hj hid
 have:=h.ids j y i x hj hx hid
 subst this
 rw[hx]at hj
 cases hj
 exact hq
theorem zfo {c:Circ} (w:WdI c) (item:Int) :
 (∃i x u,c.Items[i]?=some x∧x.ID=item∧c.Items.find? (fun x=>x.ID==item)=some x∧c.Holds.find? (zj2 c x)=none∧za5 x.Custody ⟨c.Today,x.ID,15,x.Custody.Branch,0⟩=(u,0)∧WdI (wdC c i x u)∧
  qe1 c item=some (wdC c i x u,0)∧qab c item=some (wdC c i x u,0))∨
 (∃e,e≠0∧qe1 c item=some (zbm,e)∧qab c item=some (zbm,e)∧WdNo c item):=by
 have h:=w.mid
 have hln:=w.loans
 have hk:=w.known
 unfold qe1 qab
 simp -zeta only[qcg,zpq h.short,zazq h.short.loans,zazn hln]
 rcases zzd h item with ⟨h1,h2,h3⟩|⟨i,x,h1,h2,hx,hid,hfd⟩
 ·have hf:(zf4 c.Loans item).2=false:=by
   unfold zf4
   cases hq:c.Loans.find? (fun n=>n.Item==item) with
   |none=>rfl
   |some n=>
    have a:=hk n (List.mem_of_find?_eq_some hq)
    have b:n.Item=item:=by have:=List.find?_some hq;simpa using this
    rw[b,h3]at a
    cases a
  have d0:decide ((0:Int)≤-1)=false:=rfl
  rw[h1,h2]
  simp only[d0,cond_false,zps,cond_true,hf,zgk c _ _ 9 (by decide),zcl c 9 (by decide)]
  refine .inr ⟨9,by decide,rfl,rfl,fun i x hx hid=>?_⟩
  exact absurd (List.find?_eq_none.1 h3 x (List.mem_of_getElem? hx)) (by simp[hid])
 ·subst hid
  have d0:decide ((0:Int)≤(i:Int))=true:=by rw[decide_eq_true_eq];omega
  rw[h1,h2]
  simp only[d0,cond_true,zlc,cond_false,zak,hx,zay9 h.short]
  rw[show zae zj9 (x.ID,(i:Int),false,0,c,(⟨0,[],[],[],[],[],[],⟨⟨0,[]⟩,⟨0,[]⟩,⟨0,[]⟩,⟨0,[]⟩⟩,[],0,0,false⟩:Circ),x,())=_ from zz7 h hx]
  simp only
  rw[ztn h.short.holds]
  have e:(fun o:Hold=>o.Item==x.ID||(o.Record==x.Record&&!(zrr c x)&&!(x.Custody.State==12)))=zj2 c x:=by
   funext o
   unfold zj2 zlb
   simp only[beq_self_eq_true,Bool.true_and]
   cases o.Item==x.ID<;>cases o.Record==x.Record<;>cases zrr c x<;>cases x.Custody.State==12<;>rfl
  rw[e]
  have ea:c.Holds.any (zj2 c x)=(c.Holds.find? (zj2 c x)).isSome:=by rw[Bool.eq_iff_iff,List.find?_isSome,List.any_eq_true]
  rw[ea]
  cases hneed:c.Holds.find? (zj2 c x) with
  |some o=>
   right
   have hno:WdNo c x.ID:=zaai h hx (fun q=>by rw[hneed]at q;cases q)
   simp only[Option.isSome_some,cond_true,qu,beq_self_eq_true,zgk c _ _ 10 (by decide)]
   cases (zf4 c.Loans x.ID).2 with
   |false=>
    simp only[cond_false,zcl c 10 (by decide)]
    exact ⟨10,by decide,rfl,rfl,hno⟩
   |true=>
    generalize zdg c.Loans x.ID=q
    obtain ⟨l,n,e⟩:=q
    simp only[cond_true,zf1 c l e 10 (by decide),zcl _ 10 (by decide)]
    exact ⟨10,by decide,rfl,rfl,hno⟩
  |none=>
   simp only[Option.isSome_none,cond_false,zpp hx]
   rcases zae5 h hx 15 x.Custody.Branch 0 with ⟨u,ha,m1,m2,hm2⟩|⟨e,he,m1,m2⟩
   ·left
    have hkeep:=zaag w hx hm2
    refine ⟨i,x,u,hx,rfl,hfd,hneed,ha,hkeep,?_⟩
    rw[m1,m2]
    simp only[beq_self_eq_true,Bool.not_true,cond_false]
    rw[show (zhk c i x ⟨c.Today,x.ID,15,x.Custody.Branch,0⟩ u).Loans=c.Loans from rfl]
    rw[zazp hln,zy5]
    unfold wdC
    have hL:(zhk c i x ⟨c.Today,x.ID,15,x.Custody.Branch,0⟩ u).Loans=c.Loans:=rfl
    generalize zhk c i x ⟨c.Today,x.ID,15,x.Custody.Branch,0⟩ u=c2 at hL ⊢
    generalize zdg c.Loans x.ID=q
    obtain ⟨l,n,e⟩:=q
    by_cases he:e=0
    ·subst he
     exact ⟨rfl,rfl⟩
    ·have he2:(e==0)=false:=by simpa using he
     simp only[he2,cond_false]
     rw[←hL]
     exact ⟨rfl,rfl⟩
   ·right
    have hno:WdNo c x.ID:=zaai h hx (fun _ hm2 h0=>by
     have hmv:=h.moves
     have dm:=zhv (kind:=15) (branch:=x.Custody.Branch) (who:=0) h.short (by omega) hx
     have hE:zh8 c (za5 x.Custody ⟨c.Today,x.ID,15,x.Custody.Branch,0⟩).2=0:=by
      rw[h0]
      unfold zh8
      rw[decide_eq_false (by omega)]
      rfl
     rw[hE,m1]at dm
     simp only[beq_self_eq_true,cond_true,Option.some.injEq,Prod.mk.injEq,Circ_desk.mk.injEq,true_and]at dm
     exact he dm.2)
    have he2:(e==0)=false:=by simpa using he
    rw[m1,m2]
    simp only[he2,Bool.not_false,cond_true]
    cases (zf4 c.Loans x.ID).2 with
    |false=>
     simp only[cond_false,zcl c e he]
     exact ⟨e,he,rfl,rfl,hno⟩
    |true=>
     generalize zdg c.Loans x.ID=q
     obtain ⟨l,n,e2⟩:=q
     simp only[cond_true,zf1 c l e2 e he,zcl _ e he]
     exact ⟨e,he,rfl,rfl,hno⟩
def wdF (s:Circ×List Int) (id:Int):Circ×List Int:=
 match qab s.1 id with
 |some (d,e)=>bif e==0 then (d,s.2++[id]) else s
 |none=>s
theorem zaah {c:Circ} (w:WdI c) (out:List Int) (id:Int):WdI (wdF (c,out) id).1∧(wdF (c,out) id).2.length≤out.length+1:=by
 unfold wdF
 rcases zfo w id with ⟨i,x,u,-,-,-,-,-,hk,-,h2⟩|⟨e,he,-,h2,-⟩
 ·simp only[h2,beq_self_eq_true,cond_true]
  exact ⟨hk,by simp⟩
 ·have he2:(e==0)=false:=by simpa using he
  simp only[h2,he2,cond_false]
  exact ⟨w,by omega⟩
theorem zrv {c:Circ} (hs:c.Items.length<1000000000) (id:Int):qbp c id=some (match c.Items.find? (fun x=>x.ID==id) with|some x=>x.Record|none=>0):=by
 have hw:=zbl (step:=zmq) (fun i=>(id,(i:Int),c,())) c.Items (fun x=>x.ID==id) (fun _ x=>(.inr (x.Record,()):Unit⊕(Int×Unit))) (.inl ()) hs
  (by simp only[zmq,dge,cond_false])
  (fun i x hx=>by
   have hi:=(List.getElem?_eq_some_iff.1 hx).1
   simp only[zmq,dlt hi,cond_true,zak,hx,zar (show i<9223372036854775807 by omega)])
 unfold qbp
 rw[show zae zmq (id,0,c,())=_ from hw,zhd]
 cases c.Items.find? (fun x=>x.ID==id)<;>rfl
def zr7 (c:Circ) (l:List Int):Circ×List Int×Int:=
 bif l.all (fun id=>(c.Items.find? (fun x=>x.ID==id)).isSome) then ((l.foldl wdF (c,[])).1,(l.foldl wdF (c,[])).2,0) else (zbm,[],9)
theorem zro:zbm=(⟨0,[],[],[],[],[],[],⟨⟨0,[]⟩,⟨0,[]⟩,⟨0,[]⟩,⟨0,[]⟩⟩,[],0,0,false⟩:Circ):=rfl
theorem za1h {c:Circ} (w:WdI c) {l:List Int} (hl:l.length≤1000):qg c l=some (zr7 c l):=by
 have h:=w.mid
 have hw1:=zat (step:=z0c) (fun i=>(l,l,(l.length:Int),(i:Int),c,zbm,())) l (fun _ id=>(c.Items.find? (fun x=>x.ID==id)).isSome) (.inr ([],9,zbm,())) (.inl (l,c,zbm,())) (by omega)
  (by simp only[z0c,dge,cond_false])
  (fun i id hx=>by
   have hi:=(List.getElem?_eq_some_iff.1 hx).1
   have hc:=z64 (p:=fun (g:Unit×Int×Unit) x0=>qc2 x0 g.2.1) (g:=((),(id,()))) (fun x=>x.ID==id) (l:=c.Items) h.short.items (fun y _=>rfl)
   have ea:c.Items.any (fun x=>x.ID==id)=(c.Items.find? (fun x=>x.ID==id)).isSome:=by rw[Bool.eq_iff_iff,List.find?_isSome,List.any_eq_true]
   simp only[z0c,dlt hi,cond_true,zak,hx,hc,ea,zar (show i<9223372036854775807 by omega)]
   cases (c.Items.find? (fun x=>x.ID==id)).isSome<;>rfl)
 have hw2:=zd6 (step:=zty) (fun i (s:Circ×List Int)=>WdI s.1∧s.2.length≤i) (fun i s=>(l,(l.length:Int),(i:Int),s.1,zbm,s.2,())) l
  (fun _ id s=>.inl (wdF s id)) (fun s=>(s.1,zbm,s.2,())) (by show l.length<18446744073709551616;omega)
  (fun s _=>by simp only[zty,dge,cond_false])
  (fun i id s hx hs=>by
   have hi:=(List.getElem?_eq_some_iff.1 hx).1
   obtain ⟨s1,s2⟩:=s
   obtain ⟨q1,q2⟩:=hs
   simp only at q1 q2
   have hlim:decide (s2.length+([id]:List Int).length≤LIM)=true:=by rw[zut];simp;omega
   have hok:=zaah q1 s2 id
   refine ⟨?_,fun s' hs'=>by cases hs';exact ⟨hok.1,by omega⟩⟩
   unfold wdF
   rcases zfo q1 id with ⟨j,x,u,-,-,-,-,-,hk,h1,h2⟩|⟨e,he,h1,h2,-⟩
   ·simp only[zty,dlt hi,cond_true,zak,hx,h1,h2,beq_self_eq_true,hlim,zar (show i<9223372036854775807 by omega)]
   ·have he2:(e==0)=false:=by simpa using he
    simp only[zty,dlt hi,cond_true,zak,hx,h1,h2,he2,cond_false,zar (show i<9223372036854775807 by omega)])
  (c,[]) ⟨w,by simp⟩
 unfold qg zr7
 rw[←zro,show zae z0c (l,l,(l.length:Int),0,c,zbm,())=_ from hw1,zax]
 cases l.all (fun id=>(c.Items.find? (fun x=>x.ID==id)).isSome) with
 |false=>rfl
 |true=>
  simp only[cond_true]
  rw[show zae zty (l,(l.length:Int),0,c,zbm,([]:List Int),())=_ from hw2,zhp]
theorem zay8 {c:Circ} (w:WdI c) (hr:∀x∈c.Items,x.Record≠0) {l:List Int} (hl:l.length≤1000):qae c l=some (zr7 c l):=by
 have h:=w.mid
 have hw1:=zat (step:=zmi) (fun i=>(l,(i:Int),c,zbm,())) l (fun _ id=>(c.Items.find? (fun x=>x.ID==id)).isSome) (.inr ([],9,zbm,())) (.inl (l,c,zbm,())) (by omega)
  (by simp only[zmi,dge,cond_false])
  (fun i id hx=>by
   have hi:=(List.getElem?_eq_some_iff.1 hx).1
   simp only[zmi,dlt hi,cond_true,zak,hx,zrv h.short.items,zar (show i<9223372036854775807 by omega)]
   cases hf:c.Items.find? (fun x=>x.ID==id) with
   |none=>rfl
   |some x=>
    have:(x.Record==0)=false:=by simpa using hr x (List.mem_of_find?_eq_some hf)
    simp only[this,cond_false,Option.isSome_some,cond_true])
 have hw2:=zd6 (step:=zka) (fun i (s:Circ×List Int)=>WdI s.1∧s.2.length≤i) (fun i s=>(l,(i:Int),s.1,zbm,s.2,())) l
  (fun _ id s=>.inl (wdF s id)) (fun s=>(s.1,zbm,s.2,())) (by show l.length<18446744073709551616;omega)
  (fun s _=>by simp only[zka,dge,cond_false])
  (fun i id s hx hs=>by
   have hi:=(List.getElem?_eq_some_iff.1 hx).1
   obtain ⟨s1,s2⟩:=s
   obtain ⟨q1,q2⟩:=hs
   simp only at q1 q2
   have hlim:decide (s2.length+([id]:List Int).length≤LIM)=true:=by rw[zut];simp;omega
   have hok:=zaah q1 s2 id
   refine ⟨?_,fun s' hs'=>by cases hs';exact ⟨hok.1,by omega⟩⟩
   unfold wdF
   rcases zfo q1 id with ⟨j,x,u,-,-,-,-,-,hk,h1,h2⟩|⟨e,he,h1,h2,-⟩
   ·simp only[zka,dlt hi,cond_true,zak,hx,h2,beq_self_eq_true,hlim,zar (show i<9223372036854775807 by omega)]
   ·have he2:(e==0)=false:=by simpa using he
    simp only[zka,dlt hi,cond_true,zak,hx,h2,he2,cond_false,zar (show i<9223372036854775807 by omega)])
  (c,[]) ⟨w,by simp⟩
 unfold qae zr7
 rw[←zro,show zae zmi (l,0,c,zbm,())=_ from hw1,zax]
 cases l.all (fun id=>(c.Items.find? (fun x=>x.ID==id)).isSome) with
 |false=>rfl
 |true=>
  simp only[cond_true]
  rw[show zae zka (l,0,c,zbm,([]:List Int),())=_ from hw2,zhp]
theorem zavc {c:Circ} (w:WdI c):∀(l out:List Int),WdI (l.foldl wdF (c,out)).1∧(l.foldl wdF (c,out)).2.length≤out.length+l.length:=by
 intro l
 induction l generalizing c with
 |nil=>intro out;exact ⟨w,by simp⟩
 |cons id l ih=>
  intro out
  rw[List.foldl_cons]
  obtain ⟨h1,h2⟩:=zaah w out id
  obtain ⟨h3,h4⟩:=ih h1 (wdF (c,out) id).2
  refine ⟨h3,?_⟩
  simp only[List.length_cons]
  have:(List.foldl wdF (wdF (c,out) id) l).2.length≤(wdF (c,out) id).2.length+l.length:=h4
  omega
theorem zayt {c:Circ} (hm:SmallP c) (hf:FitP c):WdI c:=⟨zaqe hm hf,by have:=hm.loans;omega,fun n hn=>by obtain ⟨x,p,hx,-⟩:=zzs hf hn;rw[hx];rfl⟩
end Go.Proofs.YtpaidiaknfhclaaGreatDoor
namespace Go.Proofs.YtpaidiaknfhclaaGreatDoor
open Go Ev
theorem ztb {c:Circ} (h:zgw c=true):∀x∈c.Items,zcb x=true:=by
 intro x hx
 unfold zgw at h
 simp only[Bool.and_eq_true]at h
 obtain ⟨k,hk⟩:=List.mem_iff_getElem?.1 hx
 have:=zoz.1 h.2.1 k x hk
 simp only[Bool.not_eq_true',Bool.or_eq_false_iff,Bool.not_eq_false']at this
 exact this.1
theorem zacz {c:Circ} (h:FitP c):∀x∈c.Items,x.Record≠0:=by
 intro x hx
 have:=ztb h.items x hx
 unfold zcb at this
 simp only[Bool.and_eq_true]at this
 have hr:=this.1.1.1.1.1.2
 unfold rng at hr
 simp only[Bool.and_eq_true,decide_eq_true_eq]at hr
 omega
theorem zup {c:Circ} (w:WdI c) (l:List Int):Short (zr7 c l).1∧(zr7 c l).2.1.length≤l.length:=by
 unfold zr7
 cases l.all (fun id=>(c.Items.find? (fun x=>x.ID==id)).isSome) with
 |false=>exact ⟨zrp,by simp⟩
 |true=>
  obtain ⟨h1,h2⟩:=zavc w l []
  exact ⟨h1.mid.short,by simpa using h2⟩
theorem zg0 (c:Circ) (l:List Int):qdh c l=some true:=by
 unfold qdh
 simp only[zazw,zx5]
 cases hb:zkz c&&zmu c with
 |false=>rfl
 |true=>
  simp only[Bool.and_eq_true]at hb
  have hm:=zakv hb.1
  have hf:=fitP hb.2
  have w:=zayt hm hf
  cases hd:decide (20<(l.length:Int)) with
  |true=>rfl
  |false=>
   have hl:l.length≤20:=by rw[decide_eq_false_iff_not]at hd;omega
   obtain ⟨q1,q2⟩:=zup w l
   simp only[za1h w (show l.length≤1000 by omega),zay8 w (zacz hf) (show l.length≤1000 by omega)]
   generalize zr7 c l=r at q1 q2 ⊢
   obtain ⟨x,a,e⟩:=r
   simp only[Bool.not_true,cond_false,cond_true,zar2 q1,zafc (show a.length<1000000000 by simp only at q2;omega),beq_self_eq_true]
end Go.Proofs.YtpaidiaknfhclaaGreatDoor
