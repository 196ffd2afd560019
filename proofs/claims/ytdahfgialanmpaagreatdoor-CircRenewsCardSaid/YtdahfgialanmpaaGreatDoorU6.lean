/- CircRenews: a part of the proof of the given statement, which is proved without conditions. -/
import Derived.Test.YtdahfgialanmpaaGreatDoorU5
import Derived.KernelRfl
set_option linter.all false
namespace Go.Proofs.YtdahfgialanmpaaGreatDoor
open Ev
open Go (IntKind)
theorem zbj {X:Type} (p:X→Bool) (l:List X):(fIdx p l = -1∧l.find? p=none)∨∃(i:Nat) (x:X),fIdx p l=(i:Int)∧l[i]?=some x∧p x=true∧l.find? p=some x:=by
 unfold fIdx
 induction l with
 |nil=>exact .inl ⟨rfl,rfl⟩
 |cons y l ih=>
  simp only[List.findIdx?_cons,List.find?_cons]
  cases hp:p y with
  |true=>exact .inr ⟨0,y,rfl,rfl,hp,rfl⟩
  |false=>
   simp only[Bool.false_eq_true,if_false]
   rcases ih with ⟨h1,h2⟩|⟨i,x,h1,h2,h3,h4⟩
   ·left
    refine ⟨?_,h2⟩
    cases hf:l.findIdx? p with
    |none=>rfl
    |some k=>rw[hf]at h1;simp only at h1;omega
   ·right
    refine ⟨i+1,x,?_,by simpa using h2,h3,h4⟩
    cases hf:l.findIdx? p with
    |none=>rw[hf]at h1;simp only at h1;omega
    |some k=>rw[hf]at h1;simp only[Option.map_some]at h1 ⊢;omega
theorem zia:decide ((-1:Int)<0)=true:=rfl
theorem zhd {i:Nat}:decide ((i:Int)<0)=false:=by rw[decide_eq_false_iff_not];omega
def getP (l:List Patron) (id:Int):Patron×Bool:=match l.find? (fun p=>p.ID==id) with|some p=>(p,true)|none=>(⟨0,0,0,0,false,[]⟩,false)
def zc6 (l:List Loan) (item:Int):Loan×Bool:=match l.find? (fun n=>n.Item==item) with|some n=>(n,true)|none=>(⟨0,0,0,0,0,false⟩,false)
def zm0:Hold:=⟨0,0,0,0,0,0,0,0,0,0,0⟩
def zg7 (c:Circ) (item:Int):Hold×Bool:=match c.Holds.find? (fun h=>h.Got==item) with|some h=>(h,true)|none=>(zm0,false)
theorem zart {c:Circ} {item:Int} (hl:c.Items.length<1000000000):qn c item=some (fIdx (fun x=>x.ID==item) c.Items):=by
 unfold qn
 have h:=zbn (step:=z0u) (fun i=>(item,(i:Int),c,())) c.Items (fun x=>x.ID==item) (fun i _=>(.inr ((i:Int),()):Unit⊕(Int×Unit))) (.inl ()) hl
  (by simp only[z0u,dge,cond_false])
  (fun i x hx=>by
   have hi:=(List.getElem?_eq_some_iff.1 hx).1
   simp only[z0u,dlt hi,zaj,hx,cond_true,zap (show i<9223372036854775807 by omega)])
 rw[show zae z0u (item,0,c,())=_ from h,←zc5]
 have:=zb8 (p:=fun x:Item=>x.ID==item) (g:=fun i _=>(.inr ((i:Int),()):Unit⊕(Int×Unit))) (d:=.inl ()) (fun z=>match (some z:Option (Unit⊕(Int×Unit))) with|some (.inl _)=>some (-1)|some (.inr (v,_))=>some v|none=>none) (l:=c.Items) (i:=0)
 exact this.trans ((zb8 (p:=fun x:Item=>x.ID==item) (g:=fun i _=>(i:Int)) (d:=-1) (fun z=>some z) (l:=c.Items) (i:=0)).symm)
theorem zg1 {c:Circ} {item:Int} (hl:c.Items.length<1000000000):(qn c item=some (-1)∧c.Items.find? (fun x=>x.ID==item)=none)∨
 ∃(i:Nat) (x:Item),qn c item=some (i:Int)∧c.Items[i]?=some x∧x.ID=item∧c.Items.find? (fun x=>x.ID==item)=some x:=by
 rw[zart hl]
 rcases zbj (fun x:Item=>x.ID==item) c.Items with ⟨h1,h2⟩|⟨i,x,h1,h2,h3,h4⟩
 ·exact .inl ⟨by rw[h1],h2⟩
 ·exact .inr ⟨i,x,by rw[h1],h2,by simpa using h3,h4⟩
theorem zayt {l:List Patron} {id:Int} (hl:l.length<1000000000):qax l id=some (fIdx (fun x=>x.ID==id) l):=by
 unfold qax
 have h:=zbn (step:=znc) (fun i=>(l,id,(i:Int),())) l (fun x=>x.ID==id) (fun i _=>(.inr ((i:Int),()):Unit⊕(Int×Unit))) (.inl ()) hl
  (by simp only[znc,dge,cond_false])
  (fun i x hx=>by
   have hi:=(List.getElem?_eq_some_iff.1 hx).1
   simp only[znc,dlt hi,zaj,hx,cond_true,zap (show i<9223372036854775807 by omega)])
 rw[show zae znc (l,id,0,())=_ from h,←zc5]
 have:=zb8 (p:=fun x:Patron=>x.ID==id) (g:=fun i _=>(.inr ((i:Int),()):Unit⊕(Int×Unit))) (d:=.inl ()) (fun z=>match (some z:Option (Unit⊕(Int×Unit))) with|some (.inl _)=>some (-1)|some (.inr (v,_))=>some v|none=>none) (l:=l) (i:=0)
 exact this.trans ((zb8 (p:=fun x:Patron=>x.ID==id) (g:=fun i _=>(i:Int)) (d:=-1) (fun z=>some z) (l:=l) (i:=0)).symm)
theorem zg0 {l:List Patron} {id:Int} (hl:l.length<1000000000):qbo l id=some (getP l id):=by
 unfold qbo getP
 rw[zayt hl]
 rcases zbj (fun x:Patron=>x.ID==id) l with ⟨h1,h2⟩|⟨i,x,h1,h2,h3,h4⟩
 ·simp only[h1,h2,zia,cond_true]
 ·simp only[h1,h4,zhd,cond_false,zaj,h2]
theorem z6t {l:List Loan} {id:Int} (hl:l.length<1000000000):qaf l id=some (fIdx (fun x=>x.Item==id) l):=by
 unfold qaf
 have h:=zbn (step:=zm5) (fun i=>(l,id,(i:Int),())) l (fun x=>x.Item==id) (fun i _=>(.inr ((i:Int),()):Unit⊕(Int×Unit))) (.inl ()) hl
  (by simp only[zm5,dge,cond_false])
  (fun i x hx=>by
   have hi:=(List.getElem?_eq_some_iff.1 hx).1
   simp only[zm5,dlt hi,zaj,hx,cond_true,zap (show i<9223372036854775807 by omega)])
 rw[show zae zm5 (l,id,0,())=_ from h,←zc5]
 have:=zb8 (p:=fun x:Loan=>x.Item==id) (g:=fun i _=>(.inr ((i:Int),()):Unit⊕(Int×Unit))) (d:=.inl ()) (fun z=>match (some z:Option (Unit⊕(Int×Unit))) with|some (.inl _)=>some (-1)|some (.inr (v,_))=>some v|none=>none) (l:=l) (i:=0)
 exact this.trans ((zb8 (p:=fun x:Loan=>x.Item==id) (g:=fun i _=>(i:Int)) (d:=-1) (fun z=>some z) (l:=l) (i:=0)).symm)
theorem z62 {l:List Loan} {id:Int} (hl:l.length<1000000000):qci l id=some (zc6 l id):=by
 unfold qci zc6
 rw[z6t hl]
 rcases zbj (fun x:Loan=>x.Item==id) l with ⟨h1,h2⟩|⟨i,x,h1,h2,h3,h4⟩
 ·simp only[h1,h2,zia,cond_true]
 ·simp only[h1,h4,zhd,cond_false,zaj,h2]
theorem zayo {c:Circ} {item:Int} (hl:c.Holds.length<1000000000):qap c item=some (zg7 c item):=by
 unfold qap zg7
 have h:=zbn (step:=zna) (fun i=>(item,(i:Int),c,zm0,())) c.Holds (fun x=>x.Got==item) (fun _ x=>(.inr (true,x,()):(Hold×Unit)⊕(Bool×Hold×Unit))) (.inl (zm0,())) hl
  (by simp only[zna,dge,cond_false])
  (fun i x hx=>by
   have hi:=(List.getElem?_eq_some_iff.1 hx).1
   simp only[zna,dlt hi,zaj,hx,cond_true,zap (show i<9223372036854775807 by omega)])
 rw[show zae zna (item,0,c,(⟨0,0,0,0,0,0,0,0,0,0,0⟩:Hold),())=_ from h,zmj]
 cases c.Holds.find? (fun x=>x.Got==item)<;>rfl
def zdo (c:Circ) (i:Nat) (x:Item):Bool:=
 !(decide (x.ID<1)||decide (9999<x.ID)||zcd c.Items i (fun y=>decide (x.ID≤y.ID))||decide (x.Record<1)||decide (9999<x.Record)||decide (x.Branch<1)||decide (4<x.Branch))&&
 !(decide (x.Kind<1)||decide (9<x.Kind)||decide (x.Price<0)||decide (100000000<x.Price)||decide (200<(x.Call.length:Int))||!(vld x.Call))&&
 !(!((zd0 x.Branch c.Moves x.ID).2.2==0)||!(zba (zd0 x.Branch c.Moves x.ID).1 x.Custody))
def zes (c:Circ):Bool:=!(decide (64<(c.Items.length:Int))||decide (2000<(c.Moves.length:Int)))&&(zct (zdo c) 0 c.Items&&c.Moves.all (fun m=>(c.Items.find? (fun x=>x.ID==m.Item)).isSome))
structure Short (c:Circ):Prop where
 items:c.Items.length<1000000000
 patrons:c.Patrons.length<1000000000
 loans:c.Loans.length<1000000000
 holds:c.Holds.length<1000000000
 charges:c.Charges.length<1000000000
 rules:c.Rules.length<1000000000
 moves:c.Moves.length<1000000000
 call:∀x∈c.Items,x.Call.length<10000000
 name:∀x∈c.Patrons,x.Name.length<10000000
 cal0:c.Cals.x0.Closed.length<1000000000
 cal1:c.Cals.x1.Closed.length<1000000000
 cal2:c.Cals.x2.Closed.length<1000000000
 cal3:c.Cals.x3.Closed.length<1000000000
theorem z0k {c:Circ} (hs:Short c):zae zkh (0,c,())=some (bif zct (zdo c) 0 c.Items then .inl (c,()) else .inr (false,())):=by
 have h:=zav (step:=zkh) (fun i=>((i:Int),c,())) c.Items (zdo c) (.inr (false,())) (.inl (c,())) hs.items
  (by simp only[zkh,dge,cond_false])
  (fun i x hx=>by
   have hi:=(List.getElem?_eq_some_iff.1 hx).1
   have hm:=List.mem_of_getElem? hx
   have hv:=zaiy (s:=x.Call) (by have:=hs.call x hm;omega)
   have hr:=zaym (branch:=x.Branch) (item:=x.ID) hs.moves
   unfold zdo
   rcases i with _|j
   ·simp -zeta only[zkh,dlt hi,zaj,hx,k_or,za6,zzk,cond_false,cond_true,zcd,zap (show 0<9223372036854775807 by omega),hv,hr]
    dsimp only
    generalize (decide (x.ID<1)||decide (9999<x.ID)||false||decide (x.Record<1)||decide (9999<x.Record)||decide (x.Branch<1)||decide (4<x.Branch))=b1
    generalize (decide (x.Kind<1)||decide (9<x.Kind)||decide (x.Price<0)||decide (100000000<x.Price)||decide (200<(x.Call.length:Int))||!(vld x.Call))=b2
    generalize (!((zd0 x.Branch c.Moves x.ID).2.2==0)||!(zba (zd0 x.Branch c.Moves x.ID).1 x.Custody))=b3
    cases b1<;>cases b2<;>cases b3<;>rfl
   ·have hj:c.Items[j]?=some c.Items[j]:=List.getElem?_eq_getElem (by omega)
    have:=hs.items
    simp -zeta only[zkh,dlt hi,zaj,hx,k_or,za6,dpos,zgi (show j<1000000000 by omega),hj,cond_false,cond_true,Bool.true_and,zcd,zap (show j+1<9223372036854775807 by omega),hv,hr]
    dsimp only
    generalize (decide (x.ID<1)||decide (9999<x.ID)||decide (x.ID≤c.Items[j].ID)||decide (x.Record<1)||decide (9999<x.Record)||decide (x.Branch<1)||decide (4<x.Branch))=b1
    generalize (decide (x.Kind<1)||decide (9<x.Kind)||decide (x.Price<0)||decide (100000000<x.Price)||decide (200<(x.Call.length:Int))||!(vld x.Call))=b2
    generalize (!((zd0 x.Branch c.Moves x.ID).2.2==0)||!(zba (zd0 x.Branch c.Moves x.ID).1 x.Custody))=b3
    cases b1<;>cases b2<;>cases b3<;>rfl)
 exact h
theorem zub {c:Circ} (hs:Short c):zae zgc (0,c,())=some (bif c.Moves.all (fun m=>(c.Items.find? (fun x=>x.ID==m.Item)).isSome) then .inl () else .inr (false,())):=by
 have h:=zav (step:=zgc) (fun i=>((i:Int),c,())) c.Moves (fun _ m=>(c.Items.find? (fun x=>x.ID==m.Item)).isSome) (.inr (false,())) (.inl ()) hs.moves
  (by simp only[zgc,dge,cond_false])
  (fun i x hx=>by
   have hi:=(List.getElem?_eq_some_iff.1 hx).1
   have:=hs.moves
   simp only[zgc,dlt hi,zaj,hx,cond_true,zap (show i<9223372036854775807 by omega)]
   rcases zg1 (item:=x.Item) hs.items with ⟨h1,h2⟩|⟨k,y,h1,h2,h3,h4⟩
   ·simp only[h1,h2,zia,cond_true,Option.isSome_none,cond_false]
   ·simp only[h1,h4,zhd,cond_false,Option.isSome_some,cond_true])
 rw[show zae zgc (0,c,())=_ from h,zay]
theorem zayi {c:Circ} (hs:Short c):qad c=some (zes c):=by
 unfold qad zes
 simp -zeta only[k_or]
 dsimp only
 rw[z0k hs]
 cases (decide (64<(c.Items.length:Int))||decide (2000<(c.Moves.length:Int))) with
 |true=>rfl
 |false=>
  cases zct (zdo c) 0 c.Items with
  |false=>rfl
  |true=>
   simp only[cond_false,cond_true,zub hs]
   cases c.Moves.all (fun m=>(c.Items.find? (fun x=>x.ID==m.Item)).isSome)<;>rfl
def zfx (c:Circ) (n:Loan):Bool:=match c.Items.find? (fun x=>x.ID==n.Item) with
 |some x=>!(!(getP c.Patrons n.Patron).2||!(zpe x.Custody)||!(x.Custody.Who==n.Patron))
 |none=>false
def zfl (c:Circ):Bool:=c.Loans.all (zfx c)&&c.Items.all (fun x=>(zc6 c.Loans x.ID).2==zpe x.Custody)
theorem zayh {c:Circ} (hs:Short c):qac c=some (zfl c):=by
 have h1:=zav (step:=zkg) (fun i=>((i:Int),c,())) c.Loans (fun _=>zfx c) (.inr (false,())) (.inl (c,())) hs.loans
  (by simp only[zkg,dge,cond_false])
  (fun i x hx=>by
   have hi:=(List.getElem?_eq_some_iff.1 hx).1
   have:=hs.loans
   unfold zfx
   rcases zg1 (item:=x.Item) hs.items with ⟨h1,h2⟩|⟨k,y,h1,h2,h3,h4⟩
   ·simp -zeta only[zkg,dlt hi,zaj,hx,cond_true,k_or,zg0 hs.patrons,h1,h2,zia,Bool.true_or]
    try rfl
   ·simp -zeta only[zkg,dlt hi,zaj,hx,cond_true,k_or,zg0 hs.patrons,h1,h2,h4,zhd,Bool.false_or,zajg,zap (show i<9223372036854775807 by omega)]
    dsimp only
    cases (!(getP c.Patrons x.Patron).2||!(zpe y.Custody)||!(y.Custody.Who==x.Patron))<;>rfl)
 have h2:=zav (step:=zhm) (fun i=>((i:Int),c,())) c.Items (fun _ x=>(zc6 c.Loans x.ID).2==zpe x.Custody) (.inr (false,())) (.inl ()) hs.items
  (by simp only[zhm,dge,cond_false])
  (fun i x hx=>by
   have hi:=(List.getElem?_eq_some_iff.1 hx).1
   have:=hs.items
   simp only[zhm,dlt hi,zaj,hx,cond_true,z62 hs.loans,zajg,zap (show i<9223372036854775807 by omega)]
   cases (zc6 c.Loans x.ID).2==zpe x.Custody<;>rfl)
 unfold qac zfl
 rw[show zae zkg (0,c,())=_ from h1,zay]
 cases c.Loans.all (zfx c) with
 |false=>rfl
 |true=>
  simp only[cond_true]
  rw[show zae zhm (0,c,())=_ from h2,zay]
  cases c.Items.all (fun x=>(zc6 c.Loans x.ID).2==zpe x.Custody)<;>rfl
def zgs (c:Circ) (h:Hold):Bool:=
 !(!(getP c.Patrons h.Patron).2||decide (c.NextHold≤h.ID))&&(h.State==1||(match c.Items.find? (fun x=>x.ID==h.Got) with
  |some x=>!(!(x.Record==h.Record))&&!(h.State==3&&(!(x.Custody.State==5)||!(x.Custody.Branch==h.Pickup)||!(x.Custody.Who==h.Patron)))&&
   !(h.State==2&&(!(x.Custody.State==6)||!(x.Custody.To==h.Pickup)||!(x.Custody.Who==h.Patron)))
  |none=>false))
def zfq (c:Circ) (x:Item):Bool:=!(x.Custody.State==5)||!(!(zg7 c x.ID).2||!((zg7 c x.ID).1.State==3))
def zfj (c:Circ):Bool:=c.Holds.all (zgs c)&&c.Items.all (zfq c)
theorem zayj {c:Circ} (hs:Short c):qae c=some (zfj c):=by
 have h1:=zav (step:=zki) (fun i=>((i:Int),c,())) c.Holds (fun _=>zgs c) (.inr (false,())) (.inl (c,())) hs.holds
  (by simp only[zki,dge,cond_false])
  (fun i x hx=>by
   have hi:=(List.getElem?_eq_some_iff.1 hx).1
   have:=hs.holds
   unfold zgs
   rcases zg1 (item:=x.Got) hs.items with ⟨h1,h2⟩|⟨k,y,h1,h2,h3,h4⟩
   ·simp -zeta only[zki,dlt hi,zaj,hx,cond_true,k_or,zg0 hs.patrons,h1,h2,zia,zap (show i<9223372036854775807 by omega)]
    dsimp only
    cases (!(getP c.Patrons x.Patron).2||decide (c.NextHold≤x.ID)) with
    |true=>rfl
    |false=>cases x.State==1<;>rfl
   ·simp -zeta only[zki,dlt hi,zaj,hx,cond_true,k_or,za6,zg0 hs.patrons,h1,h2,h4,zhd,cond_false,zap (show i<9223372036854775807 by omega)]
    dsimp only
    generalize (!(getP c.Patrons x.Patron).2||decide (c.NextHold≤x.ID))=b1
    generalize (x.State==1)=b2
    generalize (!(y.Record==x.Record))=b3
    generalize (!(y.Custody.State==5)||!(y.Custody.Branch==x.Pickup)||!(y.Custody.Who==x.Patron))=b4
    generalize (!(y.Custody.State==6)||!(y.Custody.To==x.Pickup)||!(y.Custody.Who==x.Patron))=b5
    generalize (x.State==3)=b6
    generalize (x.State==2)=b7
    cases b1<;>cases b2<;>cases b3<;>cases b4<;>cases b5<;>cases b6<;>cases b7<;>rfl)
 have h2:=zav (step:=zhn) (fun i=>((i:Int),c,())) c.Items (fun _=>zfq c) (.inr (false,())) (.inl ()) hs.items
  (by simp only[zhn,dge,cond_false])
  (fun i x hx=>by
   have hi:=(List.getElem?_eq_some_iff.1 hx).1
   have:=hs.items
   unfold zfq
   simp -zeta only[zhn,dlt hi,zaj,hx,cond_true,k_or,zayo hs.holds,zap (show i<9223372036854775807 by omega)]
   dsimp only
   cases x.Custody.State==5 with
   |false=>rfl
   |true=>
    generalize (!(zg7 c x.ID).2||!((zg7 c x.ID).1.State==3))=b
    cases b<;>rfl)
 unfold qae zfj
 rw[show zae zki (0,c,())=_ from h1,zay]
 cases c.Holds.all (zgs c) with
 |false=>rfl
 |true=>
  simp only[cond_true]
  rw[show zae zhn (0,c,())=_ from h2,zay]
  cases c.Items.all (zfq c)<;>rfl
end Go.Proofs.YtdahfgialanmpaaGreatDoor
namespace Go.Proofs.YtdahfgialanmpaaGreatDoor
open Ev
open Go (IntKind)
def zgl (c:Circ):Bool:=zcf c.Cals.x0==0&&(zcf c.Cals.x1==0&&(zcf c.Cals.x2==0&&zcf c.Cals.x3==0))
theorem z0l {c:Circ} (hs:Short c):zae zhz (0,c,())=some (bif zgl c then .inl (c,()) else .inr (false,())):=by
 have s0:zhz (0,c,())=bif zcf c.Cals.x0==0 then some (.inl (1,c,())) else some (.inr (.inr (false,()))):=by
  show (match qy c.Cals.x0 with|some r=>(bif !(r==0) then (some (.inr (.inr (false,()))):Option ((Int×Circ×Unit)⊕((Circ×Unit)⊕(Bool×Unit)))) else some (.inl (1,c,())))|none=>none)=_
  rw[zae3 hs.cal0];dsimp only;cases zcf c.Cals.x0==0<;>rfl
 have s1:zhz (1,c,())=bif zcf c.Cals.x1==0 then some (.inl (2,c,())) else some (.inr (.inr (false,()))):=by
  show (match qy c.Cals.x1 with|some r=>(bif !(r==0) then (some (.inr (.inr (false,()))):Option ((Int×Circ×Unit)⊕((Circ×Unit)⊕(Bool×Unit)))) else some (.inl (2,c,())))|none=>none)=_
  rw[zae3 hs.cal1];dsimp only;cases zcf c.Cals.x1==0<;>rfl
 have s2:zhz (2,c,())=bif zcf c.Cals.x2==0 then some (.inl (3,c,())) else some (.inr (.inr (false,()))):=by
  show (match qy c.Cals.x2 with|some r=>(bif !(r==0) then (some (.inr (.inr (false,()))):Option ((Int×Circ×Unit)⊕((Circ×Unit)⊕(Bool×Unit)))) else some (.inl (3,c,())))|none=>none)=_
  rw[zae3 hs.cal2];dsimp only;cases zcf c.Cals.x2==0<;>rfl
 have s3:zhz (3,c,())=bif zcf c.Cals.x3==0 then some (.inl (4,c,())) else some (.inr (.inr (false,()))):=by
  show (match qy c.Cals.x3 with|some r=>(bif !(r==0) then (some (.inr (.inr (false,()))):Option ((Int×Circ×Unit)⊕((Circ×Unit)⊕(Bool×Unit)))) else some (.inl (4,c,())))|none=>none)=_
  rw[zae3 hs.cal3];dsimp only;cases zcf c.Cals.x3==0<;>rfl
 have s4:zhz (4,c,())=some (.inr (.inl (c,()))):=rfl
 refine zci 5 (by rw[zbs];omega) ?_
 unfold zgl
 simp only[zbh,s0,s1,s2,s3,s4]
 cases zcf c.Cals.x0==0 with
 |false=>rfl
 |true=>
  simp only[cond_true,zbh,s1]
  cases zcf c.Cals.x1==0 with
  |false=>rfl
  |true=>
   simp only[cond_true,zbh,s2]
   cases zcf c.Cals.x2==0 with
   |false=>rfl
   |true=>
    simp only[cond_true,zbh,s3]
    cases zcf c.Cals.x3==0 with
    |false=>rfl
    |true=>simp only[cond_true,zbh,s4];rfl
def zem (c:Circ) (x:Charge):Bool:=!(!(getP c.Patrons x.Patron).2||decide (c.NextCharge≤x.ID))
theorem zuc {c:Circ} (hs:Short c):zae zgd (0,c,())=some (bif c.Charges.all (zem c) then .inl (c,()) else .inr (false,())):=by
 have h:=zav (step:=zgd) (fun i=>((i:Int),c,())) c.Charges (fun _=>zem c) (.inr (false,())) (.inl (c,())) hs.charges
  (by simp only[zgd,dge,cond_false])
  (fun i x hx=>by
   have hi:=(List.getElem?_eq_some_iff.1 hx).1
   have:=hs.charges
   unfold zem
   simp -zeta only[zgd,dlt hi,zaj,hx,cond_true,k_or,zg0 hs.patrons,zap (show i<9223372036854775807 by omega)]
   dsimp only
   cases (!(getP c.Patrons x.Patron).2||decide (c.NextCharge≤x.ID))<;>rfl)
 rw[show zae zgd (0,c,())=_ from h,zay]
def zpa (c:Circ):Bool:=!(decide (c.Today<0)||decide (109572<c.Today)||decide (c.NextHold<1)||decide (100000<c.NextHold)||decide (c.NextCharge<1)||decide (100000<c.NextCharge))
def zjt (c:Circ):Bool:=!(!(zev c.Patrons==0)||!(za9 c.Loans==0)||!(zgt c.Holds==0)||!(zcb c.Charges==0)||!(zfz c.Rules==0))
def znm (c:Circ):Bool:=zpa c&&(zjt c&&(zgl c&&(c.Charges.all (zem c)&&(zes c&&(zfl c&&zfj c)))))
theorem zayk {c:Circ} (hs:Short c):qai c=some (znm c):=by
 unfold qai znm zpa zjt
 simp -zeta only[k_or,za6,zayp hs.patrons hs.name,zaix hs.loans,za09 hs.holds,zayf hs.charges,za08 hs.rules]
 dsimp only
 rw[z0l hs]
 generalize (decide (c.Today<0)||decide (109572<c.Today)||decide (c.NextHold<1)||decide (100000<c.NextHold)||decide (c.NextCharge<1)||decide (100000<c.NextCharge))=b1
 generalize (!(zev c.Patrons==0)||!(za9 c.Loans==0)||!(zgt c.Holds==0)||!(zcb c.Charges==0)||!(zfz c.Rules==0))=b2
 cases b1 with
 |true=>rfl
 |false=>
  cases b2 with
  |true=>rfl
  |false=>
   cases zgl c with
   |false=>rfl
   |true=>
    simp only[cond_false,cond_true,zuc hs]
    cases c.Charges.all (zem c) with
    |false=>rfl
    |true=>
     simp -zeta only[cond_false,cond_true,zayi hs,zayh hs,zayj hs,za6]
     try dsimp only
     cases zes c<;>cases zfl c<;>cases zfj c<;>rfl
def zlg (c:Circ):Bool:=
 !(decide (10<(c.Items.length:Int))||decide (8<(c.Patrons.length:Int))||decide (12<(c.Holds.length:Int))||decide (12<(c.Loans.length:Int))||decide (30<(c.Charges.length:Int))||decide (10<(c.Rules.length:Int))||decide (200<(c.Moves.length:Int)))&&
 (c.Items.all (fun x=>!(decide (300<(x.Call.length:Int))))&&(c.Patrons.all (fun x=>!(decide (300<(x.Name.length:Int))))&&
  (!(decide (20<(c.Cals.x0.Closed.length:Int)))&&(!(decide (20<(c.Cals.x1.Closed.length:Int)))&&(!(decide (20<(c.Cals.x2.Closed.length:Int)))&&!(decide (20<(c.Cals.x3.Closed.length:Int))))))))
theorem za06 (c:Circ):qa c=some (zlg c):=by
 unfold qa zlg
 simp -zeta only[k_or,za6]
 dsimp only
 cases hb:(decide (10<(c.Items.length:Int))||decide (8<(c.Patrons.length:Int))||decide (12<(c.Holds.length:Int))||decide (12<(c.Loans.length:Int))||decide (30<(c.Charges.length:Int))||decide (10<(c.Rules.length:Int))||decide (200<(c.Moves.length:Int))) with
 |true=>rfl
 |false=>
  simp only[Bool.or_eq_false_iff,decide_eq_false_iff_not]at hb
  have h1:=zav (step:=z0i) (fun i=>((i:Int),c,())) c.Items (fun _ x=>!(decide (300<(x.Call.length:Int)))) (.inr (false,())) (.inl (c,())) (by omega)
   (by simp only[z0i,dge,cond_false])
   (fun i x hx=>by
    have hi:=(List.getElem?_eq_some_iff.1 hx).1
    simp only[z0i,dlt hi,zaj,hx,cond_true,zap (show i<9223372036854775807 by omega)]
    cases decide (300<(x.Call.length:Int))<;>rfl)
  have h2:=zav (step:=z0j) (fun i=>((i:Int),c,())) c.Patrons (fun _ x=>!(decide (300<(x.Name.length:Int)))) (.inr (false,())) (.inl (c,())) (by omega)
   (by simp only[z0j,dge,cond_false])
   (fun i x hx=>by
    have hi:=(List.getElem?_eq_some_iff.1 hx).1
    simp only[z0j,dlt hi,zaj,hx,cond_true,zap (show i<9223372036854775807 by omega)]
    cases decide (300<(x.Name.length:Int))<;>rfl)
  have h3:zae zhy (0,c,())=some (bif (!(decide (20<(c.Cals.x0.Closed.length:Int)))&&(!(decide (20<(c.Cals.x1.Closed.length:Int)))&&(!(decide (20<(c.Cals.x2.Closed.length:Int)))&&!(decide (20<(c.Cals.x3.Closed.length:Int)))))) then .inl () else .inr (false,())):=by
   have s0:zhy (0,c,())=bif decide (20<(c.Cals.x0.Closed.length:Int)) then some (.inr (.inr (false,()))) else some (.inl (1,c,())):=rfl
   have s1:zhy (1,c,())=bif decide (20<(c.Cals.x1.Closed.length:Int)) then some (.inr (.inr (false,()))) else some (.inl (2,c,())):=rfl
   have s2:zhy (2,c,())=bif decide (20<(c.Cals.x2.Closed.length:Int)) then some (.inr (.inr (false,()))) else some (.inl (3,c,())):=rfl
   have s3:zhy (3,c,())=bif decide (20<(c.Cals.x3.Closed.length:Int)) then some (.inr (.inr (false,()))) else some (.inl (4,c,())):=rfl
   have s4:zhy (4,c,())=some (.inr (.inl ())):=rfl
   refine zci 5 (by rw[zbs];omega) ?_
   simp only[zbh,s0]
   cases decide (20<(c.Cals.x0.Closed.length:Int)) with
   |true=>rfl
   |false=>
    simp only[cond_false,zbh,s1]
    cases decide (20<(c.Cals.x1.Closed.length:Int)) with
    |true=>rfl
    |false=>
     simp only[cond_false,zbh,s2]
     cases decide (20<(c.Cals.x2.Closed.length:Int)) with
     |true=>rfl
     |false=>
      simp only[cond_false,zbh,s3]
      cases decide (20<(c.Cals.x3.Closed.length:Int)) with
      |true=>rfl
      |false=>simp only[cond_false,zbh,s4];rfl
  simp only[cond_false,Bool.not_false,Bool.true_and]
  rw[show zae z0i (0,c,())=_ from h1,zay]
  cases c.Items.all (fun x=>!(decide (300<(x.Call.length:Int)))) with
  |false=>rfl
  |true=>
   simp only[cond_true,Bool.true_and]
   rw[show zae z0j (0,c,())=_ from h2,zay]
   cases c.Patrons.all (fun x=>!(decide (300<(x.Name.length:Int)))) with
   |false=>rfl
   |true=>
    simp only[cond_true,Bool.true_and,h3]
    cases (!(decide (20<(c.Cals.x0.Closed.length:Int)))&&(!(decide (20<(c.Cals.x1.Closed.length:Int)))&&(!(decide (20<(c.Cals.x2.Closed.length:Int)))&&!(decide (20<(c.Cals.x3.Closed.length:Int))))))<;>rfl
structure SmallP (c:Circ):Prop where
 items:c.Items.length≤10
 patrons:c.Patrons.length≤8
 holds:c.Holds.length≤12
 loans:c.Loans.length≤12
 charges:c.Charges.length≤30
 rules:c.Rules.length≤10
 moves:c.Moves.length≤200
 call:∀x∈c.Items,x.Call.length≤300
 name:∀x∈c.Patrons,x.Name.length≤300
 cal0:c.Cals.x0.Closed.length≤20
 cal1:c.Cals.x1.Closed.length≤20
 cal2:c.Cals.x2.Closed.length≤20
 cal3:c.Cals.x3.Closed.length≤20
theorem zakl {c:Circ} (h:zlg c=true):SmallP c:=by
 unfold zlg at h
 simp only[Bool.and_eq_true,Bool.not_eq_true',Bool.or_eq_false_iff,decide_eq_false_iff_not,List.all_eq_true]at h
 obtain ⟨⟨⟨⟨⟨⟨⟨h1,h2⟩,h3⟩,h4⟩,h5⟩,h6⟩,h7⟩,h8,h9,h10,h11,h12,h13⟩:=h
 exact ⟨by omega,by omega,by omega,by omega,by omega,by omega,by omega,fun x hx=>by have:=h8 x hx;omega,fun x hx=>by have:=h9 x hx;omega,by omega,by omega,by omega,by omega⟩
theorem SmallP.short {c:Circ} (h:SmallP c):Short c:=by
 obtain ⟨h1,h2,h3,h4,h5,h6,h7,h8,h9,h10,h11,h12,h13⟩:=h
 exact ⟨by omega,by omega,by omega,by omega,by omega,by omega,by omega,fun x hx=>by have:=h8 x hx;omega,fun x hx=>by have:=h9 x hx;omega,by omega,by omega,by omega,by omega⟩
theorem zazm (c:Circ):qfw c=some (zlg c&&znm c):=by
 unfold qfw
 rw[za06]
 cases h:zlg c with
 |false=>rfl
 |true=>
  simp only[cond_true,zayk (zakl h).short]
  try rfl
end Go.Proofs.YtdahfgialanmpaaGreatDoor
namespace Go.Proofs.YtdahfgialanmpaaGreatDoor
open Ev
open Go (IntKind)
theorem zaam:qfb=some true:=by kernel_rfl
theorem za1a {γ0:Type} {p:γ0→Patron→Option Bool} {q:Patron→Bool} {s:List Patron} {g:γ0} (hs:s.length<1000000000) (hp:∀x∈s,p g x=some (q x)):qo p s g=some (fIdx q s):=by
 have h:=zbn (step:=zup p) (fun i=>(s,g,(s.length:Int),(i:Int),())) s q (fun i _=>(.inr ((i:Int),()):Unit⊕(Int×Unit))) (.inl ()) hs
  (by simp only[zup,dge,cond_false])
  (fun i x hx=>by
   have hi:=(List.getElem?_eq_some_iff.1 hx).1
   simp only[zup,dlt hi,cond_true,zaj,hx,hp x (List.mem_of_getElem? hx),zap (show i<9223372036854775807 by omega)])
 unfold qo
 rw[show zae (zup p) (s,g,(s.length:Int),0,())=_ from h,←zc5]
 have:=zb8 (p:=q) (g:=fun i _=>(.inr ((i:Int),()):Unit⊕(Int×Unit))) (d:=.inl ()) (fun z=>match (some z:Option (Unit⊕(Int×Unit))) with|some (.inl _)=>some (-1)|some (.inr (v,_))=>some v|none=>none) (l:=s) (i:=0)
 exact this.trans ((zb8 (p:=q) (g:=fun i _=>(i:Int)) (d:=-1) (fun z=>some z) (l:=s) (i:=0)).symm)
theorem zaja {l:List Patron} {id:Int} (hl:l.length<1000000000):qcn l id=some (getP l id):=by
 unfold qcn qb2 getP
 rw[za1a (q:=fun x=>x.ID==id) hl (fun x _=>rfl)]
 rcases zbj (fun x:Patron=>x.ID==id) l with ⟨h1,h2⟩|⟨i,x,h1,h2,h3,h4⟩
 ·simp only[h1,h2,zia,cond_true]
 ·simp only[h1,h4,zhd,cond_false,zaj,h2]
end Go.Proofs.YtdahfgialanmpaaGreatDoor
namespace Go.Proofs.YtdahfgialanmpaaGreatDoor
open Ev
open Go (IntKind)
theorem zkb (lo hi n:Int):(!(rng lo hi n))=(decide (n<lo)||decide (hi<n)):=by
 unfold rng
 by_cases h1:n<lo
 ·have:¬lo≤n:=by omega
  simp[h1,this]
 ·have:lo≤n:=by omega
  by_cases h2:hi<n
  ·have:¬n≤hi:=by omega
   simp[*]
  ·have:n≤hi:=by omega
   simp[*]
theorem zapu {X:Type} (p:X→Bool) (l:List X):decide (fIdx p l<0)=!(l.any p):=by
 unfold fIdx
 induction l with
 |nil=>rfl
 |cons y l ih=>
  simp only[List.findIdx?_cons,List.any_cons]
  cases hp:p y with
  |true=>rfl
  |false=>
   simp only[Bool.false_eq_true,if_false,Bool.false_or]
   rw[←ih]
   cases l.findIdx? p with
   |none=>rfl
   |some k=>simp only[Option.map_some];rw[decide_eq_decide];omega
theorem zapt {X:Type} (p:X→Bool) (l:List X):decide (0≤fIdx p l)=l.any p:=by
 have h:=zapu p l
 cases hb:l.any p with
 |true=>rw[hb]at h;simp at h ⊢;omega
 |false=>rw[hb]at h;simp at h ⊢;omega
theorem zajk {γ:Type} {p:γ→Loan→Option Bool} {g:γ} (q:Loan→Bool) {l:List Loan} (hl:l.length<1000000000) (hp:∀x∈l,p g x=some (q x)):qk p l g=some (fIdx q l):=by
 have h:=zbn (step:=zun p) (fun i=>(l,g,(l.length:Int),(i:Int),())) l q (fun i _=>(.inr ((i:Int),()):(Unit)⊕(Int×Unit))) (.inl ()) hl
  (by simp only[zun,dge,cond_false])
  (fun i x hx=>by
   have hi:=(List.getElem?_eq_some_iff.1 hx).1
   simp only[zun,dlt hi,zaj,hx,cond_true,hp x (List.mem_of_getElem? hx),zap (show i<9223372036854775807 by omega)])
 unfold qk
 rw[show zae (zun p) (l,g,(l.length:Int),0,())=_ from h]
 have e:=zb8 (p:=q) (g:=fun i _=>(.inr ((i:Int),()):(Unit)⊕(Int×Unit))) (d:=.inl ()) (fun r:(Unit)⊕(Int×Unit)=>match r with | .inl (_)=>(-1:Int) | .inr (v,_)=>v) (l:=l) (i:=0)
 dsimp only at e
 rw[←zc5,←e]
 generalize zeq q (fun i _=>(.inr ((i:Int),()):(Unit)⊕(Int×Unit))) (.inl ()) 0 l=r
 rcases r with _|⟨v,_⟩<;>rfl
theorem zazb {γ:Type} {p:γ→Item→Option Bool} {g:γ} (q:Item→Bool) {l:List Item} (hl:l.length<1000000000) (hp:∀x∈l,p g x=some (q x)):qe p l g=some (fIdx q l):=by
 have h:=zbn (step:=zsf p) (fun i=>(l,g,(l.length:Int),(i:Int),())) l q (fun i _=>(.inr ((i:Int),()):(Unit)⊕(Int×Unit))) (.inl ()) hl
  (by simp only[zsf,dge,cond_false])
  (fun i x hx=>by
   have hi:=(List.getElem?_eq_some_iff.1 hx).1
   simp only[zsf,dlt hi,zaj,hx,cond_true,hp x (List.mem_of_getElem? hx),zap (show i<9223372036854775807 by omega)])
 unfold qe
 rw[show zae (zsf p) (l,g,(l.length:Int),0,())=_ from h]
 have e:=zb8 (p:=q) (g:=fun i _=>(.inr ((i:Int),()):(Unit)⊕(Int×Unit))) (d:=.inl ()) (fun r:(Unit)⊕(Int×Unit)=>match r with | .inl (_)=>(-1:Int) | .inr (v,_)=>v) (l:=l) (i:=0)
 dsimp only at e
 rw[←zc5,←e]
 generalize zeq q (fun i _=>(.inr ((i:Int),()):(Unit)⊕(Int×Unit))) (.inl ()) 0 l=r
 rcases r with _|⟨v,_⟩<;>rfl
theorem zai0 {γ:Type} {p:γ→Hold→Option Bool} {g:γ} (q:Hold→Bool) {l:List Hold} (hl:l.length<1000000000) (hp:∀x∈l,p g x=some (q x)):qb p l g=some (fIdx q l):=by
 have h:=zbn (step:=zl1 p) (fun i=>(l,g,(l.length:Int),(i:Int),())) l q (fun i _=>(.inr ((i:Int),()):(Unit)⊕(Int×Unit))) (.inl ()) hl
  (by simp only[zl1,dge,cond_false])
  (fun i x hx=>by
   have hi:=(List.getElem?_eq_some_iff.1 hx).1
   simp only[zl1,dlt hi,zaj,hx,cond_true,hp x (List.mem_of_getElem? hx),zap (show i<9223372036854775807 by omega)])
 unfold qb
 rw[show zae (zl1 p) (l,g,(l.length:Int),0,())=_ from h]
 have e:=zb8 (p:=q) (g:=fun i _=>(.inr ((i:Int),()):(Unit)⊕(Int×Unit))) (d:=.inl ()) (fun r:(Unit)⊕(Int×Unit)=>match r with | .inl (_)=>(-1:Int) | .inr (v,_)=>v) (l:=l) (i:=0)
 dsimp only at e
 rw[←zc5,←e]
 generalize zeq q (fun i _=>(.inr ((i:Int),()):(Unit)⊕(Int×Unit))) (.inl ()) 0 l=r
 rcases r with _|⟨v,_⟩<;>rfl
theorem zarm {γ:Type} {p:γ→Hold→Option Bool} {g:γ} (q:Hold→Bool) {l:List Hold} (hl:l.length<1000000000) (hp:∀x∈l,p g x=some (q x)):qct p l g=some (l.any q):=by
 unfold qct
 rw[zai0 q hl hp]
 dsimp only
 rw[zapt]
theorem zayu (n lo hi:Int):qb1 n lo hi=some (rng lo hi n):=by
 unfold qb1
 simp -zeta only[k_or,za6]
 try rfl
theorem zajf (n:Int):qe1 n=some (rng 1 9999 n):=by
 unfold qe1
 simp -zeta only[k_or,za6]
 try rfl
theorem z66 (n:Int):qdz n=some (rng 0 109572 n):=by
 unfold qdz
 simp -zeta only[k_or,za6]
 try rfl
theorem zai8 (n:Int):qc6 n=some (rng 0 109572 n):=by
 unfold qc6
 simp -zeta only[k_or,za6]
 try rfl
theorem z0o {l:List Loan} (hl:l.length<1000000000):zae zkn (l,l,(l.length:Int),0,())=some (if zb6 (zdz l) 0 l==0 then .inl () else .inr (zb6 (zdz l) 0 l,())):=by
 have h:=zdr (step:=zkn) (fun i=>(l,l,(l.length:Int),(i:Int),())) l (zdz l) (.inl ()) (fun e=>.inr (e,())) hl
  (by simp only[zkn,dge,cond_false])
  (fun i x hx=>by
   have hi:=(List.getElem?_eq_some_iff.1 hx).1
   have hxm:=List.mem_of_getElem? hx
   unfold zdz
   simp only[zc4]
   rcases i with _|j
   ·simp -zeta only[zkn,dlt hi,zaj,hx,k_or,za6,zzk,cond_false,cond_true,zcd,zap (show 0<9223372036854775807 by omega),zajf,z66,zkb,Bool.or_assoc]
    simp only[Bool.or_assoc]
    try rfl
   ·have hj:l[j]?=some l[j]:=List.getElem?_eq_getElem (by omega)
    simp -zeta only[zkn,dlt hi,zaj,hx,k_or,za6,dpos,zgi (show j<1000000000 by omega),hj,cond_false,cond_true,zcd,zap (show j+1<9223372036854775807 by omega),zajf,z66,zkb,Bool.or_assoc]
    simp only[Bool.or_assoc]
    rfl)
 exact h
theorem zayw {l:List Loan} (hl:l.length<1000000000):qbd l=some (za9 l):=by
 unfold qbd za9
 rw[z0o hl]
 generalize zb6 (zdz l) 0 l=e
 cases decide (64<(l.length:Int)) with
 |true=>rfl
 |false=>
  by_cases h:e=0
  ·subst h;rfl
  ·have h2:(e==0)=false:=by simpa using h
   simp only[h2,Bool.false_eq_true,if_false,cond_false]
def za1m (q:Hold→Hold→Bool) (l:List Hold):Bool:=zct (fun i x=>(l.take i).all (fun y=>!(q y x))) 0 l
theorem z1y {X:Type} (q:X→Bool) (l:List X):l.any q=!(l.all (fun y=>!(q y))):=by
 induction l with
 |nil=>rfl
 |cons y l ih=>simp only[List.any_cons,List.all_cons];rw[ih];cases q y<;>rfl
end Go.Proofs.YtdahfgialanmpaaGreatDoor
namespace Go.Proofs.YtdahfgialanmpaaGreatDoor
open Ev
open Go (IntKind)
theorem zd1 {lo hi n:Int}:rng lo hi n=true↔lo≤n∧n≤hi:=by
 unfold rng
 simp only[Bool.and_eq_true,decide_eq_true_eq]
end Go.Proofs.YtdahfgialanmpaaGreatDoor
namespace Go.Proofs.YtdahfgialanmpaaGreatDoor
open Ev
open Go (IntKind)
theorem z6s {c:Circ} {item:Int} (hl:c.Items.length<1000000000):qaa c item=some (fIdx (fun x=>x.ID==item) c.Items):=by
 unfold qaa
 rw[zazb (fun x=>x.ID==item) hl (fun x _=>rfl)]
theorem z6r {c:Circ} {item:Int} (hl:c.Items.length<1000000000):(qaa c item=some (-1)∧c.Items.find? (fun x=>x.ID==item)=none)∨
 ∃(i:Nat) (x:Item),qaa c item=some (i:Int)∧c.Items[i]?=some x∧x.ID=item∧c.Items.find? (fun x=>x.ID==item)=some x:=by
 rw[z6s hl,←zart hl]
 exact zg1 hl
theorem zajb {l:List Loan} {item:Int} (hl:l.length<1000000000):qcz l item=some (zc6 l item):=by
 unfold qcz qab qbj zc6
 dsimp only
 rw[zajk (p:=fun (g:Unit×Int×Unit) x0=>qce x0 g.2.1) (g:=((),(item,()))) (fun x=>x.Item==item) hl (fun x _=>rfl)]
 rcases zbj (fun x:Loan=>x.Item==item) l with ⟨h1,h2⟩|⟨i,x,h1,h2,h3,h4⟩
 ·simp only[h1,h2,zia,cond_true]
  try rfl
 ·simp only[h1,h4,zhd,cond_false,zaj,h2]
  have:decide ((0:Int)≤(i:Int))=true:=by rw[decide_eq_true_eq];omega
  rw[this]
def zcq (x:Item):Bool:=rng 1 9999 x.ID&&rng 1 9999 x.Record&&rng 1 4 x.Branch&&rng 1 9 x.Kind&&rng 0 100000000 x.Price&&decide ((x.Call.length:Int)≤200)&&vld x.Call
def zcr (c:Circ) (x:Item):Bool:=!(!((zd0 x.Branch c.Moves x.ID).2.2==0)||!(zba (zd0 x.Branch c.Moves x.ID).1 x.Custody))
def z6l (c:Circ):Bool:=c.Moves.all (fun m=>(c.Items.find? (fun x=>x.ID==m.Item)).isSome)
def zhv (c:Circ):Bool:=!(decide (64<(c.Items.length:Int))||decide (2000<(c.Moves.length:Int)))&&(zct (fun i x=>!(!(zcq x)||zcd c.Items i (fun y=>decide (x.ID≤y.ID)))) 0 c.Items&&(z6l c&&c.Items.all (zcr c)))
end Go.Proofs.YtdahfgialanmpaaGreatDoor
namespace Go.Proofs.YtdahfgialanmpaaGreatDoor
open Ev
open Go (IntKind)
theorem zlh {X:Type} {key:X→Int} {l:List X} (h:∀i x,l[i]?=some x→zcd l i (fun y=>decide (key x≤key y))=false):∀(j i:Nat) (x y:X),i<j→l[i]?=some x→l[j]?=some y→key x<key y:=by
 intro j
 induction j with
 |zero=>intro i x y hi;omega
 |succ j ih=>
  intro i x y hi hx hy
  have hj:=(List.getElem?_eq_some_iff.1 hy).1
  have hz:l[j]?=some l[j]:=List.getElem?_eq_getElem (by omega)
  have:=h _ _ hy
  simp only[zcd,hz,decide_eq_false_iff_not]at this
  by_cases e:i=j
  ·subst e
   rw[hz]at hx;cases hx;omega
  ·have:=ih i x l[j] (by omega) hx hz
   omega
theorem zvd {X:Type} {key:X→Int} {l:List X} (h:∀i x,l[i]?=some x→zcd l i (fun y=>decide (key x≤key y))=false) {x:X} (hx:x∈l):l.find? (fun y=>key y==key x)=some x:=by
 rcases zbj (fun y=>key y==key x) l with ⟨h1,h2⟩|⟨i,y,h1,h2,h3,h4⟩
 ·rw[List.find?_eq_none]at h2
  exact absurd (beq_self_eq_true _) (h2 x hx)
 ·rw[h4]
  obtain ⟨j,hj⟩:=List.getElem?_of_mem hx
  have e:key y=key x:=by simpa using h3
  by_cases hij:i=j
  ·subst hij;rw[h2]at hj;exact hj
  ·rcases Nat.lt_or_gt_of_ne hij with hlt|hlt
   ·have:=zlh h _ _ _ _ hlt h2 hj;omega
   ·have:=zlh h _ _ _ _ hlt hj h2;omega
theorem z4e {X:Type} {f:Nat→X→Int}:∀{l:List X} {k:Nat},zb6 f k l=0→∀i x,l[i]?=some x→f (k+i) x=0:=by
 intro l
 induction l with
 |nil=>intro k _ i x hx;simp at hx
 |cons y l ih=>
  intro k h i x hx
  unfold zb6 at h
  by_cases e:f k y=0
  ·rw[e]at h
   simp only[beq_self_eq_true,if_true]at h
   cases i with
   |zero=>simp at hx;subst hx;exact e
   |succ i=>have:=ih h i x (by simpa using hx);rwa [show k+(i+1)=k+1+i by omega]
  ·have:(f k y==0)=false:=by simpa using e
   rw[this]at h
   exact absurd h e
theorem zgm {b:Bool} {n m:Int} (h:(bif b then n else m)=0) (hn:n≠0):b=false:=by
 cases b with
 |false=>rfl
 |true=>exact absurd h hn
theorem zjk {a b:Custody}:zba a b=true↔a=b:=by
 obtain ⟨a1,a2,a3,a4⟩:=a
 obtain ⟨b1,b2,b3,b4⟩:=b
 unfold zba
 simp[Bool.and_eq_true]
 try (constructor<;>(intro h;simp_all))
end Go.Proofs.YtdahfgialanmpaaGreatDoor
namespace Go.Proofs.YtdahfgialanmpaaGreatDoor
open Ev
open Go (IntKind)
theorem zt0 (c:Circ) (i:Nat) (x:Item):zdo c i x=(!(!(zcq x)||zcd c.Items i (fun y=>decide (x.ID≤y.ID)))&&zcr c x):=by
 unfold zdo zcr zcq
 rw[Bool.eq_iff_iff]
 simp only[Bool.and_eq_true,Bool.not_eq_true',Bool.or_eq_false_iff,decide_eq_false_iff_not,Bool.not_eq_false',zd1,decide_eq_true_eq]
 constructor
 ·rintro ⟨⟨h1,h2⟩,h3⟩
  obtain ⟨⟨⟨⟨⟨⟨a1,a2⟩,a3⟩,a4⟩,a5⟩,a6⟩,a7⟩:=h1
  obtain ⟨⟨⟨⟨⟨b1,b2⟩,b3⟩,b4⟩,b5⟩,b6⟩:=h2
  refine ⟨⟨⟨⟨⟨⟨⟨⟨⟨?_,?_⟩,⟨?_,?_⟩⟩,⟨?_,?_⟩⟩,⟨?_,?_⟩⟩,⟨?_,?_⟩⟩,?_⟩,b6⟩,a3⟩,h3⟩<;>omega
 ·rintro ⟨⟨h1,a3⟩,h3⟩
  obtain ⟨⟨⟨⟨⟨⟨⟨a1,a2⟩,⟨a4,a5⟩⟩,⟨a6,a7⟩⟩,⟨a8,a9⟩⟩,⟨b1,b2⟩⟩,b3⟩,b4⟩:=h1
  refine ⟨⟨⟨⟨⟨⟨⟨⟨?_,?_⟩,a3⟩,?_⟩,?_⟩,?_⟩,?_⟩,⟨⟨⟨⟨⟨?_,?_⟩,?_⟩,?_⟩,?_⟩,b4⟩⟩,h3⟩<;>omega
theorem zqr (c:Circ):zes c=zhv c:=by
 have key:zct (zdo c) 0 c.Items=(zct (fun i x=>!(!(zcq x)||zcd c.Items i (fun y=>decide (x.ID≤y.ID)))) 0 c.Items&&c.Items.all (zcr c)):=by
  have gen:∀(l:List Item) (k:Nat),zct (zdo c) k l=(zct (fun i x=>!(!(zcq x)||zcd c.Items i (fun y=>decide (x.ID≤y.ID)))) k l&&l.all (zcr c)):=by
   intro l
   induction l with
   |nil=>intro k;rfl
   |cons x l ih=>
    intro k
    simp only[zct,List.all_cons]
    rw[ih,zt0]
    generalize (!(!(zcq x)||zcd c.Items k (fun y=>decide (x.ID≤y.ID))))=b1
    generalize zct (fun i x=>!(!(zcq x)||zcd c.Items i (fun y=>decide (x.ID≤y.ID)))) (k+1) l=b2
    cases b1<;>cases b2<;>cases zcr c x<;>cases l.all (zcr c)<;>rfl
  exact gen _ _
 unfold zes zhv z6l
 rw[key]
 generalize (!(decide (64<(c.Items.length:Int))||decide (2000<(c.Moves.length:Int))))=b1
 generalize zct (fun i x=>!(!(zcq x)||zcd c.Items i (fun y=>decide (x.ID≤y.ID)))) 0 c.Items=b2
 generalize c.Moves.all (fun m=>(c.Items.find? (fun x=>x.ID==m.Item)).isSome)=b3
 cases b1<;>cases b2<;>cases b3<;>cases c.Items.all (zcr c)<;>rfl
theorem zqt {c:Circ} (h:zhv c=true):∀i x,c.Items[i]?=some x→zcd c.Items i (fun y=>decide (x.ID≤y.ID))=false:=by
 intro i x hx
 unfold zhv at h
 simp only[Bool.and_eq_true]at h
 have:=(ziv.1 h.2.1) i x hx
 rw[Nat.zero_add]at this
 simp only[Bool.not_eq_true',Bool.or_eq_false_iff]at this
 exact this.2
theorem zqs {c:Circ} (h:zhv c=true) {x:Item} (hx:x∈c.Items):zcr c x=true:=by
 unfold zhv at h
 simp only[Bool.and_eq_true,List.all_eq_true]at h
 exact h.2.2.2 x hx
end Go.Proofs.YtdahfgialanmpaaGreatDoor
namespace Go.Proofs.YtdahfgialanmpaaGreatDoor
open Ev
open Go (IntKind)
theorem zco {X:Type} (l:List X):l.all (fun _=>true)=true:=by rw[List.all_eq_true];intros;rfl
theorem zbb (x:Custody):zba x x=true:=by simp[zba]
theorem zon (x:Item):zom x x=true:=by simp[zom,zbb]
theorem zjl (x:Patron):zhf x x=true:=by simp[zhf,zbb]
theorem zop (x:Loan):zoo x x=true:=by simp[zoo,zbb]
theorem zol (x:Hold):zok x x=true:=by simp[zok,zbb]
theorem zjj (x:Charge):zhe x x=true:=by simp[zhe,zbb]
theorem zot (x:Rule):zos x x=true:=by simp[zos,zbb]
theorem zor (x:Move):zoq x x=true:=by simp[zoq,zbb]
theorem z0q {c:Circ} (hs:Short c):zae zuk (0,c,c,())=some (.inl (c,c,())):=by
 have h:=zav (step:=zuk) (fun i=>((i:Int),c,c,())) c.Items (fun _ _=>true) (.inr (false,())) (.inl (c,c,())) hs.items
  (by simp only[zuk,dge,cond_false])
  (fun i x hx=>by
   have hi:=(List.getElem?_eq_some_iff.1 hx).1
   have:=hs.items
   simp only[zuk,dlt hi,zaj,hx,cond_true,zon,Bool.not_true,cond_false,zap (show i<9223372036854775807 by omega)])
 rw[show zae zuk (0,c,c,())=_ from h,zay]
 rw[zco];rfl
theorem zue {c:Circ} (hs:Short c):zae zkr (0,c,c,())=some (.inl (c,c,())):=by
 have h:=zav (step:=zkr) (fun i=>((i:Int),c,c,())) c.Patrons (fun _ _=>true) (.inr (false,())) (.inl (c,c,())) hs.patrons
  (by simp only[zkr,dge,cond_false])
  (fun i x hx=>by
   have hi:=(List.getElem?_eq_some_iff.1 hx).1
   have:=hs.patrons
   simp only[zkr,dlt hi,zaj,hx,cond_true,zjl,Bool.not_true,cond_false,zap (show i<9223372036854775807 by omega)])
 rw[show zae zkr (0,c,c,())=_ from h,zay]
 rw[zco];rfl
theorem zuf {c:Circ} (hs:Short c):zae zks (0,c,c,())=some (.inl (c,c,())):=by
 have h:=zav (step:=zks) (fun i=>((i:Int),c,c,())) c.Loans (fun _ _=>true) (.inr (false,())) (.inl (c,c,())) hs.loans
  (by simp only[zks,dge,cond_false])
  (fun i x hx=>by
   have hi:=(List.getElem?_eq_some_iff.1 hx).1
   have:=hs.loans
   simp only[zks,dlt hi,zaj,hx,cond_true,zop,Bool.not_true,cond_false,zap (show i<9223372036854775807 by omega)])
 rw[show zae zks (0,c,c,())=_ from h,zay]
 rw[zco];rfl
theorem zug {c:Circ} (hs:Short c):zae zkt (0,c,c,())=some (.inl (c,c,())):=by
 have h:=zav (step:=zkt) (fun i=>((i:Int),c,c,())) c.Holds (fun _ _=>true) (.inr (false,())) (.inl (c,c,())) hs.holds
  (by simp only[zkt,dge,cond_false])
  (fun i x hx=>by
   have hi:=(List.getElem?_eq_some_iff.1 hx).1
   have:=hs.holds
   simp only[zkt,dlt hi,zaj,hx,cond_true,zol,Bool.not_true,cond_false,zap (show i<9223372036854775807 by omega)])
 rw[show zae zkt (0,c,c,())=_ from h,zay]
 rw[zco];rfl
theorem zuh {c:Circ} (hs:Short c):zae zku (0,c,c,())=some (.inl (c,c,())):=by
 have h:=zav (step:=zku) (fun i=>((i:Int),c,c,())) c.Charges (fun _ _=>true) (.inr (false,())) (.inl (c,c,())) hs.charges
  (by simp only[zku,dge,cond_false])
  (fun i x hx=>by
   have hi:=(List.getElem?_eq_some_iff.1 hx).1
   have:=hs.charges
   simp only[zku,dlt hi,zaj,hx,cond_true,zjj,Bool.not_true,cond_false,zap (show i<9223372036854775807 by omega)])
 rw[show zae zku (0,c,c,())=_ from h,zay]
 rw[zco];rfl
theorem zui {c:Circ} (hs:Short c):zae zkv (0,c,c,())=some (.inl (c,c,())):=by
 have h:=zav (step:=zkv) (fun i=>((i:Int),c,c,())) c.Rules (fun _ _=>true) (.inr (false,())) (.inl (c,c,())) hs.rules
  (by simp only[zkv,dge,cond_false])
  (fun i x hx=>by
   have hi:=(List.getElem?_eq_some_iff.1 hx).1
   have:=hs.rules
   simp only[zkv,dlt hi,zaj,hx,cond_true,zot,Bool.not_true,cond_false,zap (show i<9223372036854775807 by omega)])
 rw[show zae zkv (0,c,c,())=_ from h,zay]
 rw[zco];rfl
theorem zuj {c:Circ} (hs:Short c):zae zkw (0,c,c,())=some (.inl (c,c,())):=by
 have h:=zav (step:=zkw) (fun i=>((i:Int),c,c,())) c.Moves (fun _ _=>true) (.inr (false,())) (.inl (c,c,())) hs.moves
  (by simp only[zkw,dge,cond_false])
  (fun i x hx=>by
   have hi:=(List.getElem?_eq_some_iff.1 hx).1
   have:=hs.moves
   simp only[zkw,dlt hi,zaj,hx,cond_true,zor,Bool.not_true,cond_false,zap (show i<9223372036854775807 by omega)])
 rw[show zae zkw (0,c,c,())=_ from h,zay]
 rw[zco];rfl
theorem zuq {c:Circ} (hs:Short c):zae zd4 (0,0,c,c,())=some (.inl (0,c,c,())):=by
 have st:∀k:Int,zd4 (0,k,c,c,())=(bif decide (k<(c.Cals.x0.Closed.length:Int)) then (match getI c.Cals.x0.Closed k with|some x=>(match getI c.Cals.x0.Closed k with|some y=>(bif !(x==y) then some (.inr (.inr (false,()))) else some (.inl (0,wr .i64 (k+1),c,c,())))|none=>none)|none=>none) else some (.inr (.inl (0,c,c,())))):=fun k=>rfl
 have h:=zav (step:=zd4) (fun k=>(0,(k:Int),c,c,())) c.Cals.x0.Closed (fun _ _=>true) (.inr (false,())) (.inl (0,c,c,())) hs.cal0
  (by rw[st];simp only[dge,cond_false])
  (fun k x hx=>by
   have hi:=(List.getElem?_eq_some_iff.1 hx).1
   have:=hs.cal0
   rw[st]
   simp only[dlt hi,zaj,hx,cond_true,beq_self_eq_true,Bool.not_true,cond_false,zap (show k<9223372036854775807 by omega)])
 rw[show zae zd4 (0,0,c,c,())=_ from h,zay]
 rw[zco];rfl
theorem zaez {c:Circ} (hs:Short c):zif (0,c,c,())=some (.inl (1,c,c,())):=by
 have st:zif (0,c,c,())=(bif !(c.Cals.x0.Week==c.Cals.x0.Week) then some (.inr (.inr (false,()))) else bif !((c.Cals.x0.Closed.length:Int)==(c.Cals.x0.Closed.length:Int)) then some (.inr (.inr (false,()))) else
  match zae zd4 (0,0,c,c,()) with
  |some (.inl (i,a,b,_))=>some (.inl (wr .i64 (i+1),a,b,()))
  |some (.inr (v,_))=>some (.inr (.inr (v,())))
  |none=>none):=by
  show (bif !(c.Cals.x0.Week==c.Cals.x0.Week) then _ else _)=_
  cases (!(c.Cals.x0.Week==c.Cals.x0.Week))<;>rfl
 rw[st,zuq hs]
 simp only[beq_self_eq_true,Bool.not_true,cond_false]
 try rfl
theorem zur {c:Circ} (hs:Short c):zae zd4 (1,0,c,c,())=some (.inl (1,c,c,())):=by
 have st:∀k:Int,zd4 (1,k,c,c,())=(bif decide (k<(c.Cals.x1.Closed.length:Int)) then (match getI c.Cals.x1.Closed k with|some x=>(match getI c.Cals.x1.Closed k with|some y=>(bif !(x==y) then some (.inr (.inr (false,()))) else some (.inl (1,wr .i64 (k+1),c,c,())))|none=>none)|none=>none) else some (.inr (.inl (1,c,c,())))):=fun k=>rfl
 have h:=zav (step:=zd4) (fun k=>(1,(k:Int),c,c,())) c.Cals.x1.Closed (fun _ _=>true) (.inr (false,())) (.inl (1,c,c,())) hs.cal1
  (by rw[st];simp only[dge,cond_false])
  (fun k x hx=>by
   have hi:=(List.getElem?_eq_some_iff.1 hx).1
   have:=hs.cal1
   rw[st]
   simp only[dlt hi,zaj,hx,cond_true,beq_self_eq_true,Bool.not_true,cond_false,zap (show k<9223372036854775807 by omega)])
 rw[show zae zd4 (1,0,c,c,())=_ from h,zay]
 rw[zco];rfl
theorem zae0 {c:Circ} (hs:Short c):zif (1,c,c,())=some (.inl (2,c,c,())):=by
 have st:zif (1,c,c,())=(bif !(c.Cals.x1.Week==c.Cals.x1.Week) then some (.inr (.inr (false,()))) else bif !((c.Cals.x1.Closed.length:Int)==(c.Cals.x1.Closed.length:Int)) then some (.inr (.inr (false,()))) else
  match zae zd4 (1,0,c,c,()) with
  |some (.inl (i,a,b,_))=>some (.inl (wr .i64 (i+1),a,b,()))
  |some (.inr (v,_))=>some (.inr (.inr (v,())))
  |none=>none):=by
  show (bif !(c.Cals.x1.Week==c.Cals.x1.Week) then _ else _)=_
  cases (!(c.Cals.x1.Week==c.Cals.x1.Week))<;>rfl
 rw[st,zur hs]
 simp only[beq_self_eq_true,Bool.not_true,cond_false]
 try rfl
theorem zus {c:Circ} (hs:Short c):zae zd4 (2,0,c,c,())=some (.inl (2,c,c,())):=by
 have st:∀k:Int,zd4 (2,k,c,c,())=(bif decide (k<(c.Cals.x2.Closed.length:Int)) then (match getI c.Cals.x2.Closed k with|some x=>(match getI c.Cals.x2.Closed k with|some y=>(bif !(x==y) then some (.inr (.inr (false,()))) else some (.inl (2,wr .i64 (k+1),c,c,())))|none=>none)|none=>none) else some (.inr (.inl (2,c,c,())))):=fun k=>rfl
 have h:=zav (step:=zd4) (fun k=>(2,(k:Int),c,c,())) c.Cals.x2.Closed (fun _ _=>true) (.inr (false,())) (.inl (2,c,c,())) hs.cal2
  (by rw[st];simp only[dge,cond_false])
  (fun k x hx=>by
   have hi:=(List.getElem?_eq_some_iff.1 hx).1
   have:=hs.cal2
   rw[st]
   simp only[dlt hi,zaj,hx,cond_true,beq_self_eq_true,Bool.not_true,cond_false,zap (show k<9223372036854775807 by omega)])
 rw[show zae zd4 (2,0,c,c,())=_ from h,zay]
 rw[zco];rfl
theorem zae1 {c:Circ} (hs:Short c):zif (2,c,c,())=some (.inl (3,c,c,())):=by
 have st:zif (2,c,c,())=(bif !(c.Cals.x2.Week==c.Cals.x2.Week) then some (.inr (.inr (false,()))) else bif !((c.Cals.x2.Closed.length:Int)==(c.Cals.x2.Closed.length:Int)) then some (.inr (.inr (false,()))) else
  match zae zd4 (2,0,c,c,()) with
  |some (.inl (i,a,b,_))=>some (.inl (wr .i64 (i+1),a,b,()))
  |some (.inr (v,_))=>some (.inr (.inr (v,())))
  |none=>none):=by
  show (bif !(c.Cals.x2.Week==c.Cals.x2.Week) then _ else _)=_
  cases (!(c.Cals.x2.Week==c.Cals.x2.Week))<;>rfl
 rw[st,zus hs]
 simp only[beq_self_eq_true,Bool.not_true,cond_false]
 try rfl
theorem zut {c:Circ} (hs:Short c):zae zd4 (3,0,c,c,())=some (.inl (3,c,c,())):=by
 have st:∀k:Int,zd4 (3,k,c,c,())=(bif decide (k<(c.Cals.x3.Closed.length:Int)) then (match getI c.Cals.x3.Closed k with|some x=>(match getI c.Cals.x3.Closed k with|some y=>(bif !(x==y) then some (.inr (.inr (false,()))) else some (.inl (3,wr .i64 (k+1),c,c,())))|none=>none)|none=>none) else some (.inr (.inl (3,c,c,())))):=fun k=>rfl
 have h:=zav (step:=zd4) (fun k=>(3,(k:Int),c,c,())) c.Cals.x3.Closed (fun _ _=>true) (.inr (false,())) (.inl (3,c,c,())) hs.cal3
  (by rw[st];simp only[dge,cond_false])
  (fun k x hx=>by
   have hi:=(List.getElem?_eq_some_iff.1 hx).1
   have:=hs.cal3
   rw[st]
   simp only[dlt hi,zaj,hx,cond_true,beq_self_eq_true,Bool.not_true,cond_false,zap (show k<9223372036854775807 by omega)])
 rw[show zae zd4 (3,0,c,c,())=_ from h,zay]
 rw[zco];rfl
theorem zae2 {c:Circ} (hs:Short c):zif (3,c,c,())=some (.inl (4,c,c,())):=by
 have st:zif (3,c,c,())=(bif !(c.Cals.x3.Week==c.Cals.x3.Week) then some (.inr (.inr (false,()))) else bif !((c.Cals.x3.Closed.length:Int)==(c.Cals.x3.Closed.length:Int)) then some (.inr (.inr (false,()))) else
  match zae zd4 (3,0,c,c,()) with
  |some (.inl (i,a,b,_))=>some (.inl (wr .i64 (i+1),a,b,()))
  |some (.inr (v,_))=>some (.inr (.inr (v,())))
  |none=>none):=by
  show (bif !(c.Cals.x3.Week==c.Cals.x3.Week) then _ else _)=_
  cases (!(c.Cals.x3.Week==c.Cals.x3.Week))<;>rfl
 rw[st,zut hs]
 simp only[beq_self_eq_true,Bool.not_true,cond_false]
 try rfl
theorem zaru {c:Circ} (hs:Short c):qw c c=some true:=by
 have s4:zif (4,c,c,())=some (.inr (.inl ())):=rfl
 have h:zae zif (0,c,c,())=some (.inl ()):=by
  refine zci 5 (by rw[zbs];omega) ?_
  simp only[zbh,zaez hs,zae0 hs,zae1 hs,zae2 hs,s4]
 unfold qw
 rw[h]
theorem z61 {c:Circ} (hs:Short c):qc c c=some true:=by
 unfold qc
 simp -zeta only[k_or,beq_self_eq_true,Bool.not_true,Bool.or_false]
 dsimp only
 simp only[z0q hs,zue hs,zuf hs,zug hs,zuh hs,zui hs,zuj hs,zaru hs,Bool.or_false,cond_false]
end Go.Proofs.YtdahfgialanmpaaGreatDoor
namespace Go.Proofs.YtdahfgialanmpaaGreatDoor
open Ev
open Go (IntKind)
theorem zair {n m:Nat} (h:n+m≤1000000100):decide (n+m≤LIM)=true:=by rw[decide_eq_true_eq];unfold LIM;omega
theorem zn5 {X:Type} {s:List X} (h:s.length<1000000000):decide (([]:List X).length+s.length≤LIM)=true:=zair (by simp;omega)
def zea:Circ:=⟨0,[],[],[],[],[],[],⟨⟨0,[]⟩,⟨0,[]⟩,⟨0,[]⟩,⟨0,[]⟩⟩,[],0,0,false⟩
theorem zsa:Short zea:=by
 constructor<;>first|(show (0:Nat)<_;decide)|(intro x hx;cases hx)
end Go.Proofs.YtdahfgialanmpaaGreatDoor
namespace Go.Proofs.YtdahfgialanmpaaGreatDoor
open Ev
open Go (IntKind)
def ChOk (x:Charge):Prop:=0≤x.Paid∧x.Paid<x.Amount∧x.Amount≤100000000
theorem zma {l:List Charge} (h:zcb l=0):l.length≤128∧∀x∈l,ChOk x:=by
 unfold zcb at h
 rw[Bool.cond_eq_ite]at h
 split at h
 ·omega
 ·rename_i hlen
  simp only[decide_eq_true_eq]at hlen
  refine ⟨by omega,fun x hx=>?_⟩
  obtain ⟨i,hi⟩:=List.getElem?_of_mem hx
  have:=zzn.1 h i x hi
  unfold zdw at this
  simp only[Bool.cond_eq_ite]at this
  split at this
  ·omega
  ·split at this
   ·omega
   ·split at this
    ·omega
    ·split at this
     ·omega
     ·rename_i h4
      simp only[Bool.or_eq_true,decide_eq_true_eq,not_or]at h4
      unfold ChOk
      omega
def owed (p:Int):List Charge→Int
 | []=>0
 |x::l=>(bif x.Patron==p then x.Amount-x.Paid else 0)+owed p l
theorem zays {l:List Charge} {p:Int} (hl:l.length≤1000) (hc:∀x∈l,ChOk x):qaw l p=some (owed p l):=by
 have h:=zln (step:=znb) (fun i (s:Int)=>(p,s,l,(l.length:Int),(i:Int),())) l (fun x s=>bif x.Patron==p then wr .i64 (s+wr .i64 (x.Amount-x.Paid)) else s) (fun s=>(s,())) (by omega)
  (fun s=>by simp only[znb,dge,cond_false])
  (fun i x s hx=>by
   have hi:=(List.getElem?_eq_some_iff.1 hx).1
   simp only[znb,dlt hi,cond_true,zaj,hx,zap (show i<9223372036854775807 by omega)]
   cases x.Patron==p<;>rfl) 0
 unfold qaw
 rw[show zae znb (p,0,l,(l.length:Int),0,())=_ from h]
 have key:∀(l:List Charge) (s:Int),(∀x∈l,ChOk x)→0≤s→s+100000000*(l.length:Int)≤1000000000000→l.foldl (fun s x=>bif x.Patron==p then wr .i64 (s+wr .i64 (x.Amount-x.Paid)) else s) s=s+owed p l:=by
  intro l
  induction l with
  |nil=>intro s _ _ _;simp[owed]
  |cons x l ih=>
   intro s h h0 hb
   have h1:=h x (by simp)
   unfold ChOk at h1
   simp only[List.length_cons]at hb
   simp only[List.foldl_cons,owed]
   cases x.Patron==p with
   |true=>
    simp only[cond_true]
    rw[zcu (n:=x.Amount-x.Paid) (by omega) (by omega),zcu (by omega) (by omega),ih _ (fun y hy=>h y (by simp[hy])) (by omega) (by omega)]
    omega
   |false=>
    simp only[cond_false]
    rw[ih _ (fun y hy=>h y (by simp[hy])) h0 (by omega)]
    omega
 simp only
 rw[key l 0 hc (by omega) (by omega)]
 simp
end Go.Proofs.YtdahfgialanmpaaGreatDoor
namespace Go.Proofs.YtdahfgialanmpaaGreatDoor
open Ev
open Go (IntKind)
theorem zay0 {l:List Charge} {p:Int} (hl:l.length≤1000) (hc:∀x∈l,ChOk x):qbz l p=some (owed p l):=by
 have h:=zln (step:=znh) (fun i (s:Int)=>(l,p,s,(i:Int),())) l (fun x s=>bif x.Patron==p then wr .i64 ((wr .i64 (s+x.Amount))-x.Paid) else s) (fun s=>(s,())) (by omega)
  (fun s=>by simp only[znh,dge,cond_false])
  (fun i x s hx=>by
   have hi:=(List.getElem?_eq_some_iff.1 hx).1
   simp only[znh,dlt hi,cond_true,zaj,hx,zap (show i<9223372036854775807 by omega)]
   cases x.Patron==p<;>rfl) 0
 unfold qbz
 rw[show zae znh (l,p,0,0,())=_ from h]
 have key:∀(l:List Charge) (s:Int),(∀x∈l,ChOk x)→0≤s→s+100000000*(l.length:Int)≤1000000000000→l.foldl (fun s x=>bif x.Patron==p then wr .i64 ((wr .i64 (s+x.Amount))-x.Paid) else s) s=s+owed p l:=by
  intro l
  induction l with
  |nil=>intro s _ _ _;simp[owed]
  |cons x l ih=>
   intro s h h0 hb
   have h1:=h x (by simp)
   unfold ChOk at h1
   simp only[List.length_cons]at hb
   simp only[List.foldl_cons,owed]
   cases x.Patron==p with
   |true=>
    simp only[cond_true]
    rw[zcu (n:=s+x.Amount) (by omega) (by omega),zcu (by omega) (by omega),ih _ (fun y hy=>h y (by simp[hy])) (by omega) (by omega)]
    omega
   |false=>
    simp only[cond_false]
    rw[ih _ (fun y hy=>h y (by simp[hy])) h0 (by omega)]
    omega
 simp only
 rw[key l 0 hc (by omega) (by omega)]
 simp
def cntS {X:Type} (p:X→Bool):List X→Nat
 | []=>0
 |x::l=>(bif p x then 1 else 0)+cntS p l
theorem zv6 {X:Type} {p:X→Bool}:∀{l:List X} {n:Nat},l.foldl (fun n x=>bif p x then n+1 else n) n=n+cntS p l:=by
 intro l
 induction l with
 |nil=>intro n;rfl
 |cons x l ih=>intro n;rw[List.foldl_cons,ih];simp only[cntS];cases p x<;>simp<;>omega
theorem zs4 {X:Type} {p q:X→Bool}:∀{l:List X},cntS q (l.filter p)=cntS (fun x=>p x&&q x) l:=by
 intro l
 induction l with
 |nil=>rfl
 |cons x l ih=>simp only[List.filter_cons,cntS];cases p x with|true=>simp[cntS,ih]|false=>simp[ih]
theorem za05 {l:List Loan} {p:Int} (hl:l.length<1000000000):q8 l p=some (l.filter (fun x=>x.Patron==p)):=by
 have h:=zbz (step:=z0g) (fun (i:Nat) (s:List Loan)=>s.length≤i) (fun i s=>(p,l,(l.length:Int),(i:Int),s,())) l
  (fun i y s=>.inl (bif y.Patron==p then s++[y] else s)) (fun s=>(s,())) (by rw[zbs];omega)
  (fun s _=>by simp only[z0g,dge,cond_false])
  (fun i y s hx hi=>by
   have hlt:=(List.getElem?_eq_some_iff.1 hx).1
   have l1:decide (s.length+([y]:List Loan).length≤LIM)=true:=zair (by simp;omega)
   refine ⟨?_,fun s' hs'=>?_⟩
   ·simp only[z0g,dlt hlt,zaj,hx,cond_true,l1,zap (show i<9223372036854775807 by omega)]
    cases y.Patron==p<;>rfl
   ·cases hs'
    cases y.Patron==p<;>simp<;>omega) [] (by simp)
 rw[zf0]at h
 unfold q8
 rw[show zae z0g (p,l,(l.length:Int),0,[],())=_ from h]
 have key:∀(l o:List Loan),l.foldl (fun s y=>bif y.Patron==p then s++[y] else s) o=o++l.filter (fun x=>x.Patron==p):=by
  intro l
  induction l with
  |nil=>intro o;simp
  |cons x l ih=>intro o;rw[List.foldl_cons,ih,List.filter_cons];cases x.Patron==p<;>simp
 simp only
 rw[key]
 try rfl
def zt4 (p day:Int) (l:List Loan):Int:=(cntS (fun x=>x.Patron==p&&decide (x.Due<day)) l:Int)
theorem zayl {l:List Loan} {p day:Int} (hl:l.length<1000000000):qam l p day=some (zt4 p day l):=by
 unfold qam zt4
 rw[za05 hl,←zs4]
 have hf:(l.filter (fun x=>x.Patron==p)).length<1000000000:=by have:=List.length_filter_le (fun x:Loan=>x.Patron==p) l;omega
 generalize l.filter (fun x=>x.Patron==p)=m at hf ⊢
 have h:=zbz (step:=zm7) (fun (i:Nat) (s:Nat)=>s≤i) (fun i s=>(day,(s:Int),m,(m.length:Int),(i:Int),())) m
  (fun i y s=>.inl (bif decide (y.Due<day) then s+1 else s)) (fun s=>((s:Int),())) (by rw[zbs];omega)
  (fun s _=>by simp only[zm7,dge,cond_false])
  (fun i y s hx hi=>by
   have hlt:=(List.getElem?_eq_some_iff.1 hx).1
   refine ⟨?_,fun s' hs'=>?_⟩
   ·simp only[zm7,dlt hlt,zaj,hx,cond_true,zap (show i<9223372036854775807 by omega),zap (show s<9223372036854775807 by omega)]
    cases decide (y.Due<day)<;>rfl
   ·cases hs'
    cases decide (y.Due<day)<;>simp<;>omega) 0 (by omega)
 rw[zf0]at h
 simp only
 rw[show zae zm7 (day,0,m,(m.length:Int),0,())=_ from h,zv6,Nat.zero_add]
theorem zayz {l:List Loan} {p day:Int} (hl:l.length<1000000000):qby l p day=some (zt4 p day l):=by
 unfold qby zt4
 have h:=zbz (step:=zng) (fun (i:Nat) (s:Nat)=>s≤i) (fun i s=>(l,p,day,(s:Int),(i:Int),())) l
  (fun i y s=>.inl (bif y.Patron==p&&decide (y.Due<day) then s+1 else s)) (fun s=>((s:Int),())) (by rw[zbs];omega)
  (fun s _=>by simp only[zng,dge,cond_false])
  (fun i y s hx hi=>by
   have hlt:=(List.getElem?_eq_some_iff.1 hx).1
   refine ⟨?_,fun s' hs'=>?_⟩
   ·simp -zeta only[zng,dlt hlt,zaj,hx,cond_true,za6,zap (show i<9223372036854775807 by omega),zap (show s<9223372036854775807 by omega)]
    dsimp only
    cases (y.Patron==p&&decide (y.Due<day))<;>rfl
   ·cases hs'
    cases (y.Patron==p&&decide (y.Due<day))<;>simp<;>omega) 0 (by omega)
 rw[zf0]at h
 rw[show zae zng (l,p,day,0,0,())=_ from h,zv6,Nat.zero_add]
def ze4 (p:Patron) (day owed late:Int):List Int:=(bif p.Stopped then [1] else [])++((bif decide (p.Until<day) then [2] else [])++((bif decide (1000<owed) then [3] else [])++(bif decide (2<late) then [4] else [])))
theorem zazj (p:Patron) (day owed late:Int):qfr p day owed late=some (ze4 p day owed late):=by
 unfold qfr ze4
 cases p.Stopped<;>cases decide (p.Until<day)<;>cases decide (1000<owed)<;>cases decide (2<late)<;>rfl
theorem zayv (p:Patron) (day owed late:Int):qba p day owed late=some (ze4 p day owed late):=by
 unfold qba ze4
 generalize p.Stopped=b1
 generalize decide (p.Until<day)=b2
 generalize decide (1000<owed)=b3
 generalize decide (2<late)=b4
 have h:zae z60 ((([b1,b2,b3,b4]).length:Int),0,([]:List Int),[b1,b2,b3,b4],())=some (((bif b1 then [1] else [])++((bif b2 then [2] else [])++((bif b3 then [3] else [])++(bif b4 then [4] else [])))),()):=by
  refine zci 5 (by rw[zbs];omega) ?_
  cases b1<;>cases b2<;>cases b3<;>cases b4<;>rfl
 rw[h]
theorem zay7 {c:Circ} {p:Patron} (hs:Short c) (hc:zcb c.Charges=0):qda c p=some (decide (0<((ze4 p c.Today (owed p.ID c.Charges) (zt4 p.ID c.Today c.Loans)).length:Int))):=by
 obtain ⟨h1,h2⟩:=zma hc
 unfold qda
 rw[zays (by omega) h2,zayl hs.loans]
 dsimp only
 rw[zayv]
theorem zaza {c:Circ} {id:Int} (hs:Short c) (hc:zcb c.Charges=0):qe9 c id=some (decide (0<((ze4 (getP c.Patrons id).1 c.Today (owed id c.Charges) (zt4 id c.Today c.Loans)).length:Int))):=by
 obtain ⟨h1,h2⟩:=zma hc
 unfold qe9
 rw[zg0 hs.patrons,zay0 (by omega) h2,zayz hs.loans]
 dsimp only
 rw[zazj]
end Go.Proofs.YtdahfgialanmpaaGreatDoor
namespace Go.Proofs.YtdahfgialanmpaaGreatDoor
open Ev
open Go (IntKind)
def zdb (r:Rule):Int:=(bif !(r.Patron==0) then 4 else 0)+((bif !(r.Item==0) then 2 else 0)+(bif !(r.Branch==0) then 1 else 0))
theorem zaze (r:Rule):qet r=some (zdb r):=by
 unfold qet zdb
 cases r.Patron==0<;>cases r.Item==0<;>cases r.Branch==0<;>rfl
theorem zayx (r:Rule):qbh r=some (zdb r):=by
 unfold qbh
 have st:∀(a b c n:Int),(∀(m:Int),zh0 (m,3,0,[a,b,c],())=some (.inl (bif !(a==0) then wr .i64 ((wr .i64 (m*2))+1) else wr .i64 (m*2),3,1,[a,b,c],())))∧
  (∀(m:Int),zh0 (m,3,1,[a,b,c],())=some (.inl (bif !(b==0) then wr .i64 ((wr .i64 (m*2))+1) else wr .i64 (m*2),3,2,[a,b,c],())))∧
  (∀(m:Int),zh0 (m,3,2,[a,b,c],())=some (.inl (bif !(c==0) then wr .i64 ((wr .i64 (m*2))+1) else wr .i64 (m*2),3,3,[a,b,c],()))):=fun a b c n=>
  ⟨fun m=>by show (bif !(a==0) then _ else _)=_;cases a==0<;>rfl,fun m=>by show (bif !(b==0) then _ else _)=_;cases b==0<;>rfl,fun m=>by show (bif !(c==0) then _ else _)=_;cases c==0<;>rfl⟩
 obtain ⟨s0,s1,s2⟩:=st r.Patron r.Item r.Branch 0
 have s3:∀m:Int,zh0 (m,3,3,[r.Patron,r.Item,r.Branch],())=some (.inr (m,())):=fun m=>rfl
 have h:zae zh0 (0,(([r.Patron,r.Item,r.Branch]).length:Int),0,[r.Patron,r.Item,r.Branch],())=some (zdb r,()):=by
  refine zci 4 (by rw[zbs];omega) ?_
  show zbh zh0 4 (0,3,0,[r.Patron,r.Item,r.Branch],())=_
  simp only[zbh,s0,s1,s2,s3]
  unfold zdb
  cases r.Patron==0<;>cases r.Item==0<;>cases r.Branch==0<;>rfl
 rw[h]
def zlt (r:Rule) (p i b:Int):Bool:=(r.Patron==0||r.Patron==p)&&(r.Item==0||r.Item==i)&&(r.Branch==0||r.Branch==b)
theorem zajh (r:Rule) (p i b:Int):qfh r p i b=some (zlt r p i b):=by
 unfold qfh zlt
 simp -zeta only[k_or,za6]
 try rfl
theorem zazd (a b:Int):qem a b=some (a==0||a==b):=by
 unfold qem
 cases a==0<;>rfl
theorem zaiz (r:Rule) (p i b:Int):qb7 r p i b=some (zlt r p i b):=by
 unfold qb7 zlt
 simp -zeta only[zazd,k_or,za6]
 try dsimp only
def wB (l:List Rule) (b:Int):Int:=match getI l b with|some y=>zdb y|none=>0
def zpv (l:List Rule) (p it br:Int) (i:Nat) (x:Rule) (b:Int):Int:=bif zlt x p it br&&(decide (b<0)||decide (wB l b<zdb x)) then (i:Int) else b
def zaas (l:List Rule) (p it br:Int):Int:=zdl (fun i x b=>.inl (zpv l p it br i x b)) (fun b=>b) 0 l (-1)
def zfc (l:List Rule) (b:Int):Prop:=b<0∨∃k:Nat,b=(k:Int)∧k<l.length
theorem zpw {l:List Rule} {b:Int} (h:zfc l b) (hb:decide (b<0)=false):∃y,getI l b=some y∧wB l b=zdb y:=by
 rcases h with h|⟨k,rfl,hk⟩
 ·rw[decide_eq_false_iff_not]at hb;omega
 ·have:getI l (k:Int)=some l[k]:=by rw[zaj,List.getElem?_eq_getElem hk]
  exact ⟨_,this,by unfold wB;rw[this]⟩
theorem zi0 {l:List Rule} {p it br:Int} {i:Nat} {x:Rule} {b:Int} (h:zfc l b) (hi:i<l.length):zfc l (zpv l p it br i x b):=by
 unfold zpv
 cases zlt x p it br&&(decide (b<0)||decide (wB l b<zdb x)) with
 |true=>exact .inr ⟨i,rfl,hi⟩
 |false=>exact h
theorem zsl {X σ β γ:Type} {f:Nat→X→σ→σ} {g:σ→β} (k:β→γ):∀{l:List X} {i:Nat} {s:σ},k (zdl (fun i x s=>.inl (f i x s)) g i l s)=zdl (fun i x s=>.inl (f i x s)) (fun s=>k (g s)) i l s:=by
 intro l
 induction l with
 |nil=>intros;rfl
 |cons x l ih=>intro i s;simp only[zdl];exact ih
theorem zayr {l:List Rule} {p it br:Int} (hl:l.length<1000000000):qat l p it br=some (zaas l p it br):=by
 have h:=zbz (step:=zkl) (fun (i:Nat) (b:Int)=>zfc l b) (fun i b=>(l,p,it,br,b,l,(l.length:Int),(i:Int),())) l
  (fun i x b=>.inl (zpv l p it br i x b)) (fun b=>(b,())) (by rw[zbs];omega)
  (fun b _=>by simp only[zkl,dge,cond_false])
  (fun i x b hx hi=>by
   have hlt:=(List.getElem?_eq_some_iff.1 hx).1
   refine ⟨?_,fun s' hs'=>by cases hs';exact zi0 hi hlt⟩
   unfold zpv
   cases hb:decide (b<0) with
   |true=>
    simp only[zkl,dlt hlt,zaj,hx,cond_true,zaiz,hb,zap (show i<9223372036854775807 by omega)]
    cases zlt x p it br<;>rfl
   |false=>
    obtain ⟨y,h1,h2⟩:=zpw hi hb
    simp only[zkl,dlt hlt,zaj,hx,cond_true,cond_false,zaiz,zayx,h1,h2,hb,zap (show i<9223372036854775807 by omega)]
    cases zlt x p it br<;>cases decide (zdb y<zdb x)<;>rfl) (-1) (.inl (by omega))
 unfold qat
 rw[show zae zkl (l,p,it,br,(-1),l,(l.length:Int),0,())=_ from h,←zsl (g:=fun b=>b) (fun b:Int=>(b,()))]
 try rfl
theorem zai7 {l:List Rule} {p it br:Int} (hl:l.length<1000000000):qbx l p it br=some (zaas l p it br):=by
 have h:=zbz (step:=zkq) (fun (i:Nat) (b:Int)=>zfc l b) (fun i b=>(l,p,it,br,b,(i:Int),())) l
  (fun i x b=>.inl (zpv l p it br i x b)) (fun b=>(b,())) (by rw[zbs];omega)
  (fun b _=>by simp only[zkq,dge,cond_false])
  (fun i x b hx hi=>by
   have hlt:=(List.getElem?_eq_some_iff.1 hx).1
   refine ⟨?_,fun s' hs'=>by cases hs';exact zi0 hi hlt⟩
   unfold zpv
   cases hb:decide (b<0) with
   |true=>
    simp only[zkq,dlt hlt,zaj,hx,cond_true,zajh,hb,zap (show i<9223372036854775807 by omega)]
    cases zlt x p it br<;>rfl
   |false=>
    obtain ⟨y,h1,h2⟩:=zpw hi hb
    simp only[zkq,dlt hlt,zaj,hx,cond_true,cond_false,zajh,zaze,h1,h2,hb,zap (show i<9223372036854775807 by omega)]
    cases zlt x p it br<;>cases decide (zdb y<zdb x)<;>rfl) (-1) (.inl (by omega))
 unfold qbx
 rw[show zae zkq (l,p,it,br,(-1),0,())=_ from h,←zsl (g:=fun b=>b) (fun b:Int=>(b,()))]
 try rfl
theorem zarq {l:List Rule} {p it br:Int} (hl:l.length<1000000000):qdb l p it br=qfy l p it br:=by
 unfold qdb qfy
 rw[zayr hl,zai7 hl]
 try rfl
theorem z6z {c:Circ} {p:Int} {x:Item} (hs:Short c):qb8 c p x=qdx c p x:=by
 unfold qb8 qdx
 rw[zaja hs.patrons,zg0 hs.patrons]
 dsimp only
 rw[zarq hs.rules]
 try rfl
def calS (c:Circ) (b:Int):Calendar:=bif b==1 then c.Cals.x0 else bif b==2 then c.Cals.x1 else bif b==3 then c.Cals.x2 else c.Cals.x3
theorem zmi {n:Int} (h:rng 1 4 n=true):n=1∨n=2∨n=3∨n=4:=by
 have:=zd1.1 h;omega
theorem zazr {c:Circ} {b:Int} (h:rng 1 4 b=true):qm c b=some (calS c b):=by
 rcases zmi h with h|h|h|h<;>subst h<;>rfl
theorem zai9 {c:Circ} {b:Int} (h:rng 1 4 b=true):qcj c b=some (calS c b):=by
 rcases zmi h with h|h|h|h<;>subst h<;>rfl
end Go.Proofs.YtdahfgialanmpaaGreatDoor
namespace Go.Proofs.YtdahfgialanmpaaGreatDoor
open Ev
open Go (IntKind)
def zfm (week:Int) (i:Nat):Bool:=(wr .i64 (BitVec.ofInt 64 (week.fdiv (2 ^ (min i 64))) &&& BitVec.ofInt 64 1).toNat)==0
theorem zayq (c:Calendar):qas c=some ⟨zfm c.Week 0,zfm c.Week 1,zfm c.Week 2,zfm c.Week 3,zfm c.Week 4,zfm c.Week 5,zfm c.Week 6⟩:=by
 have h:zae z6x (0,c,(⟨false,false,false,false,false,false,false⟩:V7 Bool),(⟨false,false,false,false,false,false,false⟩:V7 Bool),())=some ((⟨false,false,false,false,false,false,false⟩:V7 Bool),(⟨zfm c.Week 0,zfm c.Week 1,zfm c.Week 2,zfm c.Week 3,zfm c.Week 4,zfm c.Week 5,zfm c.Week 6⟩:V7 Bool),()):=by
  refine zci 8 (by rw[zbs];omega) ?_
  try rfl
 unfold qas
 rw[h]
def bitW:Int→Nat→Int
 |n,0=>n
 |n,k+1=>bitW (wr .i64 (n.tdiv 2)) k
theorem z7c {day n:Int} {c:Calendar}:∀(k:Nat) (i:Nat) (n:Int),i+k<100→zbh z0x (k+1) (day,n,((i+k:Nat):Int),(i:Int),c,())=some (day,bitW n k,c,()):=by
 intro k
 induction k with
 |zero=>
  intro i n hi
  have:decide ((i:Int)<((i+0:Nat):Int))=false:=by rw[decide_eq_false_iff_not];omega
  simp only[zbh,z0x,this,cond_false,bitW]
 |succ k ih=>
  intro i n hi
  have:decide ((i:Int)<((i+(k+1):Nat):Int))=true:=by rw[decide_eq_true_eq];omega
  rw[zbh]
  simp only[z0x,this,cond_true,zap (show i<9223372036854775807 by omega),bitW]
  have:=ih (i+1) (wr .i64 (n.tdiv 2)) (by omega)
  rw[show i+1+k=i+(k+1) by omega]at this
  exact this
theorem z1e:((List.range 127).all fun n=>(List.range 7).all fun w=>zfm (n:Int) w==!((bitW (n:Int) w).tmod 2==1))=true:=by kernel_rfl
theorem zaad {week:Int} {w:Nat} (h1:0≤week) (h2:week≤126) (hw:w<7):zfm week w=!((bitW week w).tmod 2==1):=by
 obtain ⟨n,rfl⟩:∃n:Nat,week=(n:Int):=⟨week.toNat,by omega⟩
 have h:=z1e
 rw[List.all_eq_true]at h
 have h3:=h n (List.mem_range.2 (by omega))
 rw[List.all_eq_true]at h3
 have h4:=h3 w (List.mem_range.2 hw)
 simpa using h4
def lbS (t:Int) (l:List Int):Nat:=(l.takeWhile (fun x=>decide (x<t))).length
theorem za04 {t:Int} {l:List Int}:lbS t l≤l.length:=by
 unfold lbS
 have:=(List.takeWhile_prefix (fun x=>decide (x<t)) (l:=l)).length_le
 exact this
theorem zqu {t:Int}:∀{l:List Int} {k:Nat} {x:Int},k<lbS t l→l[k]?=some x→x<t:=by
 intro l
 induction l with
 |nil=>intro k x h;simp[lbS]at h
 |cons y l ih=>
  intro k x h hx
  unfold lbS at h ih
  rw[List.takeWhile_cons]at h
  by_cases hy:y<t
  ·simp only[hy,decide_true,if_true,List.length_cons]at h
   cases k with
   |zero=>simp at hx;omega
   |succ k=>exact ih (k:=k) (by omega) (by simpa using hx)
  ·simp[hy]at h
theorem zayb {t:Int}:∀{l:List Int} {x:Int},l[lbS t l]?=some x→¬x<t:=by
 intro l
 induction l with
 |nil=>intro x h;simp[lbS]at h
 |cons y l ih=>
  intro x hx
  unfold lbS at hx ih
  rw[List.takeWhile_cons]at hx
  by_cases hy:y<t
  ·simp only[hy,decide_true,if_true,List.length_cons,List.getElem?_cons_succ]at hx
   exact ih hx
  ·simp[hy]at hx;omega
theorem zaiq {t:Int} {l:List Int} (hsort:∀(j i:Nat) (x y:Int),i<j→l[i]?=some x→l[j]?=some y→x<y) {k:Nat} {x:Int} (hx:l[k]?=some x):decide (x<t)=decide (k<lbS t l):=by
 rw[decide_eq_decide]
 constructor
 ·intro h
  by_cases hk:k<lbS t l
  ·exact hk
  ·exfalso
   have hlt:lbS t l<l.length:=by have:=(List.getElem?_eq_some_iff.1 hx).1;omega
   have hz:l[lbS t l]?=some l[lbS t l]:=List.getElem?_eq_getElem hlt
   have:=zayb hz
   by_cases e:lbS t l=k
   ·subst e
    rw[hz]at hx;cases hx;exact this h
   ·have:=hsort k (lbS t l) _ _ (by omega) hz hx;omega
 ·intro h;exact zqu h hx
theorem zayd {i j:Nat} (h:i+j<2000000000):wr .i64 ((wr .u64 (wr .i64 ((i:Int)+(j:Int)))).fdiv (2 ^ 1))=(((i+j) / 2:Nat):Int):=by
 rw[zcu (n:=(i:Int)+(j:Int)) (by omega) (by omega)]
 have:wr .u64 ((i:Int)+(j:Int))=(i:Int)+(j:Int):=by
  unfold wr;simp[IntKind.wrap,IntKind.bits,IntKind.signed];omega
 rw[this,Int.fdiv_eq_ediv_of_nonneg _ (by omega)]
 have e:((i:Int)+(j:Int)) / 2 ^ 1=(((i+j) / 2:Nat):Int):=by omega
 rw[e,zcu (by omega) (by omega)]
theorem zay9 (x y:Int):qe8 x y=some (decide (x<y)):=by
 have e:∀z:Int,qe6 z=some false:=fun z=>by unfold qe6;simp
 unfold qe8
 rw[e]
 try rfl
theorem z06 {l:List Int} {t:Int} (hl:l.length<1000000000) (hsort:∀(j i:Nat) (x y:Int),i<j→l[i]?=some x→l[j]?=some y→x<y) :
 zae znd (l,t,(l.length:Int),0,(l.length:Int),())=some (l,t,(l.length:Int),(lbS t l:Int),()):=by
 refine zaae (step:=znd) (fun a=>∃i j:Nat,a=(l,t,(l.length:Int),(i:Int),(j:Int),())∧i≤lbS t l∧lbS t l≤j∧j≤l.length) (fun a=>(a.2.2.2.2.1-a.2.2.2.1).toNat) (fun _=>(l,t,(l.length:Int),(lbS t l:Int),())) ?_ ⟨0,l.length,rfl,by omega,za04,by omega⟩ (by rw[zbs];show ((l.length:Int)-0).toNat<_;omega)
 rintro a ⟨i,j,rfl,h1,h2,h3⟩
 by_cases hij:i<j
 ·left
  have d:decide ((i:Int)<(j:Int))=true:=by rw[decide_eq_true_eq];omega
  have hm:(i+j) / 2<l.length:=by omega
  have hx:l[(i+j) / 2]?=some l[(i+j) / 2]:=List.getElem?_eq_getElem hm
  have hlb:=zaiq (t:=t) hsort hx
  simp only[znd,d,cond_true,zayd (show i+j<2000000000 by omega),zaj,hx,zay9,hlb]
  by_cases hk:(i+j) / 2<lbS t l
  ·rw[show decide ((i+j) / 2<lbS t l)=true by rw[decide_eq_true_eq];exact hk]
   simp only[cond_true,zap (show (i+j) / 2<9223372036854775807 by omega)]
   exact ⟨_,rfl,⟨(i+j) / 2+1,j,rfl,by omega,h2,h3⟩,by simp only;omega,trivial⟩
  ·rw[show decide ((i+j) / 2<lbS t l)=false by rw[decide_eq_false_iff_not];exact hk]
   simp only[cond_false]
   exact ⟨_,rfl,⟨i,(i+j) / 2,rfl,h1,by omega,by omega⟩,by simp only;omega,trivial⟩
 ·right
  have d:decide ((i:Int)<(j:Int))=false:=by rw[decide_eq_false_iff_not];omega
  have hi:i=lbS t l:=by omega
  subst hi
  simp only[znd,d,cond_false]
theorem z7m {l:List Int} {t:Int} (hl:l.length<1000000000) (hsort:∀(j i:Nat) (x y:Int),i<j→l[i]?=some x→l[j]?=some y→x<y) :
 qay l t=some ((lbS t l:Int),l.any (fun x=>x==t)):=by
 unfold qay
 rw[z06 hl hsort]
 by_cases hk:lbS t l<l.length
 ·have d:decide ((lbS t l:Int)<(l.length:Int))=true:=by rw[decide_eq_true_eq];omega
  have hx:l[lbS t l]?=some l[lbS t l]:=List.getElem?_eq_getElem hk
  have hn:qej l[lbS t l]=some false:=by unfold qej;simp
  simp only[d,cond_true,zaj,hx,hn,cond_false]
  have e:(l[lbS t l]==t)=l.any (fun x=>x==t):=by
   rw[Bool.eq_iff_iff,List.any_eq_true]
   constructor
   ·intro h;exact ⟨_,List.getElem_mem hk,h⟩
   ·rintro ⟨x,hm,he⟩
    have he':x=t:=by simpa using he
    obtain ⟨i,hi⟩:=List.getElem?_of_mem hm
    have h1:=zaiq (t:=t) hsort hi
    have h2:=zayb hx
    rw[decide_eq_decide]at h1
    by_cases e:i=lbS t l
    ·rw[e,hx]at hi;cases hi;exact he
    ·have:lbS t l<i:=by omega
     have:=hsort _ _ _ _ this hx hi
     omega
  rw[←e]
  cases l[lbS t l]==t<;>rfl
 ·have d:decide ((lbS t l:Int)<(l.length:Int))=false:=by rw[decide_eq_false_iff_not];omega
  have e:l.any (fun x=>x==t)=false:=by
   rw[List.any_eq_false]
   intro x hm he
   have he':x=t:=by simpa using he
   obtain ⟨i,hi⟩:=List.getElem?_of_mem hm
   have:=(List.getElem?_eq_some_iff.1 hi).1
   have:=zqu (t:=t) (show i<lbS t l by omega) hi
   omega
  simp only[d,cond_false,e]
end Go.Proofs.YtdahfgialanmpaaGreatDoor
namespace Go.Proofs.YtdahfgialanmpaaGreatDoor
open Ev
open Go (IntKind)
theorem ztx {l:List Int} (h:incr l=true):∀(j i:Nat) (x y:Int),i<j→l[i]?=some x→l[j]?=some y→x<y:=by
 have h2:∀i x,l[i]?=some x→zcd l i (fun y=>decide (x≤y))=false:=by
  intro i x hx
  have:=(ziv.1 h) i x hx
  rw[Nat.zero_add]at this
  simpa using this
 exact zlh (key:=fun x:Int=>x) h2
structure CalOk (c:Calendar):Prop where
 w1:0≤c.Week
 w2:c.Week≤126
 len:c.Closed.length<1000000000
 inc:incr c.Closed=true
theorem zaav {c:Calendar} (h:(zcf c==0)=true):CalOk c:=by
 have h:zcf c=0:=by simpa using h
 unfold zcf at h
 have h1:=zgm h (by decide)
 rw[h1]at h
 simp only[cond_false]at h
 have h2:=zgm h (by decide)
 rw[h2]at h
 simp only[cond_false]at h
 simp only[Bool.or_eq_false_iff,decide_eq_false_iff_not]at h1 h2
 cases h3:c.Closed.all (fun x=>!(decide (x<0)||decide (109572<x))) with
 |false=>rw[h3]at h;cases h
 |true=>
  rw[h3]at h
  cases h4:incr c.Closed with
  |false=>rw[h4]at h;cases h
  |true=>exact ⟨by omega,by omega,by omega,h4⟩
def zl0 (c:Calendar) (d:Int):Bool:=rng 0 109572 d&&(!(c.Closed.any (fun x=>x==d))&&zfm c.Week (d.tmod 7).toNat)
theorem za0t {d:Int} (h:0≤d):0≤d.tmod 7∧d.tmod 7<7:=by
 rw[Int.tmod_eq_emod_of_nonneg h];omega
theorem zyg {c:Calendar} (hc:CalOk c) (d:Int):qcc c d=some (zl0 c d):=by
 unfold qcc zl0
 rw[zai8]
 dsimp only
 cases hr:rng 0 109572 d with
 |false=>rfl
 |true=>
  simp -zeta only[Bool.not_true,cond_false,Bool.true_and]
  rw[z7m hc.len (ztx hc.inc)]
  dsimp only
  cases c.Closed.any (fun x=>x==d) with
  |true=>rfl
  |false=>
   have hk:qc9 d=some (d.tmod 7):=by
    have e:qfu d=some (rng 0 109572 d):=by
     unfold qfu
     simp -zeta only[za6]
     try rfl
    unfold qc9
    rw[e,hr]
    try rfl
   simp only[Bool.not_false,cond_true,zayq,hk,Bool.true_and]
   obtain ⟨h1,h2⟩:=za0t (zd1.1 hr).1
   generalize d.tmod 7=w at h1 h2
   have:w=0∨w=1∨w=2∨w=3∨w=4∨w=5∨w=6:=by omega
   rcases this with h|h|h|h|h|h|h<;>subst h<;>rfl
theorem z0w {c:Calendar} {d:Int} (hl:c.Closed.length<1000000000):zae zk1 (d,0,c,())=some (bif c.Closed.all (fun x=>!(x==d)) then .inl () else .inr (false,())):=by
 have h:=zav (step:=zk1) (fun i=>(d,(i:Int),c,())) c.Closed (fun _ x=>!(x==d)) (.inr (false,())) (.inl ()) hl
  (by simp only[zk1,dge,cond_false])
  (fun i x hx=>by
   have hi:=(List.getElem?_eq_some_iff.1 hx).1
   simp only[zk1,dlt hi,zaj,hx,cond_true,zap (show i<9223372036854775807 by omega)]
   cases x==d<;>rfl)
 rw[show zae zk1 (d,0,c,())=_ from h,zay]
theorem z0y {c:Calendar} (hc:CalOk c) (d:Int):qz c d=some (zl0 c d):=by
 unfold qz zl0
 simp -zeta only[k_or]
 dsimp only
 rw[←zkb]
 cases hr:rng 0 109572 d with
 |false=>rfl
 |true=>
  have hk:qfa d=some (d.tmod 7):=by
   have e:qf0 d=some (rng 0 109572 d):=by
    unfold qf0
    simp -zeta only[za6]
    try rfl
   unfold qfa
   rw[e,hr]
   try rfl
  simp only[Bool.not_true,cond_false,Bool.true_and,hk]
  obtain ⟨h1,h2⟩:=za0t (zd1.1 hr).1
  generalize d.tmod 7=w at h1 h2
  obtain ⟨n,rfl⟩:∃n:Nat,w=(n:Int):=⟨w.toNat,by omega⟩
  have hn:n<7:=by omega
  have hw:zae z0x (d,c.Week,(n:Int),0,c,())=some (d,bitW c.Week n,c,()):=by
   have:=z7c (day:=d) (n:=0) (c:=c) n 0 c.Week (by omega)
   rw[Nat.zero_add]at this
   exact zci (n+1) (by rw[zbs];omega) this
  simp only[hw,Int.toNat_natCast,zaad hc.w1 hc.w2 hn,z0w hc.len]
  cases (bitW c.Week n).tmod 2==1 with
  |true=>simp
  |false=>
   simp only[cond_false,Bool.not_false,Bool.and_true,z1y,Bool.not_not]
   cases c.Closed.all (fun x=>!(x==d))<;>rfl
theorem zh6 {α β:Type} {s1 s2:α→Option (α⊕β)} (Inv:α→Prop) (h:∀a,Inv a→s1 a=s2 a) (hi:∀a b,Inv a→s1 a=some (.inl b)→Inv b) {a:α} (ha:Inv a):zae s1 a=zae s2 a:=by
 have key:∀n a,Inv a→zbh s1 n a=zbh s2 n a:=by
  intro n
  induction n with
  |zero=>intro a _;rfl
  |succ n ih=>
   intro a ha
   simp only[zbh]
   rw[←h a ha]
   cases hs:s1 a with
   |none=>rfl
   |some x=>
    cases x with
    |inl b=>exact ih b (hi a b ha hs)
    |inr b=>rfl
 exact key FUEL a ha
theorem zua {c:Calendar} (hc:CalOk c) (d:Int):qa1 c d=qa6 c d:=by
 have h:∀d0:Int,zae zsc (d0,c,())=zae zgz (d0,c,()):=fun d0=>by
  refine zh6 (fun a=>a.2.1=c) ?_ ?_ rfl
  ·rintro ⟨d,c',_⟩ (rfl:c'=c)
   simp only[zsc,zgz,zyg hc,z0y hc]
  ·rintro ⟨d,c',_⟩ b (rfl:c'=c) hb
   simp only[zsc,zyg hc]at hb
   cases hq:decide (d≤109572) with
   |false=>rw[hq]at hb;cases hb
   |true=>
    rw[hq]at hb
    simp only[cond_true]at hb
    cases ho:zl0 c' d with
    |true=>rw[ho]at hb;cases hb
    |false=>rw[ho]at hb;cases hb;rfl
 unfold qa1 qa6
 rw[h]
 try rfl
theorem zarl {c:Calendar} (hc:CalOk c) (d:Int):qbr c d=qbu c d:=by
 have h:∀d0:Int,zae zsd (d0,c,())=zae znf (d0,c,()):=fun d0=>by
  refine zh6 (fun a=>a.2.1=c) ?_ ?_ rfl
  ·rintro ⟨d,c',_⟩ (rfl:c'=c)
   simp only[zsd,znf,zyg hc,z0y hc]
  ·rintro ⟨d,c',_⟩ b (rfl:c'=c) hb
   simp only[zsd,zyg hc]at hb
   cases hq:decide (0≤d) with
   |false=>rw[hq]at hb;cases hb
   |true=>
    rw[hq]at hb
    simp only[cond_true]at hb
    cases ho:zl0 c' d with
    |true=>rw[ho]at hb;cases hb
    |false=>rw[ho]at hb;cases hb;rfl
 unfold qbr qbu
 rw[h]
 try rfl
end Go.Proofs.YtdahfgialanmpaaGreatDoor
namespace Go.Proofs.YtdahfgialanmpaaGreatDoor
open Ev
open Go (IntKind)
theorem z1f {α β:Type} {step:α→Option (α⊕β)} (Inv:α→Prop) (hi:∀a b,Inv a→step a=some (.inl b)→Inv b) {a:α} (ha:Inv a) {r:β} (h:zae step a=some r):∃b,Inv b∧step b=some (.inr r):=by
 have key:∀n a,Inv a→zbh step n a=some r→∃b,Inv b∧step b=some (.inr r):=by
  intro n
  induction n with
  |zero=>intro a _ h;cases h
  |succ n ih=>
   intro a ha h
   simp only[zbh]at h
   cases hs:step a with
   |none=>rw[hs]at h;cases h
   |some x=>
    rw[hs]at h
    cases x with
    |inl b=>exact ih b (hi a b ha hs) h
    |inr b=>cases h;exact ⟨a,ha,hs⟩
 exact key FUEL a ha h
theorem zara {c:Calendar} (hc:CalOk c) {s d:Int} (hs:s≤109573) (h:qa6 c s=some (d,0)):s≤d:=by
 unfold qa6 at h
 cases hw:zae zgz ((if s<0 then 0 else s),c,()) with
 |none=>rw[hw]at h;cases h
 |some r=>
  rw[hw]at h
  obtain ⟨b,hb,hstep⟩:=z1f (fun a=>s≤a.1∧0≤a.1∧a.1≤109573∧a.2.1=c) (by
   rintro ⟨d,c',_⟩ b ⟨h1,h2,h3,(rfl:c'=c)⟩ hb
   simp only[zgz,z0y hc]at hb
   cases hq:decide (d≤109572) with
   |false=>rw[hq]at hb;cases hb
   |true=>
    rw[decide_eq_true_eq]at hq
    rw[show decide (d≤109572)=true by rw[decide_eq_true_eq];exact hq]at hb
    simp only[cond_true]at hb
    cases ho:zl0 c' d with
    |true=>rw[ho]at hb;cases hb
    |false=>
     rw[ho]at hb
     simp only[cond_false]at hb
     simp only at h1 h2
     rw[zcu (by omega) (by omega)]at hb
     cases hb
     exact ⟨by show s≤d+1;omega,by show 0≤d+1;omega,by show d+1≤109573;omega,rfl⟩) (a:=((if s<0 then 0 else s),c,())) ⟨by show s≤if s<0 then 0 else s;split<;>omega,by show 0≤if s<0 then 0 else s;split<;>omega,by show (if s<0 then 0 else s)≤109573;split<;>omega,rfl⟩ hw
  obtain ⟨d',c',_⟩:=b
  obtain ⟨h1,h2,h3,(rfl:c'=c)⟩:=hb
  simp only[zgz,z0y hc]at hstep
  cases hq:decide (d'≤109572) with
  |false=>rw[hq]at hstep;cases hstep;cases h
  |true=>
   rw[hq]at hstep
   simp only[cond_true]at hstep
   cases ho:zl0 c' d' with
   |true=>rw[ho]at hstep;cases hstep;cases h;exact h1
   |false=>rw[ho]at hstep;cases hstep
theorem zarn {r:Rule} {c:Calendar} (hc:CalOk c) (hr:zh3 r=true) (day u:Int):qcx r c day u=qfz r c day u:=by
 have hd:0≤r.Days∧r.Days≤365:=by
  unfold zh3 at hr
  simp only[Bool.and_eq_true,zd1]at hr
  omega
 unfold qcx qfz
 simp -zeta only[zayu,z6y,k_or,za6]
 cases h1:rng 0 109572 day with
 |false=>rfl
 |true=>
  cases h2:rng 0 109572 u with
  |false=>rfl
  |true=>
   have hday:=zd1.1 h1
   have hu:=zd1.1 h2
   dsimp only
   simp only[Bool.not_true,Bool.or_self,cond_false]
   cases h3:r.Days==0 with
   |true=>simp only[Bool.true_or,cond_true];cases decide (0<r.Fixed)<;>rfl
   |false=>
    have hd1:r.Days≠0:=by simpa using h3
    simp only[Bool.false_or,cond_false]
    have core:∀last:Int,last≤109572→
     (bif decide (last≤day) then (some (0,15):Option (Int×Int)) else match qa1 c (if last<wr .i64 (day+r.Days) then last else wr .i64 (day+r.Days)) with
      |some (r7,r8)=>(bif (r8==0&&decide (r7≤last)) then some (r7,0) else match qbr c last with
       |some (r11,r12)=>(bif (!(r12==0)||decide (r11≤day)) then some (0,15) else some (r11,0))
       |none=>none)
      |none=>none) =
     (bif decide (last≤day) then (some (0,15):Option (Int×Int)) else match qa6 c (if last<wr .i64 (day+r.Days) then last else wr .i64 (day+r.Days)) with
      |some (r6,r7)=>(bif (!(r7==0)||decide (last<r6)) then (match qbu c last with
       |some (r10,r11)=>(bif (!(r11==0)||decide (r10≤day)) then some (0,15) else some (r10,0))
       |none=>none) else (bif (!(r7==0)||decide (r6≤day)) then some (0,15) else some (r6,0)))
      |none=>none):=by
     intro last hlast
     cases h4:decide (last≤day) with
     |true=>rfl
     |false=>
      rw[decide_eq_false_iff_not]at h4
      simp only[cond_false,zua hc,zarl hc]
      rw[zcu (n:=day+r.Days) (by omega) (by omega)]
      cases hn:qa6 c (if last<day+r.Days then last else day+r.Days) with
      |none=>rfl
      |some p=>
       obtain ⟨d,e⟩:=p
       dsimp only
       by_cases he:e=0
       ·subst he
        have hge:=zara hc (by split<;>omega) hn
        have hgt:¬d≤day:=by split at hge<;>omega
        have e1:decide (d≤day)=false:=by rw[decide_eq_false_iff_not];exact hgt
        have e2:decide (last<d)=!(decide (d≤last)):=by
         rw[Bool.eq_iff_iff];simp
        rw[e1,e2]
        cases decide (d≤last)<;>rfl
       ·have e1:(e==0)=false:=by simpa using he
        rw[e1]
        try rfl
    cases decide (0<r.Fixed) with
    |true=>exact core _ (by split<;>omega)
    |false=>exact core _ (by omega)
end Go.Proofs.YtdahfgialanmpaaGreatDoor
namespace Go.Proofs.YtdahfgialanmpaaGreatDoor
open Ev
open Go (IntKind)
theorem zars {r:Rule} {c:Calendar} (hc:CalOk c) (hr:zh3 r=true) (n:Loan) (day u:Int):qec r c n day u=qff r c n day u:=by
 unfold qec qff
 rw[zarn hc hr]
 try rfl
theorem zgx {l:List Loan} {item:Int} (hl:l.length<1000000000):qbj (fun (g:Unit×Int×Unit) x0=>qce x0 g.2.1) l ((),(item,())) =
 some (match l.find? (fun n=>n.Item==item) with|some x=>(x,fIdx (fun n=>n.Item==item) l)|none=>((⟨0,0,0,0,0,false⟩:Loan),-1)):=by
 unfold qbj
 rw[zajk (p:=fun (g:Unit×Int×Unit) x0=>qce x0 g.2.1) (g:=((),(item,()))) (fun x=>x.Item==item) hl (fun x _=>rfl)]
 rcases zbj (fun x:Loan=>x.Item==item) l with ⟨h1,h2⟩|⟨i,x,h1,h2,h3,h4⟩
 ·simp only[h1,h2,zia,cond_true]
 ·simp only[h1,h4,zhd,cond_false,zaj,h2]
theorem zay1 {l:List Loan} (hl:l.length<1000000000):qcf l=some (bif !(za9 l==0) then ([],za9 l) else (l,0)):=by
 unfold qcf
 rw[zayw hl]
 cases h:za9 l==0<;>simp[h]
theorem zazi {l:List Loan} (hl:l.length<1000000000):qfq l=some (bif !(za9 l==0) then ([],za9 l) else (l,0)):=by
 unfold qfq
 rw[zaix hl]
 cases h:za9 l==0<;>simp[h]
theorem zhw {l:List Loan} {i:Nat} {x y:Loan} (hl:l.length<1000000000) (h:l[i]?=some x):qdo l (i:Int) y=some (l.set i y):=by
 unfold qdo qdk
 rw[zn5 hl]
 simp only[cond_true,List.nil_append,zaj,h,Int.toNat_natCast]
def setL (l:List Loan) (i:Nat) (y:Loan):List Loan×Int:=bif !(za9 (l.set i y)==0) then ([],za9 (l.set i y)) else (l.set i y,0)
def zh2 (l:List Loan) (item due:Int):List Loan×Int:=
 match l.find? (fun n=>n.Item==item) with
 |some x=>bif x.Recalled then ([],12) else setL l (fIdx (fun n=>n.Item==item) l).toNat ⟨x.Item,x.Patron,x.Out,due,wr .i64 (x.Renewals+1),x.Recalled⟩
 |none=>([],9)
theorem zazl {l:List Loan} {item due:Int} (hl:l.length<1000000000):qft l item due=some (zh2 l item due):=by
 unfold qft zh2 qab
 dsimp only
 rw[zgx hl]
 rcases zbj (fun x:Loan=>x.Item==item) l with ⟨h1,h2⟩|⟨i,x,h1,h2,h3,h4⟩
 ·simp only[h2,zia,cond_true]
 ·simp only[h4,h1,zhd,cond_false]
  cases x.Recalled with
  |true=>rfl
  |false=>
   have hk:∀y:Loan,qcf (l.set i y)=some (bif !(za9 (l.set i y)==0) then ([],za9 (l.set i y)) else (l.set i y,0)):=fun y=>zay1 (by rw[List.length_set];exact hl)
   simp only[cond_false,zhw hl h2,hk,Int.toNat_natCast,setL]
theorem zazg {l:List Loan} {item due:Int} (hl:l.length<1000000000):qfe l item due=some (zh2 l item due):=by
 unfold qfe zh2
 rw[z6t hl]
 rcases zbj (fun x:Loan=>x.Item==item) l with ⟨h1,h2⟩|⟨i,x,h1,h2,h3,h4⟩
 ·simp only[h1,h2,zia,cond_true]
 ·have hlt:=(List.getElem?_eq_some_iff.1 h2).1
  have hset:∀y:Loan,(l.set i y)[i]?=some y:=fun y=>by rw[List.getElem?_set_self hlt]
  simp only[h4,h1,zhd,cond_false,zaj,h2,List.nil_append,Int.toNat_natCast,hset,List.set_set,zn5 hl,cond_true]
  cases x.Recalled with
  |true=>rfl
  |false=>
   have hk:∀y:Loan,qfq (l.set i y)=some (bif !(za9 (l.set i y)==0) then ([],za9 (l.set i y)) else (l.set i y,0)):=fun y=>zazi (by rw[List.length_set];exact hl)
   simp only[cond_false,hk,setL]
def zgn (c:Circ) (l:List Loan):Circ:=⟨c.Today,c.Items,c.Patrons,l,c.Holds,c.Charges,c.Rules,c.Cals,c.Moves,c.NextHold,c.NextCharge,c.Local⟩
theorem zf6 (c:Circ) (l:List Loan) (e:Int) (he:e≠0):qck l e ⟨c,0⟩=some ((),⟨zgn c c.Loans,e⟩):=by
 have h:(e==0)=false:=by simpa using he
 unfold qck qt
 simp only[h,Bool.not_false,cond_true,beq_self_eq_true,cond_false]
 try rfl
def zfu (c:Circ) (x:Item):Bool:=c.Holds.any (fun h=>h.State==1&&decide (h.Asleep≤c.Today)&&(h.Record==x.Record&&(h.Item==0||h.Item==x.ID)))
theorem zay3 (h:Hold) (c:Circ) (x:Item):qcr h c x=some (h.State==1&&decide (h.Asleep≤c.Today)&&(h.Record==x.Record&&(h.Item==0||h.Item==x.ID))):=by
 unfold qcr qch
 simp -zeta only[k_or,za6]
 dsimp only
 simp -zeta only[k_or,za6]
theorem zaje (h:Hold) (x:Item):qdy h x=some (h.Record==x.Record&&(h.Item==0||h.Item==x.ID)):=by
 unfold qdy
 simp -zeta only[k_or,za6]
 try rfl
theorem zud {c:Circ} {item:Int} {n:Loan} {x:Item} (hs:Short c):zae zfp (item,0,c,zea,n,x,())=some (bif zfu c x then .inr (0,16,zea,()) else .inl (item,c,zea,n,x,())):=by
 have h:=zav (step:=zfp) (fun i=>(item,(i:Int),c,zea,n,x,())) c.Holds (fun _ h=>!(h.State==1&&decide (h.Asleep≤c.Today)&&(h.Record==x.Record&&(h.Item==0||h.Item==x.ID)))) (.inr (0,16,zea,())) (.inl (item,c,zea,n,x,())) hs.holds
  (by simp only[zfp,dge,cond_false])
  (fun i h hx=>by
   have hi:=(List.getElem?_eq_some_iff.1 hx).1
   have:=hs.holds
   simp -zeta only[zfp,dlt hi,zaj,hx,cond_true,zaje,za6,zap (show i<9223372036854775807 by omega)]
   dsimp only
   cases (h.State==1&&decide (h.Asleep≤c.Today)&&(h.Record==x.Record&&(h.Item==0||h.Item==x.ID)))<;>rfl)
 rw[show zae zfp (item,0,c,zea,n,x,())=_ from h,zay]
 unfold zfu
 rw[z1y]
 cases c.Holds.all (fun h=>!(h.State==1&&decide (h.Asleep≤c.Today)&&(h.Record==x.Record&&(h.Item==0||h.Item==x.ID))))<;>rfl
end Go.Proofs.YtdahfgialanmpaaGreatDoor
namespace Go.Proofs.YtdahfgialanmpaaGreatDoor
open Ev
open Go (IntKind)
structure FitP (c:Circ):Prop where
 charges:zcb c.Charges=0
 loans:za9 c.Loans=0
 holds:zgt c.Holds=0
 rules:zfz c.Rules=0
 patrons:zev c.Patrons=0
 cal0:CalOk c.Cals.x0
 cal1:CalOk c.Cals.x1
 cal2:CalOk c.Cals.x2
 cal3:CalOk c.Cals.x3
 items:zhv c=true
 loanG:∀n∈c.Loans,zfx c n=true
 itemG:∀x∈c.Items,(zc6 c.Loans x.ID).2=zpe x.Custody
 holdG:∀h∈c.Holds,zgs c h=true
 readyG:∀x∈c.Items,zfq c x=true
 nums:zpa c=true
theorem fitP {c:Circ} (h:znm c=true):FitP c:=by
 unfold znm at h
 rw[zqr]at h
 simp only[Bool.and_eq_true]at h
 obtain ⟨h1,h2,h3,h4,h5,h6,h7⟩:=h
 unfold zjt at h2
 simp only[Bool.not_eq_true',Bool.or_eq_false_iff,Bool.not_eq_false',beq_iff_eq]at h2
 unfold zgl at h3
 simp only[Bool.and_eq_true]at h3
 unfold zfl at h6
 unfold zfj at h7
 simp only[Bool.and_eq_true,List.all_eq_true,beq_iff_eq]at h6 h7
 exact ⟨h2.1.2,h2.1.1.1.2,h2.1.1.2,h2.2,h2.1.1.1.1,zaav h3.1,zaav h3.2.1,zaav h3.2.2.1,zaav h3.2.2.2,h5,h6.1,h6.2,h7.1,h7.2,h1⟩
theorem zn1 {c:Circ} (h:FitP c) (b:Int):CalOk (calS c b):=by
 unfold calS
 cases b==1 with
 |true=>exact h.cal0
 |false=>
  cases b==2 with
  |true=>exact h.cal1
  |false=>
   cases b==3 with
   |true=>exact h.cal2
   |false=>exact h.cal3
theorem zarv {c:Circ} (h:FitP c) {r:Rule} (hr:r∈c.Rules):zh3 r=true:=by
 have h:=h.rules
 unfold zfz at h
 rw[zgm h (by decide)]at h
 obtain ⟨i,hi⟩:=List.getElem?_of_mem hr
 have:=z4e (k:=0) h i r hi
 rw[Nat.zero_add]at this
 unfold zgg at this
 have:=zgm this (by decide)
 simpa using this
def ze0 (c:Custody):Prop:=rng 1 4 c.Branch=true
theorem zsk {c:Custody} (h:z65 c=true):ze0 c:=by
 unfold z65 at h
 unfold ze0
 cases hq:(decide (c.State<1)||decide (12<c.State)||decide (c.Branch<1)||decide (4<c.Branch)) with
 |true=>rw[hq]at h;cases h
 |false=>
  simp only[Bool.or_eq_false_iff,decide_eq_false_iff_not]at hq
  rw[zd1];omega
theorem zpm {m:Move} (h:z67 m=true):rng 1 4 m.Branch=true:=by
 unfold z67 at h
 simp only[Bool.and_eq_true,decide_eq_true_eq]at h
 rw[zd1];omega
theorem zny {c:Custody} {m:Move} (h:((zcv c m).2==0)=true):ze0 (zcv c m).1:=by
 unfold zcv at h ⊢
 cases e1:(!(z65 c)||!(z67 m)) with
 |true=>rw[e1]at h;cases h
 |false=>
  have e0:=e1
  simp only[Bool.or_eq_false_iff,Bool.not_eq_false']at e0
  have b1:=zsk e0.1
  have b2:=zpm e0.2
  rw[e1]at h
  simp only[cond_false]at h ⊢
  cases e2:!(zvt c.State m.Kind) with
  |true=>rw[e2]at h;cases h
  |false=>
   rw[e2]at h
   simp only[cond_false]at h ⊢
   cases e3:(m.Kind==3&&c.State==5&&!(m.Who==c.Who)) with
   |true=>rw[e3]at h;cases h
   |false=>
    rw[e3]at h
    simp only[cond_false]at h ⊢
    cases e4:!(zarr c m) with
    |true=>rw[e4]at h;cases h
    |false=>
     simp only[cond_false]
     cases (zew m.Kind==2) with
     |true=>exact b2
     |false=>
      simp only[cond_false]
      cases (zew m.Kind==4||(zew m.Kind==5||zew m.Kind==8)) with
      |true=>exact b1
      |false=>
       simp only[cond_false]
       cases e5:(zew m.Kind==6) with
       |true=>exact b1
       |false=>
        simp only[cond_false]
        cases (zew m.Kind==9||zew m.Kind==10) with
        |true=>exact b1
        |false=>exact b1
theorem zl3:∀{l:List Move} {i:Nat} {item:Int} {c d:Custody},ze0 c→zc8 i l item c=.inl d→ze0 d:=by
 intro l
 induction l with
 |nil=>intro i item c d hc h;simp only[zc8]at h;cases h;exact hc
 |cons x l ih=>
  intro i item c d hc h
  simp only[zc8]at h
  cases e:x.Item==item with
  |false=>rw[e]at h;exact ih hc h
  |true=>
   rw[e]at h
   simp only[cond_true]at h
   cases e2:(zcv c x).2==0 with
   |true=>rw[e2]at h;exact ih (zny e2) h
   |false=>rw[e2]at h;cases h
theorem zk5 {c:Circ} {x:Item} (h:zcr c x=true):ze0 x.Custody:=by
 unfold zcr at h
 simp only[Bool.not_eq_true',Bool.or_eq_false_iff,Bool.not_eq_false',beq_iff_eq]at h
 obtain ⟨h1,h2⟩:=h
 have e:=zjk.1 h2
 rw[←e]
 unfold zd0 at h1 ⊢
 cases hb:(decide (x.Branch<1)||decide (4<x.Branch)) with
 |true=>rw[hb]at h1;cases h1
 |false=>
  rw[hb]at h1
  simp only[cond_false]at h1 ⊢
  have hb2:ze0 (zul x.Branch):=by
   simp only[Bool.or_eq_false_iff,decide_eq_false_iff_not]at hb
   show rng 1 4 x.Branch=true
   rw[zd1];omega
  cases hr:zc8 0 c.Moves x.ID (zul x.Branch) with
  |inl d=>exact zl3 hb2 hr
  |inr p=>
   rw[hr]at h1
   exfalso
   obtain ⟨i,e⟩:=p
   simp only at h1
   have key:∀(l:List Move) (i:Nat) (c:Custody) (p:Int×Int),zc8 i l x.ID c=.inr p→p.2≠0:=by
    intro l
    induction l with
    |nil=>intro i c p h;simp only[zc8]at h;cases h
    |cons y l ih=>
     intro i c p h
     simp only[zc8]at h
     cases e:y.Item==x.ID with
     |false=>rw[e]at h;exact ih _ _ _ h
     |true=>
      rw[e]at h
      simp only[cond_true]at h
      cases e2:(zcv c y).2==0 with
      |true=>rw[e2]at h;exact ih _ _ _ h
      |false=>rw[e2]at h;cases h;simpa using e2
   exact key _ _ _ _ hr h1
theorem zmk {c:Circ} (h:FitP c) {x:Item} (hx:x∈c.Items):rng 1 4 x.Custody.Branch=true:=zk5 (zqs h.items hx)
theorem zqj {c:Circ} (h:FitP c) {item:Int} {n:Loan} (hn:c.Loans.find? (fun n=>n.Item==item)=some n):n∈c.Loans∧n.Item=item:=⟨List.mem_of_find?_eq_some hn,by have:=List.find?_some hn;simpa using this⟩
theorem zz6 {c:Circ} (h:FitP c) {n:Loan} (hn:n∈c.Loans):∃x p,c.Items.find? (fun x=>x.ID==n.Item)=some x∧x∈c.Items∧x.ID=n.Item∧getP c.Patrons n.Patron=(p,true)∧p.ID=n.Patron∧zpe x.Custody=true∧x.Custody.Who=n.Patron:=by
 have hg:=h.loanG n hn
 unfold zfx at hg
 cases hf:c.Items.find? (fun x=>x.ID==n.Item) with
 |none=>rw[hf]at hg;cases hg
 |some x=>
  rw[hf]at hg
  simp only[Bool.not_eq_true',Bool.or_eq_false_iff,Bool.not_eq_false',beq_iff_eq]at hg
  obtain ⟨⟨g1,g2⟩,g3⟩:=hg
  unfold getP at g1 ⊢
  cases hp:c.Patrons.find? (fun p=>p.ID==n.Patron) with
  |none=>rw[hp]at g1;cases g1
  |some p=>exact ⟨x,p,rfl,List.mem_of_find?_eq_some hf,by have:=List.find?_some hf;simpa using this,rfl,by have:=List.find?_some hp;simpa using this,g2,g3⟩
theorem z19 {l:List Rule} {p it br:Int}:zfc l (zaas l p it br):=by
 have key:∀(m:List Rule) (i:Nat) (b:Int),i+m.length=l.length→zfc l b→zfc l (zdl (σ:=Int) (β:=Int) (fun i x b=>.inl (zpv l p it br i x b)) (fun b=>b) i m b):=by
  intro m
  induction m with
  |nil=>intro i b _ h;exact h
  |cons x m ih=>intro i b hi h;simp only[zdl];simp only[List.length_cons]at hi;exact ih _ _ (by omega) (zi0 h (by omega))
 exact key l 0 (-1) (by omega) (.inl (by omega))
theorem z7j {c:Circ} (hs:Short c) {p:Int} {x:Item}:∃r b,qdx c p x=some (r,b)∧(b=true→r∈c.Rules):=by
 unfold qdx
 rw[zg0 hs.patrons]
 dsimp only
 cases (getP c.Patrons p).2 with
 |false=>exact ⟨_,false,rfl,fun h=>by cases h⟩
 |true=>
  simp only[Bool.not_true,cond_false]
  unfold qfy
  rw[zai7 hs.rules]
  dsimp only
  rcases z19 (l:=c.Rules) (p:=(getP c.Patrons p).1.Kind) (it:=x.Kind) (br:=x.Branch) with h|⟨k,hk,hlt⟩
  ·rw[show decide (zaas c.Rules (getP c.Patrons p).1.Kind x.Kind x.Branch<0)=true by rw[decide_eq_true_eq];exact h]
   exact ⟨_,false,rfl,fun h=>by cases h⟩
  ·rw[hk,show decide ((k:Int)<0)=false by rw[decide_eq_false_iff_not];omega]
   simp only[cond_false,zaj,List.getElem?_eq_getElem hlt]
   exact ⟨_,true,rfl,fun _=>List.getElem_mem hlt⟩
end Go.Proofs.YtdahfgialanmpaaGreatDoor
namespace Go.Proofs.YtdahfgialanmpaaGreatDoor
open Ev
open Go (IntKind)
theorem zux {l:List Loan} {item due:Int} (h:(zh2 l item due).2=0) (hl:l.length<1000000000):(zh2 l item due).1.length<1000000000:=by
 unfold zh2 at h ⊢
 cases hf:l.find? (fun n=>n.Item==item) with
 |none=>rw[hf]at h;cases h
 |some x=>
  rw[hf]at h
  simp only at h ⊢
  cases x.Recalled with
  |true=>simp
  |false=>
   simp only[cond_false]at h ⊢
   unfold setL at h ⊢
   cases (!(za9 (l.set (fIdx (fun n=>n.Item==item) l).toNat ⟨x.Item,x.Patron,x.Out,due,wr .i64 (x.Renewals+1),false⟩)==0)) with
   |true=>simp
   |false=>simp;exact hl
theorem zfe {c:Circ} {l:List Loan} (hs:Short c) (hl:l.length<1000000000):Short (zgn c l):=by
 obtain ⟨h1,h2,h3,h4,h5,h6,h7,h8,h9,h10,h11,h12,h13⟩:=hs
 exact ⟨h1,h2,hl,h4,h5,h6,h7,h8,h9,h10,h11,h12,h13⟩
theorem zft {α β:Type} {step:α→Option (α⊕β)} (Inv:α→Prop) (μ:α→Nat) (h:∀a,Inv a→(∃a',step a=some (.inl a')∧Inv a'∧μ a'<μ a)∨∃b,step a=some (.inr b)) {a:α} (ha:Inv a) (hm:μ a<FUEL):∃r,zae step a=some r:=by
 have key:∀n a,Inv a→μ a<n→∃r,zbh step n a=some r:=by
  intro n
  induction n with
  |zero=>intro a _ h;omega
  |succ n ih=>
   intro a hi hn
   simp only[zbh]
   rcases h a hi with ⟨a',h1,h2,h3⟩|⟨b,h1⟩
   ·rw[h1];exact ih a' h2 (by omega)
   ·rw[h1];exact ⟨b,rfl⟩
 exact key FUEL a ha hm
theorem zka {c:Calendar} (hc:CalOk c) (d:Int):∃a b,qa6 c d=some (a,b):=by
 obtain ⟨r,hr⟩:=zft (step:=zgz) (fun a=>0≤a.1∧a.2.1=c) (fun a=>(109573-a.1).toNat) (by
  rintro ⟨d,c',_⟩ ⟨h0,(rfl:c'=c)⟩
  simp only at h0
  simp only[zgz,z0y hc]
  by_cases hq:d≤109572
  ·rw[show decide (d≤109572)=true by rw[decide_eq_true_eq];exact hq]
   simp only[cond_true]
   cases zl0 c' d with
   |true=>exact .inr ⟨_,rfl⟩
   |false=>
    simp only[cond_false]
    rw[zcu (by omega) (by omega)]
    exact .inl ⟨_,rfl,⟨by show 0≤d+1;omega,rfl⟩,by show (109573-(d+1)).toNat<(109573-d).toNat;omega⟩
  ·rw[show decide (d≤109572)=false by rw[decide_eq_false_iff_not];exact hq]
   exact .inr ⟨_,rfl⟩) (a:=((if d<0 then 0 else d),c,())) ⟨by show 0≤if d<0 then 0 else d;split<;>omega,rfl⟩ (by rw[zbs];show (109573-if d<0 then 0 else d).toNat<_;split<;>omega)
 unfold qa6
 rw[hr]
 rcases r with _|⟨a,b,_⟩
 ·exact ⟨_,_,rfl⟩
 ·exact ⟨_,_,rfl⟩
theorem zs0 {c:Calendar} (hc:CalOk c) (d:Int):∃a b,qbu c d=some (a,b):=by
 obtain ⟨r,hr⟩:=zft (step:=znf) (fun a=>a.1≤109572∧a.2.1=c) (fun a=>(a.1+1).toNat) (by
  rintro ⟨d,c',_⟩ ⟨h0,(rfl:c'=c)⟩
  simp only at h0
  simp only[znf,z0y hc]
  by_cases hq:0≤d
  ·rw[show decide (0≤d)=true by rw[decide_eq_true_eq];exact hq]
   simp only[cond_true]
   cases zl0 c' d with
   |true=>exact .inr ⟨_,rfl⟩
   |false=>
    simp only[cond_false]
    rw[zcu (by omega) (by omega)]
    exact .inl ⟨_,rfl,⟨by show d-1≤109572;omega,rfl⟩,by show (d-1+1).toNat<(d+1).toNat;omega⟩
  ·rw[show decide (0≤d)=false by rw[decide_eq_false_iff_not];exact hq]
   exact .inr ⟨_,rfl⟩) (a:=((if 109572<d then 109572 else d),c,())) ⟨by show (if 109572<d then 109572 else d)≤109572;split<;>omega,rfl⟩ (by rw[zbs];show ((if 109572<d then 109572 else d)+1).toNat<_;split<;>omega)
 unfold qbu
 rw[hr]
 rcases r with _|⟨a,b,_⟩
 ·exact ⟨_,_,rfl⟩
 ·exact ⟨_,_,rfl⟩
theorem zcj {α β:Type} {b:Bool} {x y:Option (α×β)} (hx:∃u v,x=some (u,v)) (hy:∃u v,y=some (u,v)):∃u v,(bif b then x else y)=some (u,v):=by
 cases b
 ·exact hy
 ·exact hx
theorem zaci {r:Rule} {c:Calendar} (hc:CalOk c) (day u:Int):∃a b,qfz r c day u=some (a,b):=by
 have core:∀last:Int,∃a b,(bif decide (last≤day) then (some (0,15):Option (Int×Int)) else match qa6 c (if last<wr .i64 (day+r.Days) then last else wr .i64 (day+r.Days)) with
  |some (r6,r7)=>(bif (!(r7==0)||decide (last<r6)) then (match qbu c last with
   |some (r10,r11)=>(bif (!(r11==0)||decide (r10≤day)) then some (0,15) else some (r10,0))
   |none=>none) else (bif (!(r7==0)||decide (r6≤day)) then some (0,15) else some (r6,0)))
  |none=>none)=some (a,b):=by
  intro last
  refine zcj ⟨_,_,rfl⟩ ?_
  obtain ⟨a,b,h⟩:=zka hc (if last<wr .i64 (day+r.Days) then last else wr .i64 (day+r.Days))
  obtain ⟨a2,b2,h2⟩:=zs0 hc last
  rw[h,h2]
  simp only
  exact zcj (zcj ⟨_,_,rfl⟩ ⟨_,_,rfl⟩) (zcj ⟨_,_,rfl⟩ ⟨_,_,rfl⟩)
 unfold qfz
 simp -zeta only[z6y,k_or,za6]
 dsimp only
 refine zcj ⟨_,_,rfl⟩ (zcj ⟨_,_,rfl⟩ ?_)
 refine zcj ?_ ?_
 ·exact core _
 ·exact core _
theorem z02 {r:Rule} {c:Calendar} (hc:CalOk c) (n:Loan) (day u:Int):∃a b,qff r c n day u=some (a,b):=by
 unfold qff
 simp -zeta only[k_or]
 dsimp only
 refine zcj ⟨_,_,rfl⟩ ?_
 obtain ⟨a,b,h⟩:=zaci (r:=r) hc day u
 rw[h]
 simp only
 exact zcj ⟨_,_,rfl⟩ (zcj ⟨_,_,rfl⟩ ⟨_,_,rfl⟩)
def z1g (a b:Option (Circ×Int×Int)):Prop:=∃c n e,a=some (c,n,e)∧b=some (c,n,e)∧Short c
theorem zbt {e:Int}:z1g (some (zea,0,e)) (some (zea,0,e)):=⟨_,_,_,rfl,rfl,zsa⟩
theorem zuy {c:Circ} {item:Int} (hs:Short c) (h:FitP c):z1g (qbv c item) (qbw c item):=by
 unfold qbv qbw
 rw[zajb hs.loans,z62 hs.loans]
 cases hn:c.Loans.find? (fun n=>n.Item==item) with
 |none=>
  have e:zc6 c.Loans item=((⟨0,0,0,0,0,false⟩:Loan),false):=by unfold zc6;rw[hn]
  rw[e]
  rw[z6s hs.items]
  exact zbt
 |some n=>
  obtain ⟨hm,hit⟩:=zqj h hn
  have e:zc6 c.Loans item=(n,true):=by unfold zc6;rw[hn]
  obtain ⟨x,p,hx,hxm,hxi,hp,hpi,hw,hwho⟩:=zz6 h hm
  rw[hit]at hx
  rw[e]
  rcases z6r (item:=item) hs.items with ⟨q1,q2⟩|⟨i,y,q1,q2,q3,q4⟩
  ·rw[hx]at q2;cases q2
  ·rw[hx]at q4;cases q4
   have q1':qn c item=some (i:Int):=by rw[zart hs.items,←z6s hs.items,q1]
   have hb:=zmk h hxm
   simp -zeta only[q1,q1',q2,zaj,zhd,Bool.not_true,cond_false,Bool.or_self,k_or,zly]
   dsimp only
   simp only[cond_false]
   cases hst:x.Custody.State==4 with
   |false=>exact zbt
   |true=>
    simp only[Bool.not_true,cond_false,zaja hs.patrons,hp,zay7 hs h.charges,zaza hs h.charges,hpi]
    cases decide (0<((ze4 p c.Today (owed n.Patron c.Charges) (zt4 n.Patron c.Today c.Loans)).length:Int)) with
    |true=>exact zbt
    |false=>
     have hc:=zarm (p:=fun (g:Unit×Circ×Item×Unit) x0=>qcr x0 g.2.1 g.2.2.1) (g:=((),(c,x,()))) (fun h=>h.State==1&&decide (h.Asleep≤c.Today)&&(h.Record==x.Record&&(h.Item==0||h.Item==x.ID))) hs.holds (fun h _=>zay3 h c x)
     have hl10:=zud (item:=item) (n:=n) (x:=x) hs
     simp only[cond_false,hc]
     rw[show c.Holds.any (fun h=>h.State==1&&decide (h.Asleep≤c.Today)&&(h.Record==x.Record&&(h.Item==0||h.Item==x.ID)))=zfu c x from rfl]
     rw[show zae zfp (item,0,c,(⟨0,[],[],[],[],[],[],⟨⟨0,[]⟩,⟨0,[]⟩,⟨0,[]⟩,⟨0,[]⟩⟩,[],0,0,false⟩:Circ),n,x,())=_ from hl10]
     cases zfu c x with
     |true=>exact zbt
     |false=>
      obtain ⟨r,b,hr,hrm⟩:=z7j (p:=n.Patron) (x:=x) hs
      simp only[cond_false,z6z hs,hr,zg0 hs.patrons,hp]
      cases b with
      |false=>exact zbt
      |true=>
       simp only[Bool.not_true,cond_false,zai9 hb,zazr hb,zars (zn1 h _) (zarv h (hrm rfl))]
       obtain ⟨due,err,hq⟩:=z02 (r:=r) (zn1 h x.Custody.Branch) n c.Today p.Until
       rw[hq]
       ·simp only
        cases he:err==0 with
        |false=>exact zbt
        |true=>
         simp only[Bool.not_true,cond_false,qcb,zazl hs.loans,zazg hs.loans]
         cases hrl:zh2 c.Loans item due with
         |mk l e2=>
          simp only
          by_cases h2:e2=0
          ·subst h2
           have hlen:=zux (l:=c.Loans) (item:=item) (due:=due) (by rw[hrl]) hs.loans
           rw[hrl]at hlen
           exact ⟨zgn c l,due,0,rfl,rfl,zfe hs hlen⟩
          ·have h3:(e2==0)=false:=by simpa using h2
           rw[zf6 c l e2 h2]
           simp only[h3,Bool.not_false,cond_true,qa9]
           exact zbt
end Go.Proofs.YtdahfgialanmpaaGreatDoor
namespace Go.Proofs.YtdahfgialanmpaaGreatDoor
open Ev
open Go (IntKind)
def getH (l:List Hold) (id:Int):Hold×Bool:=match l.find? (fun h=>h.ID==id) with|some h=>(h,true)|none=>(zm0,false)
theorem zay6 {l:List Hold} {id:Int} (hl:l.length<1000000000):qd0 l id=some (getH l id):=by
 unfold qd0 qbf getH
 rw[zai0 (p:=fun (g:Unit×Int×Unit) x0=>qee x0 g.2.1) (g:=((),(id,()))) (fun x=>x.ID==id) hl (fun x _=>rfl)]
 rcases zbj (fun x:Hold=>x.ID==id) l with ⟨h1,h2⟩|⟨i,x,h1,h2,h3,h4⟩
 ·simp only[h1,h2]
  try rfl
 ·have d:decide ((0:Int)≤(i:Int))=true:=by rw[decide_eq_true_eq];omega
  simp only[h1,h4,d,cond_true,zaj,h2]
theorem zayy {l:List Hold} {id:Int} (hl:l.length<1000000000):qbn l id=some (getH l id):=by
 unfold qbn getH
 have h:=zbn (step:=zne) (fun i=>(l,id,(i:Int),zm0,())) l (fun x=>x.ID==id) (fun _ x=>(.inr (true,x,()):(Hold×Unit)⊕(Bool×Hold×Unit))) (.inl (zm0,())) hl
  (by simp only[zne,dge,cond_false])
  (fun i x hx=>by
   have hi:=(List.getElem?_eq_some_iff.1 hx).1
   simp only[zne,dlt hi,zaj,hx,cond_true,zap (show i<9223372036854775807 by omega)])
 rw[show zae zne (l,id,0,(⟨0,0,0,0,0,0,0,0,0,0,0⟩:Hold),())=_ from h,zmj]
 cases l.find? (fun x=>x.ID==id)<;>rfl
theorem zsu {α β γ:Type} {s1:α→Option (α⊕β)} {s2:γ→Option (γ⊕β)} (Inv:α→Prop) (φ:α→γ)
 (h:∀a,Inv a→s2 (φ a)=(match s1 a with|none=>none|some (.inl b)=>some (.inl (φ b))|some (.inr b)=>some (.inr b)))
 (hi:∀a b,Inv a→s1 a=some (.inl b)→Inv b) {a:α} (ha:Inv a):zae s2 (φ a)=zae s1 a:=by
 have key:∀n a,Inv a→zbh s2 n (φ a)=zbh s1 n a:=by
  intro n
  induction n with
  |zero=>intro a _;rfl
  |succ n ih=>
   intro a ha
   simp only[zbh]
   rw[h a ha]
   cases hs:s1 a with
   |none=>rfl
   |some x=>
    cases x with
    |inl b=>exact ih b (hi a b ha hs)
    |inr b=>rfl
 exact key FUEL a ha
theorem zark {c:Calendar} (hc:CalOk c) (day n:Int):qa0 c day n=qbl c day n:=by
 have hw:zae zko (n,day,0,c,())=zae zm3 (day,n,0,c,()):=by
  refine zsu (s1:=zm3) (s2:=zko) (fun a=>a.2.2.2.1=c) (fun a=>(a.2.1,a.1,a.2.2.1,a.2.2.2.1,())) ?_ ?_ (a:=(day,n,0,c,())) rfl
  ·rintro ⟨d,n,i,c',_⟩ (rfl:c'=c)
   simp only[zm3,zko,zua hc]
   cases decide (i<n) with
   |false=>rfl
   |true=>
    simp only[cond_true]
    cases qa6 c' (wr .i64 (d+1)) with
    |none=>rfl
    |some p=>
     obtain ⟨a,b⟩:=p
     simp only
     cases !(b==0)<;>rfl
  ·rintro ⟨d,n,i,c',_⟩ b (rfl:c'=c) hb
   simp only[zm3]at hb
   cases hq:decide (i<n) with
   |false=>rw[hq]at hb;cases hb
   |true=>
    rw[hq]at hb
    simp only[cond_true]at hb
    cases hn:qa1 c' (wr .i64 (d+1)) with
    |none=>rw[hn]at hb;cases hb
    |some p=>
     obtain ⟨a,b2⟩:=p
     rw[hn]at hb
     simp only at hb
     cases he:!(b2==0) with
     |true=>rw[he]at hb;cases hb
     |false=>rw[he]at hb;cases hb;rfl
 unfold qa0 qbl
 simp -zeta only[k_or,zai8,zua hc]
 dsimp only
 rw[hw,←zkb 0 109572]
 try rfl
def zk4 (x:Loan) (due:Int):Int:=if (if due<x.Due then due else x.Due)<x.Out then x.Out else (if due<x.Due then due else x.Due)
def zge (l:List Loan) (item due:Int):List Loan×Int:=
 match l.find? (fun n=>n.Item==item) with
 |some x=>bif x.Recalled then ([],12) else bif !(rng 0 109572 due) then ([],2) else (l.set (fIdx (fun n=>n.Item==item) l).toNat ⟨x.Item,x.Patron,x.Out,zk4 x due,x.Renewals,true⟩,0)
 |none=>([],9)
theorem zazk {l:List Loan} {item due:Int} (hl:l.length<1000000000):qfs l item due=some (zge l item due):=by
 unfold qfs zge qab
 dsimp only
 rw[zgx hl]
 rcases zbj (fun x:Loan=>x.Item==item) l with ⟨h1,h2⟩|⟨i,x,h1,h2,h3,h4⟩
 ·simp only[h2,zia,cond_true]
 ·simp only[h4,h1,zhd,cond_false]
  cases x.Recalled with
  |true=>rfl
  |false=>
   simp only[cond_false,z66]
   cases rng 0 109572 due with
   |false=>rfl
   |true=>simp only[Bool.not_true,cond_false,zhw hl h2,Int.toNat_natCast,zk4]
theorem zazf {l:List Loan} {item due:Int} (hl:l.length<1000000000):qfc l item due=some (zge l item due):=by
 unfold qfc zge
 rw[z6t hl]
 rcases zbj (fun x:Loan=>x.Item==item) l with ⟨h1,h2⟩|⟨i,x,h1,h2,h3,h4⟩
 ·simp only[h1,h2,zia,cond_true]
 ·have hlt:=(List.getElem?_eq_some_iff.1 h2).1
  have hset:∀y:Loan,(l.set i y)[i]?=some y:=fun y=>by rw[List.getElem?_set_self hlt]
  simp -zeta only[h4,h1,zhd,cond_false,zaj,h2,List.nil_append,Int.toNat_natCast,hset,List.set_set,zn5 hl,cond_true,k_or]
  cases hrc:x.Recalled with
  |true=>rfl
  |false=>
   dsimp only
   rw[←zkb 0 109572]
   cases rng 0 109572 due with
   |false=>rfl
   |true=>
    simp only[Bool.not_true,cond_false,hset,List.set_set]
    unfold zk4
    by_cases hd:due<x.Due
    ·rw[show decide (due<x.Due)=true by rw[decide_eq_true_eq];exact hd]
     simp only[cond_true,hset,List.set_set,hd,if_true]
     by_cases ho:due<x.Out
     ·rw[show decide (due<x.Out)=true by rw[decide_eq_true_eq];exact ho]
      simp only[cond_true,ho,if_true]
     ·rw[show decide (due<x.Out)=false by rw[decide_eq_false_iff_not];exact ho]
      simp only[cond_false,ho,if_false]
    ·rw[show decide (due<x.Due)=false by rw[decide_eq_false_iff_not];exact hd]
     simp only[cond_false,hset,List.set_set,hd,if_false]
     by_cases ho:x.Due<x.Out
     ·rw[show decide (x.Due<x.Out)=true by rw[decide_eq_true_eq];exact ho]
      simp only[cond_true,ho,if_true]
     ·rw[show decide (x.Due<x.Out)=false by rw[decide_eq_false_iff_not];exact ho]
      simp only[cond_false,ho,if_false]
end Go.Proofs.YtdahfgialanmpaaGreatDoor
namespace Go.Proofs.YtdahfgialanmpaaGreatDoor
open Ev
open Go (IntKind)
theorem z7l {X σ:Type} {f:Nat→X→σ→σ} (Inv:σ→Prop):∀{l:List X} {i:Nat} {s:σ},(∀i x s,x∈l→Inv s→Inv (f i x s))→Inv s→∃t,Inv t∧∀{β:Type} (g:σ→β),zdl (fun i x s=>.inl (f i x s)) g i l s=g t:=by
 intro l
 induction l with
 |nil=>intro i s _ hs;exact ⟨s,hs,fun g=>rfl⟩
 |cons x l ih=>
  intro i s h hs
  obtain ⟨t,h1,h2⟩:=ih (i:=i+1) (s:=f i x s) (fun i y s hy=>h i y s (List.mem_cons_of_mem _ hy)) (h i x s (List.mem_cons_self ..) hs)
  exact ⟨t,h1,fun g=>h2 g⟩
theorem zap4 {c:Circ} (h:FitP c) {x:Item} (hx:x∈c.Items):1≤x.ID∧x.ID≤9999:=by
 have h:=h.items
 unfold zhv at h
 simp only[Bool.and_eq_true]at h
 obtain ⟨i,hi⟩:=List.getElem?_of_mem hx
 have:=(ziv.1 h.2.1) i x hi
 rw[Nat.zero_add]at this
 simp only[Bool.not_eq_true',Bool.or_eq_false_iff,Bool.not_eq_false']at this
 have h2:=this.1
 unfold zcq at h2
 simp only[Bool.and_eq_true,zd1]at h2
 omega
def zhx:Loan:=⟨0,0,0,0,0,false⟩
def zm1:Item:=⟨0,0,0,0,0,[],⟨0,0,0,0⟩⟩
abbrev RS:=Bool×Loan×Item
def ztw (h:Hold) (x:Item):Bool:=h.Record==x.Record&&(h.Item==0||h.Item==x.ID)
theorem zay2 (h:Hold) (x:Item):qch h x=some (ztw h x):=by
 unfold qch ztw
 simp -zeta only[k_or,za6]
 try rfl
def recF (c:Circ) (h:Hold) (x:Item) (s:RS):RS:=
 bif x.Custody.State==4&&ztw h x&&((zc6 c.Loans x.ID).2&&!(zc6 c.Loans x.ID).1.Recalled&&(!s.1||decide ((zc6 c.Loans x.ID).1.Due<s.2.1.Due))) then (true,(zc6 c.Loans x.ID).1,x) else s
def znk (c:Circ) (s:RS):Prop:=(s.1=false∧s.2.1=zhx)∨(s.1=true∧s.2.1∈c.Loans∧s.2.2∈c.Items∧s.2.2.ID=s.2.1.Item∧s.2.1.Item≠0)
theorem zpf {c:Circ} (h:FitP c) {o:Hold} {x:Item} {s:RS} (hx:x∈c.Items) (hs:znk c s):znk c (recF c o x s):=by
 unfold recF
 cases hb:(x.Custody.State==4&&ztw o x&&((zc6 c.Loans x.ID).2&&!(zc6 c.Loans x.ID).1.Recalled&&(!s.1||decide ((zc6 c.Loans x.ID).1.Due<s.2.1.Due)))) with
 |false=>exact hs
 |true=>
  simp only[Bool.and_eq_true]at hb
  have hf:=hb.2.1.1
  unfold zc6 at hf ⊢
  cases hn:c.Loans.find? (fun n=>n.Item==x.ID) with
  |none=>rw[hn]at hf;cases hf
  |some n=>
   obtain ⟨m1,m2⟩:=zqj h hn
   have:=(zap4 h hx).1
   exact .inr ⟨rfl,m1,hx,m2.symm,by show n.Item≠0;omega⟩
theorem zsg {c:Circ} {s:RS} (h:znk c s):(s.2.1.Item==0)=!s.1:=by
 rcases h with ⟨h1,h2⟩|⟨h1,_,_,_,h2⟩
 ·rw[h1,h2];rfl
 ·rw[h1];simpa using h2
theorem zl2 {c:Circ} (hs:Short c) (h:FitP c) (o:Hold):zae zkm (false,c.Items,(c.Items.length:Int),0,c,o,zhx,zm1,())=some (zdl (β:=Bool×Loan×Item×Unit) (fun (_:Nat) x s=>.inl (recF c o x s)) (fun s=>(s.1,s.2.1,s.2.2,())) 0 c.Items (false,zhx,zm1)):=by
 exact zbz (step:=zkm) (fun (i:Nat) (s:RS)=>znk c s) (fun i s=>(s.1,c.Items,(c.Items.length:Int),(i:Int),c,o,s.2.1,s.2.2,())) c.Items
  (fun i x s=>.inl (recF c o x s)) (fun s=>(s.1,s.2.1,s.2.2,())) (by rw[zbs];have:=hs.items;omega)
  (fun s _=>by simp only[zkm,dge,cond_false])
  (fun i x s hx hi=>by
   have hlt:=(List.getElem?_eq_some_iff.1 hx).1
   have:=hs.items
   refine ⟨?_,fun s' hs'=>by cases hs';exact zpf h (List.mem_of_getElem? hx) hi⟩
   obtain ⟨ok,best,vat⟩:=s
   unfold recF
   simp -zeta only[zkm,dlt hlt,zaj,hx,cond_true,zay2,zajb hs.loans,k_or,za6,zap (show i<9223372036854775807 by omega)]
   dsimp only
   cases x.Custody.State==4<;>cases ztw o x<;>cases (zc6 c.Loans x.ID).2<;>cases (zc6 c.Loans x.ID).1.Recalled<;>cases ok<;>cases decide ((zc6 c.Loans x.ID).1.Due<best.Due)<;>rfl) (false,zhx,zm1) (.inl ⟨rfl,rfl⟩)
theorem z0p {c:Circ} (hs:Short c) (h:FitP c) (o:Hold):zae zkp (0,c,zea,o,zhx,())=some (zdl (β:=Circ×Circ×Loan×Unit) (fun (_:Nat) x s=>.inl (recF c o x s)) (fun s=>(c,zea,s.2.1,())) 0 c.Items (false,zhx,zm1)):=by
 exact zbz (step:=zkp) (fun (i:Nat) (s:RS)=>znk c s) (fun i s=>((i:Int),c,zea,o,s.2.1,())) c.Items
  (fun i x s=>.inl (recF c o x s)) (fun s=>(c,zea,s.2.1,())) (by rw[zbs];have:=hs.items;omega)
  (fun s _=>by simp only[zkp,dge,cond_false])
  (fun i x s hx hi=>by
   have hlt:=(List.getElem?_eq_some_iff.1 hx).1
   have:=hs.items
   refine ⟨?_,fun s' hs'=>by cases hs';exact zpf h (List.mem_of_getElem? hx) hi⟩
   have hok:=zsg hi
   obtain ⟨ok,best,vat⟩:=s
   simp only at hok
   unfold recF
   simp -zeta only[zkp,dlt hlt,zaj,hx,cond_true,zaje,z62 hs.loans,k_or,za6,hok,zap (show i<9223372036854775807 by omega)]
   rw[show (o.Record==x.Record&&(o.Item==0||o.Item==x.ID))=ztw o x from rfl]
   dsimp only
   cases x.Custody.State==4<;>cases ztw o x<;>cases (zc6 c.Loans x.ID).2<;>cases (zc6 c.Loans x.ID).1.Recalled<;>cases ok<;>cases decide ((zc6 c.Loans x.ID).1.Due<best.Due)<;>rfl) (false,zhx,zm1) (.inl ⟨rfl,rfl⟩)
theorem zzu {c:Calendar} (hc:CalOk c) (d n:Int):∃a b,qbl c d n=some (a,b):=by
 unfold qbl
 simp -zeta only[k_or]
 dsimp only
 cases hb:(decide (n<0)||decide (1000<n)) with
 |true=>exact ⟨_,_,rfl⟩
 |false=>
  simp only[Bool.or_eq_false_iff,decide_eq_false_iff_not]at hb
  simp only[cond_false]
  refine zcj ⟨_,_,rfl⟩ (zcj ?_ ?_)
  ·obtain ⟨a,b,h⟩:=zka hc d
   rw[h]
   exact ⟨_,_,rfl⟩
  ·obtain ⟨r,hr⟩:=zft (step:=zko) (fun a=>a.1=n∧0≤a.2.2.1∧a.2.2.2.1=c) (fun a=>(n-a.2.2.1).toNat) (by
    rintro ⟨n',d,i,c',_⟩ ⟨(rfl:n'=n),h0,(rfl:c'=c)⟩
    simp only at h0
    simp only[zko]
    by_cases hq:i<n'
    ·rw[show decide (i<n')=true by rw[decide_eq_true_eq];exact hq]
     obtain ⟨a,b,h⟩:=zka hc (wr .i64 (d+1))
     simp only[cond_true,h]
     cases !(b==0) with
     |true=>exact .inr ⟨_,rfl⟩
     |false=>
      simp only[cond_false]
      rw[zcu (n:=i+1) (by omega) (by omega)]
      exact .inl ⟨_,rfl,⟨rfl,by show 0≤i+1;omega,rfl⟩,by show (n'-(i+1)).toNat<(n'-i).toNat;omega⟩
    ·rw[show decide (i<n')=false by rw[decide_eq_false_iff_not];exact hq]
     exact .inr ⟨_,rfl⟩) (a:=(n,d,0,c,())) ⟨rfl,by show (0:Int)≤0;omega,rfl⟩ (by rw[zbs];show (n-0).toNat<_;omega)
   rw[hr]
   rcases r with ⟨a,_⟩|⟨a,b,_⟩
   ·exact ⟨_,_,rfl⟩
   ·exact ⟨_,_,rfl⟩
theorem zuw {l:List Loan} {item due:Int} (hl:l.length<1000000000):(zge l item due).1.length<1000000000:=by
 unfold zge
 cases l.find? (fun n=>n.Item==item) with
 |none=>simp
 |some x=>
  simp only
  cases x.Recalled with
  |true=>simp
  |false=>
   simp only[cond_false]
   cases (!(rng 0 109572 due)) with
   |true=>simp
   |false=>simp;exact hl
theorem zsh {c:Circ} {id:Int} (hs:Short c) (h:FitP c):z1g (qer c id) (qbt c id):=by
 unfold qer qbt
 rw[zay6 hs.holds,zayy hs.holds]
 obtain ⟨o,b⟩:=getH c.Holds id
 dsimp only
 cases b with
 |false=>exact zbt
 |true=>
  simp only[Bool.not_true,cond_false]
  cases o.State==1 with
  |false=>exact zbt
  |true=>
   simp only[Bool.not_true,cond_false]
   obtain ⟨t,ht,hg⟩:=z7l (f:=fun (_:Nat) x s=>recF c o x s) (znk c) (l:=c.Items) (i:=0) (s:=(false,zhx,zm1)) (fun i x s hx hs=>zpf h hx hs) (.inl ⟨rfl,rfl⟩)
   have r1:=zl2 hs h o
   have r2:=z0p hs h o
   rw[hg]at r1 r2
   unfold qaz
   rw[show zae zkm (false,c.Items,(c.Items.length:Int),0,c,o,(⟨0,0,0,0,0,false⟩:Loan),(⟨0,0,0,0,0,[],⟨0,0,0,0⟩⟩:Item),())=_ from r1]
   rw[show zae zkp (0,c,(⟨0,[],[],[],[],[],[],⟨⟨0,[]⟩,⟨0,[]⟩,⟨0,[]⟩,⟨0,[]⟩⟩,[],0,0,false⟩:Circ),o,(⟨0,0,0,0,0,false⟩:Loan),())=_ from r2]
   have hok:=zsg ht
   obtain ⟨ok,best,vat⟩:=t
   simp only at hok
   dsimp only
   rw[hok]
   rcases ht with ⟨h1,h2⟩|⟨h1,h2,h3,h4,h5⟩
   ·simp only at h1 h2
    subst h1
    exact zbt
   ·simp only at h1 h2 h3 h4 h5
    subst h1
    simp only[Bool.not_true,cond_false]
    have hb:=zmk h h3
    have hfind:c.Items.find? (fun y=>y.ID==best.Item)=some vat:=by rw[←h4];exact zvd (key:=fun y:Item=>y.ID) (zqt h.items) h3
    obtain ⟨r,b,hr,hrm⟩:=z7j (p:=best.Patron) (x:=vat) hs
    rcases zg1 (item:=best.Item) hs.items with ⟨q1,q2⟩|⟨i,y,q1,q2,q3,q4⟩
    ·rw[hfind]at q2;cases q2
    ·rw[hfind]at q4;cases q4
     simp only[q1,zaj,q2,z6z hs,hr]
     cases b with
     |false=>exact zbt
     |true=>
      simp only[Bool.not_true,cond_false,qcb,qek,zai9 hb,zazr hb,zark (zn1 h _)]
      obtain ⟨due,err,hq⟩:=zzu (zn1 h vat.Custody.Branch) c.Today r.Recall
      rw[hq]
      simp only
      cases he:err==0 with
      |false=>
       have he2:¬err=0:=by simpa using he
       simp only[Bool.not_false,cond_true,qt,beq_self_eq_true,he,cond_false,qa9]
       exact zbt
      |true=>
       simp only[Bool.not_true,cond_false,beq_self_eq_true,cond_true,zazk hs.loans,zazf hs.loans,h4]
       have hlen:=zuw (l:=c.Loans) (item:=best.Item) (due:=due) hs.loans
       generalize zge c.Loans best.Item due=q at hlen ⊢
       obtain ⟨l,e2⟩:=q
       simp only at hlen ⊢
       by_cases h2:e2=0
       ·subst h2
        exact ⟨zgn c l,best.Item,0,rfl,rfl,zfe hs hlen⟩
       ·have h3:(e2==0)=false:=by simpa using h2
        rw[zf6 c l e2 h2]
        simp only[h3,Bool.not_false,cond_true,qa9]
        exact zbt
theorem zke (c:Circ) (item id:Int):qdm c item id=some true:=by
 unfold qdm
 simp only[zazm,zaam]
 cases hb:zlg c&&znm c with
 |false=>rfl
 |true=>
  simp only[Bool.and_eq_true]at hb
  have hs:=(zakl hb.1).short
  have h:=fitP hb.2
  obtain ⟨a,n,e,q1,q2,q3⟩:=zuy (item:=item) hs h
  obtain ⟨a',n',e',p1,p2,p3⟩:=zsh (id:=id) hs h
  simp -zeta only[Bool.not_true,cond_false,q1,q2,p1,p2,z61 q3,z61 p3,za6]
  simp
end Go.Proofs.YtdahfgialanmpaaGreatDoor
