/- CircReceives: a part of the proof of the given statement, which is proved without conditions. -/
import Derived.Test.YtdahfgialanmpaaGreatDoorV5
import Derived.KernelRfl
set_option linter.all false
namespace Go.Proofs.YtdahfgialanmpaaGreatDoor
open Ev
open Go (IntKind)
theorem zbv {X:Type} (p:X→Bool) (l:List X):(fIdx p l = -1∧l.find? p=none)∨∃(i:Nat) (x:X),fIdx p l=(i:Int)∧l[i]?=some x∧p x=true∧l.find? p=some x:=by
 unfold fIdx
 induction l with
 |nil=>exact .inl ⟨rfl,rfl⟩
 |cons y l ih=>
  simp only[List.findIdx?_cons,List.find?_cons]
  cases hp:p y with
  |true=>exact .inr ⟨0,y,rfl,rfl,hp,rfl⟩
  |false=>
   simp only[Bool.false_eq_true,if_false]
   rcases ih with ⟨h1,h2⟩|⟨i,x,h1,h2,h3,h4⟩
   ·left
    refine ⟨?_,h2⟩
    cases hf:l.findIdx? p with
    |none=>rfl
    |some k=>rw[hf]at h1;simp only at h1;omega
   ·right
    refine ⟨i+1,x,?_,by simpa using h2,h3,h4⟩
    cases hf:l.findIdx? p with
    |none=>rw[hf]at h1;simp only at h1;omega
    |some k=>rw[hf]at h1;simp only[Option.map_some]at h1 ⊢;omega
theorem zt9:decide ((-1:Int)<0)=true:=rfl
theorem zoy {i:Nat}:decide ((i:Int)<0)=false:=by rw[decide_eq_false_iff_not];omega
def getP (l:List Patron) (id:Int):Patron×Bool:=match l.find? (fun p=>p.ID==id) with|some p=>(p,true)|none=>(⟨0,0,0,0,false,[]⟩,false)
def zug (l:List Loan) (item:Int):Loan×Bool:=match l.find? (fun n=>n.Item==item) with|some n=>(n,true)|none=>(⟨0,0,0,0,0,false⟩,false)
def znb:Hold:=⟨0,0,0,0,0,0,0,0,0,0,0⟩
def zhl (c:Circ) (item:Int):Hold×Bool:=match c.Holds.find? (fun h=>h.Got==item) with|some h=>(h,true)|none=>(znb,false)
theorem zafy {c:Circ} {item:Int} (hl:c.Items.length<1000000000):qi c item=some (fIdx (fun x=>x.ID==item) c.Items):=by
 unfold qi
 have h:=zbo (step:=z1k) (fun i=>(item,(i:Int),c,())) c.Items (fun x=>x.ID==item) (fun i _=>(.inr ((i:Int),()):Unit⊕(Int×Unit))) (.inl ()) hl
  (by simp only[z1k,dge,cond_false])
  (fun i x hx=>by
   have hi:=(List.getElem?_eq_some_iff.1 hx).1
   simp only[z1k,dlt hi,zaj,hx,cond_true,zaq (show i<9223372036854775807 by omega)])
 rw[show zae z1k (item,0,c,())=_ from h,←zdv]
 have:=zci (p:=fun x:Item=>x.ID==item) (g:=fun i _=>(.inr ((i:Int),()):Unit⊕(Int×Unit))) (d:=.inl ()) (fun z=>match (some z:Option (Unit⊕(Int×Unit))) with|some (.inl _)=>some (-1)|some (.inr (v,_))=>some v|none=>none) (l:=c.Items) (i:=0)
 exact this.trans ((zci (p:=fun x:Item=>x.ID==item) (g:=fun i _=>(i:Int)) (d:=-1) (fun z=>some z) (l:=c.Items) (i:=0)).symm)
theorem zpv {c:Circ} {item:Int} (hl:c.Items.length<1000000000):(qi c item=some (-1)∧c.Items.find? (fun x=>x.ID==item)=none)∨
 ∃(i:Nat) (x:Item),qi c item=some (i:Int)∧c.Items[i]?=some x∧x.ID=item∧c.Items.find? (fun x=>x.ID==item)=some x:=by
 rw[zafy hl]
 rcases zbv (fun x:Item=>x.ID==item) c.Items with ⟨h1,h2⟩|⟨i,x,h1,h2,h3,h4⟩
 ·exact .inl ⟨by rw[h1],h2⟩
 ·exact .inr ⟨i,x,by rw[h1],h2,by simpa using h3,h4⟩
theorem za0c {l:List Patron} {id:Int} (hl:l.length<1000000000):qay l id=some (fIdx (fun x=>x.ID==id) l):=by
 unfold qay
 have h:=zbo (step:=znm) (fun i=>(l,id,(i:Int),())) l (fun x=>x.ID==id) (fun i _=>(.inr ((i:Int),()):Unit⊕(Int×Unit))) (.inl ()) hl
  (by simp only[znm,dge,cond_false])
  (fun i x hx=>by
   have hi:=(List.getElem?_eq_some_iff.1 hx).1
   simp only[znm,dlt hi,zaj,hx,cond_true,zaq (show i<9223372036854775807 by omega)])
 rw[show zae znm (l,id,0,())=_ from h,←zdv]
 have:=zci (p:=fun x:Patron=>x.ID==id) (g:=fun i _=>(.inr ((i:Int),()):Unit⊕(Int×Unit))) (d:=.inl ()) (fun z=>match (some z:Option (Unit⊕(Int×Unit))) with|some (.inl _)=>some (-1)|some (.inr (v,_))=>some v|none=>none) (l:=l) (i:=0)
 exact this.trans ((zci (p:=fun x:Patron=>x.ID==id) (g:=fun i _=>(i:Int)) (d:=-1) (fun z=>some z) (l:=l) (i:=0)).symm)
theorem zla {l:List Patron} {id:Int} (hl:l.length<1000000000):qcb l id=some (getP l id):=by
 unfold qcb getP
 rw[za0c hl]
 rcases zbv (fun x:Patron=>x.ID==id) l with ⟨h1,h2⟩|⟨i,x,h1,h2,h3,h4⟩
 ·simp only[h1,h2,zt9,cond_true]
 ·simp only[h1,h4,zoy,cond_false,zaj,h2]
theorem zaz5 {l:List Loan} {id:Int} (hl:l.length<1000000000):qap l id=some (fIdx (fun x=>x.Item==id) l):=by
 unfold qap
 have h:=zbo (step:=zni) (fun i=>(l,id,(i:Int),())) l (fun x=>x.Item==id) (fun i _=>(.inr ((i:Int),()):Unit⊕(Int×Unit))) (.inl ()) hl
  (by simp only[zni,dge,cond_false])
  (fun i x hx=>by
   have hi:=(List.getElem?_eq_some_iff.1 hx).1
   simp only[zni,dlt hi,zaj,hx,cond_true,zaq (show i<9223372036854775807 by omega)])
 rw[show zae zni (l,id,0,())=_ from h,←zdv]
 have:=zci (p:=fun x:Loan=>x.Item==id) (g:=fun i _=>(.inr ((i:Int),()):Unit⊕(Int×Unit))) (d:=.inl ()) (fun z=>match (some z:Option (Unit⊕(Int×Unit))) with|some (.inl _)=>some (-1)|some (.inr (v,_))=>some v|none=>none) (l:=l) (i:=0)
 exact this.trans ((zci (p:=fun x:Loan=>x.Item==id) (g:=fun i _=>(i:Int)) (d:=-1) (fun z=>some z) (l:=l) (i:=0)).symm)
theorem za0l {l:List Loan} {id:Int} (hl:l.length<1000000000):qdy l id=some (zug l id):=by
 unfold qdy zug
 rw[zaz5 hl]
 rcases zbv (fun x:Loan=>x.Item==id) l with ⟨h1,h2⟩|⟨i,x,h1,h2,h3,h4⟩
 ·simp only[h1,h2,zt9,cond_true]
 ·simp only[h1,h4,zoy,cond_false,zaj,h2]
theorem zaz7 {c:Circ} {item:Int} (hl:c.Holds.length<1000000000):qar c item=some (zhl c item):=by
 unfold qar zhl
 have h:=zbo (step:=znk) (fun i=>(item,(i:Int),c,znb,())) c.Holds (fun x=>x.Got==item) (fun _ x=>(.inr (true,x,()):(Hold×Unit)⊕(Bool×Hold×Unit))) (.inl (znb,())) hl
  (by simp only[znk,dge,cond_false])
  (fun i x hx=>by
   have hi:=(List.getElem?_eq_some_iff.1 hx).1
   simp only[znk,dlt hi,zaj,hx,cond_true,zaq (show i<9223372036854775807 by omega)])
 rw[show zae znk (item,0,c,(⟨0,0,0,0,0,0,0,0,0,0,0⟩:Hold),())=_ from h,zhr]
 cases c.Holds.find? (fun x=>x.Got==item)<;>rfl
def zds (c:Circ) (i:Nat) (x:Item):Bool:=
 !(decide (x.ID<1)||decide (9999<x.ID)||zbx c.Items i (fun y=>decide (x.ID≤y.ID))||decide (x.Record<1)||decide (9999<x.Record)||decide (x.Branch<1)||decide (4<x.Branch))&&
 !(decide (x.Kind<1)||decide (9<x.Kind)||decide (x.Price<0)||decide (100000000<x.Price)||decide (200<(x.Call.length:Int))||!(vld x.Call))&&
 !(!((zd4 x.Branch c.Moves x.ID).2.2==0)||!(zbc (zd4 x.Branch c.Moves x.ID).1 x.Custody))
def zey (c:Circ):Bool:=!(decide (64<(c.Items.length:Int))||decide (2000<(c.Moves.length:Int)))&&(zcw (zds c) 0 c.Items&&c.Moves.all (fun m=>(c.Items.find? (fun x=>x.ID==m.Item)).isSome))
structure Short (c:Circ):Prop where
 items:c.Items.length<1000000000
 patrons:c.Patrons.length<1000000000
 loans:c.Loans.length<1000000000
 holds:c.Holds.length<1000000000
 charges:c.Charges.length<1000000000
 rules:c.Rules.length<1000000000
 moves:c.Moves.length<1000000000
 call:∀x∈c.Items,x.Call.length<10000000
 name:∀x∈c.Patrons,x.Name.length<10000000
 cal0:c.Cals.x0.Closed.length<1000000000
 cal1:c.Cals.x1.Closed.length<1000000000
 cal2:c.Cals.x2.Closed.length<1000000000
 cal3:c.Cals.x3.Closed.length<1000000000
theorem z1d {c:Circ} (hs:Short c):zae zkx (0,c,())=some (bif zcw (zds c) 0 c.Items then .inl (c,()) else .inr (false,())):=by
 have h:=zav (step:=zkx) (fun i=>((i:Int),c,())) c.Items (zds c) (.inr (false,())) (.inl (c,())) hs.items
  (by simp only[zkx,dge,cond_false])
  (fun i x hx=>by
   have hi:=(List.getElem?_eq_some_iff.1 hx).1
   have hm:=List.mem_of_getElem? hx
   have hv:=zaj3 (s:=x.Call) (by have:=hs.call x hm;omega)
   have hr:=zaz4 (branch:=x.Branch) (item:=x.ID) hs.moves
   unfold zds
   rcases i with _|j
   ·simp -zeta only[zkx,dlt hi,zaj,hx,k_or,za8,z49,cond_false,cond_true,zbx,zaq (show 0<9223372036854775807 by omega),hv,hr]
    dsimp only
    generalize (decide (x.ID<1)||decide (9999<x.ID)||false||decide (x.Record<1)||decide (9999<x.Record)||decide (x.Branch<1)||decide (4<x.Branch))=b1
    generalize (decide (x.Kind<1)||decide (9<x.Kind)||decide (x.Price<0)||decide (100000000<x.Price)||decide (200<(x.Call.length:Int))||!(vld x.Call))=b2
    generalize (!((zd4 x.Branch c.Moves x.ID).2.2==0)||!(zbc (zd4 x.Branch c.Moves x.ID).1 x.Custody))=b3
    cases b1<;>cases b2<;>cases b3<;>rfl
   ·have hj:c.Items[j]?=some c.Items[j]:=List.getElem?_eq_getElem (by omega)
    have:=hs.items
    simp -zeta only[zkx,dlt hi,zaj,hx,k_or,za8,dpos,zgr (show j<1000000000 by omega),hj,cond_false,cond_true,Bool.true_and,zbx,zaq (show j+1<9223372036854775807 by omega),hv,hr]
    dsimp only
    generalize (decide (x.ID<1)||decide (9999<x.ID)||decide (x.ID≤c.Items[j].ID)||decide (x.Record<1)||decide (9999<x.Record)||decide (x.Branch<1)||decide (4<x.Branch))=b1
    generalize (decide (x.Kind<1)||decide (9<x.Kind)||decide (x.Price<0)||decide (100000000<x.Price)||decide (200<(x.Call.length:Int))||!(vld x.Call))=b2
    generalize (!((zd4 x.Branch c.Moves x.ID).2.2==0)||!(zbc (zd4 x.Branch c.Moves x.ID).1 x.Custody))=b3
    cases b1<;>cases b2<;>cases b3<;>rfl)
 exact h
theorem zuw {c:Circ} (hs:Short c):zae zgk (0,c,())=some (bif c.Moves.all (fun m=>(c.Items.find? (fun x=>x.ID==m.Item)).isSome) then .inl () else .inr (false,())):=by
 have h:=zav (step:=zgk) (fun i=>((i:Int),c,())) c.Moves (fun _ m=>(c.Items.find? (fun x=>x.ID==m.Item)).isSome) (.inr (false,())) (.inl ()) hs.moves
  (by simp only[zgk,dge,cond_false])
  (fun i x hx=>by
   have hi:=(List.getElem?_eq_some_iff.1 hx).1
   have:=hs.moves
   simp only[zgk,dlt hi,zaj,hx,cond_true,zaq (show i<9223372036854775807 by omega)]
   rcases zpv (item:=x.Item) hs.items with ⟨h1,h2⟩|⟨k,y,h1,h2,h3,h4⟩
   ·simp only[h1,h2,zt9,cond_true,Option.isSome_none,cond_false]
   ·simp only[h1,h4,zoy,cond_false,Option.isSome_some,cond_true])
 rw[show zae zgk (0,c,())=_ from h,zay]
theorem zaz0 {c:Circ} (hs:Short c):qad c=some (zey c):=by
 unfold qad zey
 simp -zeta only[k_or]
 dsimp only
 rw[z1d hs]
 cases (decide (64<(c.Items.length:Int))||decide (2000<(c.Moves.length:Int))) with
 |true=>rfl
 |false=>
  cases zcw (zds c) 0 c.Items with
  |false=>rfl
  |true=>
   simp only[cond_false,cond_true,zuw hs]
   cases c.Moves.all (fun m=>(c.Items.find? (fun x=>x.ID==m.Item)).isSome)<;>rfl
def zhb (c:Circ) (n:Loan):Bool:=match c.Items.find? (fun x=>x.ID==n.Item) with
 |some x=>!(!(getP c.Patrons n.Patron).2||!(zs1 x.Custody)||!(x.Custody.Who==n.Patron))
 |none=>false
def zft (c:Circ):Bool:=c.Loans.all (zhb c)&&c.Items.all (fun x=>(zug c.Loans x.ID).2==zs1 x.Custody)
theorem zazz {c:Circ} (hs:Short c):qac c=some (zft c):=by
 have h1:=zav (step:=zkw) (fun i=>((i:Int),c,())) c.Loans (fun _=>zhb c) (.inr (false,())) (.inl (c,())) hs.loans
  (by simp only[zkw,dge,cond_false])
  (fun i x hx=>by
   have hi:=(List.getElem?_eq_some_iff.1 hx).1
   have:=hs.loans
   unfold zhb
   rcases zpv (item:=x.Item) hs.items with ⟨h1,h2⟩|⟨k,y,h1,h2,h3,h4⟩
   ·simp -zeta only[zkw,dlt hi,zaj,hx,cond_true,k_or,zla hs.patrons,h1,h2,zt9,Bool.true_or]
    try rfl
   ·simp -zeta only[zkw,dlt hi,zaj,hx,cond_true,k_or,zla hs.patrons,h1,h2,h4,zoy,Bool.false_or,zakr,zaq (show i<9223372036854775807 by omega)]
    dsimp only
    cases (!(getP c.Patrons x.Patron).2||!(zs1 y.Custody)||!(y.Custody.Who==x.Patron))<;>rfl)
 have h2:=zav (step:=zh1) (fun i=>((i:Int),c,())) c.Items (fun _ x=>(zug c.Loans x.ID).2==zs1 x.Custody) (.inr (false,())) (.inl ()) hs.items
  (by simp only[zh1,dge,cond_false])
  (fun i x hx=>by
   have hi:=(List.getElem?_eq_some_iff.1 hx).1
   have:=hs.items
   simp only[zh1,dlt hi,zaj,hx,cond_true,za0l hs.loans,zakr,zaq (show i<9223372036854775807 by omega)]
   cases (zug c.Loans x.ID).2==zs1 x.Custody<;>rfl)
 unfold qac zft
 rw[show zae zkw (0,c,())=_ from h1,zay]
 cases c.Loans.all (zhb c) with
 |false=>rfl
 |true=>
  simp only[cond_true]
  rw[show zae zh1 (0,c,())=_ from h2,zay]
  cases c.Items.all (fun x=>(zug c.Loans x.ID).2==zs1 x.Custody)<;>rfl
def zg6 (c:Circ) (h:Hold):Bool:=
 !(!(getP c.Patrons h.Patron).2||decide (c.NextHold≤h.ID))&&(h.State==1||(match c.Items.find? (fun x=>x.ID==h.Got) with
  |some x=>!(!(x.Record==h.Record))&&!(h.State==3&&(!(x.Custody.State==5)||!(x.Custody.Branch==h.Pickup)||!(x.Custody.Who==h.Patron)))&&
   !(h.State==2&&(!(x.Custody.State==6)||!(x.Custody.To==h.Pickup)||!(x.Custody.Who==h.Patron)))
  |none=>false))
def zfy (c:Circ) (x:Item):Bool:=!(x.Custody.State==5)||!(!(zhl c x.ID).2||!((zhl c x.ID).1.State==3))
def zfr (c:Circ):Bool:=c.Holds.all (zg6 c)&&c.Items.all (zfy c)
theorem zaz1 {c:Circ} (hs:Short c):qae c=some (zfr c):=by
 have h1:=zav (step:=zky) (fun i=>((i:Int),c,())) c.Holds (fun _=>zg6 c) (.inr (false,())) (.inl (c,())) hs.holds
  (by simp only[zky,dge,cond_false])
  (fun i x hx=>by
   have hi:=(List.getElem?_eq_some_iff.1 hx).1
   have:=hs.holds
   unfold zg6
   rcases zpv (item:=x.Got) hs.items with ⟨h1,h2⟩|⟨k,y,h1,h2,h3,h4⟩
   ·simp -zeta only[zky,dlt hi,zaj,hx,cond_true,k_or,zla hs.patrons,h1,h2,zt9,zaq (show i<9223372036854775807 by omega)]
    dsimp only
    cases (!(getP c.Patrons x.Patron).2||decide (c.NextHold≤x.ID)) with
    |true=>rfl
    |false=>cases x.State==1<;>rfl
   ·simp -zeta only[zky,dlt hi,zaj,hx,cond_true,k_or,za8,zla hs.patrons,h1,h2,h4,zoy,cond_false,zaq (show i<9223372036854775807 by omega)]
    dsimp only
    generalize (!(getP c.Patrons x.Patron).2||decide (c.NextHold≤x.ID))=b1
    generalize (x.State==1)=b2
    generalize (!(y.Record==x.Record))=b3
    generalize (!(y.Custody.State==5)||!(y.Custody.Branch==x.Pickup)||!(y.Custody.Who==x.Patron))=b4
    generalize (!(y.Custody.State==6)||!(y.Custody.To==x.Pickup)||!(y.Custody.Who==x.Patron))=b5
    generalize (x.State==3)=b6
    generalize (x.State==2)=b7
    cases b1<;>cases b2<;>cases b3<;>cases b4<;>cases b5<;>cases b6<;>cases b7<;>rfl)
 have h2:=zav (step:=zh2) (fun i=>((i:Int),c,())) c.Items (fun _=>zfy c) (.inr (false,())) (.inl ()) hs.items
  (by simp only[zh2,dge,cond_false])
  (fun i x hx=>by
   have hi:=(List.getElem?_eq_some_iff.1 hx).1
   have:=hs.items
   unfold zfy
   simp -zeta only[zh2,dlt hi,zaj,hx,cond_true,k_or,zaz7 hs.holds,zaq (show i<9223372036854775807 by omega)]
   dsimp only
   cases x.Custody.State==5 with
   |false=>rfl
   |true=>
    generalize (!(zhl c x.ID).2||!((zhl c x.ID).1.State==3))=b
    cases b<;>rfl)
 unfold qae zfr
 rw[show zae zky (0,c,())=_ from h1,zay]
 cases c.Holds.all (zg6 c) with
 |false=>rfl
 |true=>
  simp only[cond_true]
  rw[show zae zh2 (0,c,())=_ from h2,zay]
  cases c.Items.all (zfy c)<;>rfl
end Go.Proofs.YtdahfgialanmpaaGreatDoor
namespace Go.Proofs.YtdahfgialanmpaaGreatDoor
open Ev
open Go (IntKind)
def zgx (c:Circ):Bool:=zch c.Cals.x0==0&&(zch c.Cals.x1==0&&(zch c.Cals.x2==0&&zch c.Cals.x3==0))
theorem z1f {c:Circ} (hs:Short c):zae zie (0,c,())=some (bif zgx c then .inl (c,()) else .inr (false,())):=by
 have s0:zie (0,c,())=bif zch c.Cals.x0==0 then some (.inl (1,c,())) else some (.inr (.inr (false,()))):=by
  show (match qy c.Cals.x0 with|some r=>(bif !(r==0) then (some (.inr (.inr (false,()))):Option ((Int×Circ×Unit)⊕((Circ×Unit)⊕(Bool×Unit)))) else some (.inl (1,c,())))|none=>none)=_
  rw[zaf5 hs.cal0];dsimp only;cases zch c.Cals.x0==0<;>rfl
 have s1:zie (1,c,())=bif zch c.Cals.x1==0 then some (.inl (2,c,())) else some (.inr (.inr (false,()))):=by
  show (match qy c.Cals.x1 with|some r=>(bif !(r==0) then (some (.inr (.inr (false,()))):Option ((Int×Circ×Unit)⊕((Circ×Unit)⊕(Bool×Unit)))) else some (.inl (2,c,())))|none=>none)=_
  rw[zaf5 hs.cal1];dsimp only;cases zch c.Cals.x1==0<;>rfl
 have s2:zie (2,c,())=bif zch c.Cals.x2==0 then some (.inl (3,c,())) else some (.inr (.inr (false,()))):=by
  show (match qy c.Cals.x2 with|some r=>(bif !(r==0) then (some (.inr (.inr (false,()))):Option ((Int×Circ×Unit)⊕((Circ×Unit)⊕(Bool×Unit)))) else some (.inl (3,c,())))|none=>none)=_
  rw[zaf5 hs.cal2];dsimp only;cases zch c.Cals.x2==0<;>rfl
 have s3:zie (3,c,())=bif zch c.Cals.x3==0 then some (.inl (4,c,())) else some (.inr (.inr (false,()))):=by
  show (match qy c.Cals.x3 with|some r=>(bif !(r==0) then (some (.inr (.inr (false,()))):Option ((Int×Circ×Unit)⊕((Circ×Unit)⊕(Bool×Unit)))) else some (.inl (4,c,())))|none=>none)=_
  rw[zaf5 hs.cal3];dsimp only;cases zch c.Cals.x3==0<;>rfl
 have s4:zie (4,c,())=some (.inr (.inl (c,()))):=rfl
 refine zbj 5 (by rw[zbb];omega) ?_
 unfold zgx
 simp only[za7,s0,s1,s2,s3,s4]
 cases zch c.Cals.x0==0 with
 |false=>rfl
 |true=>
  simp only[cond_true,za7,s1]
  cases zch c.Cals.x1==0 with
  |false=>rfl
  |true=>
   simp only[cond_true,za7,s2]
   cases zch c.Cals.x2==0 with
   |false=>rfl
   |true=>
    simp only[cond_true,za7,s3]
    cases zch c.Cals.x3==0 with
    |false=>rfl
    |true=>simp only[cond_true,za7,s4];rfl
def zer (c:Circ) (x:Charge):Bool:=!(!(getP c.Patrons x.Patron).2||decide (c.NextCharge≤x.ID))
theorem zuy {c:Circ} (hs:Short c):zae zgm (0,c,())=some (bif c.Charges.all (zer c) then .inl (c,()) else .inr (false,())):=by
 have h:=zav (step:=zgm) (fun i=>((i:Int),c,())) c.Charges (fun _=>zer c) (.inr (false,())) (.inl (c,())) hs.charges
  (by simp only[zgm,dge,cond_false])
  (fun i x hx=>by
   have hi:=(List.getElem?_eq_some_iff.1 hx).1
   have:=hs.charges
   unfold zer
   simp -zeta only[zgm,dlt hi,zaj,hx,cond_true,k_or,zla hs.patrons,zaq (show i<9223372036854775807 by omega)]
   dsimp only
   cases (!(getP c.Patrons x.Patron).2||decide (c.NextCharge≤x.ID))<;>rfl)
 rw[show zae zgm (0,c,())=_ from h,zay]
def zpr (c:Circ):Bool:=!(decide (c.Today<0)||decide (109572<c.Today)||decide (c.NextHold<1)||decide (100000<c.NextHold)||decide (c.NextCharge<1)||decide (100000<c.NextCharge))
def zka (c:Circ):Bool:=!(!(ze1 c.Patrons==0)||!(zhc c.Loans==0)||!(zdr c.Holds==0)||!(zes c.Charges==0)||!(zf5 c.Rules==0))
def znx (c:Circ):Bool:=zpr c&&(zka c&&(zgx c&&(c.Charges.all (zer c)&&(zey c&&(zft c&&zfr c)))))
theorem zaz2 {c:Circ} (hs:Short c):qaj c=some (znx c):=by
 unfold qaj znx zpr zka
 simp -zeta only[k_or,za8,zaz9 hs.patrons hs.name,zaz8 hs.loans,za2g hs.holds,zazw hs.charges,za2f hs.rules]
 dsimp only
 rw[z1f hs]
 generalize (decide (c.Today<0)||decide (109572<c.Today)||decide (c.NextHold<1)||decide (100000<c.NextHold)||decide (c.NextCharge<1)||decide (100000<c.NextCharge))=b1
 generalize (!(ze1 c.Patrons==0)||!(zhc c.Loans==0)||!(zdr c.Holds==0)||!(zes c.Charges==0)||!(zf5 c.Rules==0))=b2
 cases b1 with
 |true=>rfl
 |false=>
  cases b2 with
  |true=>rfl
  |false=>
   cases zgx c with
   |false=>rfl
   |true=>
    simp only[cond_false,cond_true,zuy hs]
    cases c.Charges.all (zer c) with
    |false=>rfl
    |true=>
     simp -zeta only[cond_false,cond_true,zaz0 hs,zazz hs,zaz1 hs,za8]
     try dsimp only
     cases zey c<;>cases zft c<;>cases zfr c<;>rfl
def zlq (c:Circ):Bool:=
 !(decide (10<(c.Items.length:Int))||decide (8<(c.Patrons.length:Int))||decide (12<(c.Holds.length:Int))||decide (12<(c.Loans.length:Int))||decide (30<(c.Charges.length:Int))||decide (10<(c.Rules.length:Int))||decide (200<(c.Moves.length:Int)))&&
 (c.Items.all (fun x=>!(decide (300<(x.Call.length:Int))))&&(c.Patrons.all (fun x=>!(decide (300<(x.Name.length:Int))))&&
  (!(decide (20<(c.Cals.x0.Closed.length:Int)))&&(!(decide (20<(c.Cals.x1.Closed.length:Int)))&&(!(decide (20<(c.Cals.x2.Closed.length:Int)))&&!(decide (20<(c.Cals.x3.Closed.length:Int))))))))
theorem za2c (c:Circ):qa c=some (zlq c):=by
 unfold qa zlq
 simp -zeta only[k_or,za8]
 dsimp only
 cases hb:(decide (10<(c.Items.length:Int))||decide (8<(c.Patrons.length:Int))||decide (12<(c.Holds.length:Int))||decide (12<(c.Loans.length:Int))||decide (30<(c.Charges.length:Int))||decide (10<(c.Rules.length:Int))||decide (200<(c.Moves.length:Int))) with
 |true=>rfl
 |false=>
  simp only[Bool.or_eq_false_iff,decide_eq_false_iff_not]at hb
  have h1:=zav (step:=z1b) (fun i=>((i:Int),c,())) c.Items (fun _ x=>!(decide (300<(x.Call.length:Int)))) (.inr (false,())) (.inl (c,())) (by omega)
   (by simp only[z1b,dge,cond_false])
   (fun i x hx=>by
    have hi:=(List.getElem?_eq_some_iff.1 hx).1
    simp only[z1b,dlt hi,zaj,hx,cond_true,zaq (show i<9223372036854775807 by omega)]
    cases decide (300<(x.Call.length:Int))<;>rfl)
  have h2:=zav (step:=z1c) (fun i=>((i:Int),c,())) c.Patrons (fun _ x=>!(decide (300<(x.Name.length:Int)))) (.inr (false,())) (.inl (c,())) (by omega)
   (by simp only[z1c,dge,cond_false])
   (fun i x hx=>by
    have hi:=(List.getElem?_eq_some_iff.1 hx).1
    simp only[z1c,dlt hi,zaj,hx,cond_true,zaq (show i<9223372036854775807 by omega)]
    cases decide (300<(x.Name.length:Int))<;>rfl)
  have h3:zae zid (0,c,())=some (bif (!(decide (20<(c.Cals.x0.Closed.length:Int)))&&(!(decide (20<(c.Cals.x1.Closed.length:Int)))&&(!(decide (20<(c.Cals.x2.Closed.length:Int)))&&!(decide (20<(c.Cals.x3.Closed.length:Int)))))) then .inl () else .inr (false,())):=by
   have s0:zid (0,c,())=bif decide (20<(c.Cals.x0.Closed.length:Int)) then some (.inr (.inr (false,()))) else some (.inl (1,c,())):=rfl
   have s1:zid (1,c,())=bif decide (20<(c.Cals.x1.Closed.length:Int)) then some (.inr (.inr (false,()))) else some (.inl (2,c,())):=rfl
   have s2:zid (2,c,())=bif decide (20<(c.Cals.x2.Closed.length:Int)) then some (.inr (.inr (false,()))) else some (.inl (3,c,())):=rfl
   have s3:zid (3,c,())=bif decide (20<(c.Cals.x3.Closed.length:Int)) then some (.inr (.inr (false,()))) else some (.inl (4,c,())):=rfl
   have s4:zid (4,c,())=some (.inr (.inl ())):=rfl
   refine zbj 5 (by rw[zbb];omega) ?_
   simp only[za7,s0]
   cases decide (20<(c.Cals.x0.Closed.length:Int)) with
   |true=>rfl
   |false=>
    simp only[cond_false,za7,s1]
    cases decide (20<(c.Cals.x1.Closed.length:Int)) with
    |true=>rfl
    |false=>
     simp only[cond_false,za7,s2]
     cases decide (20<(c.Cals.x2.Closed.length:Int)) with
     |true=>rfl
     |false=>
      simp only[cond_false,za7,s3]
      cases decide (20<(c.Cals.x3.Closed.length:Int)) with
      |true=>rfl
      |false=>simp only[cond_false,za7,s4];rfl
  simp only[cond_false,Bool.not_false,Bool.true_and]
  rw[show zae z1b (0,c,())=_ from h1,zay]
  cases c.Items.all (fun x=>!(decide (300<(x.Call.length:Int)))) with
  |false=>rfl
  |true=>
   simp only[cond_true,Bool.true_and]
   rw[show zae z1c (0,c,())=_ from h2,zay]
   cases c.Patrons.all (fun x=>!(decide (300<(x.Name.length:Int)))) with
   |false=>rfl
   |true=>
    simp only[cond_true,Bool.true_and,h3]
    cases (!(decide (20<(c.Cals.x0.Closed.length:Int)))&&(!(decide (20<(c.Cals.x1.Closed.length:Int)))&&(!(decide (20<(c.Cals.x2.Closed.length:Int)))&&!(decide (20<(c.Cals.x3.Closed.length:Int))))))<;>rfl
structure SmallP (c:Circ):Prop where
 items:c.Items.length≤10
 patrons:c.Patrons.length≤8
 holds:c.Holds.length≤12
 loans:c.Loans.length≤12
 charges:c.Charges.length≤30
 rules:c.Rules.length≤10
 moves:c.Moves.length≤200
 call:∀x∈c.Items,x.Call.length≤300
 name:∀x∈c.Patrons,x.Name.length≤300
 cal0:c.Cals.x0.Closed.length≤20
 cal1:c.Cals.x1.Closed.length≤20
 cal2:c.Cals.x2.Closed.length≤20
 cal3:c.Cals.x3.Closed.length≤20
theorem zalv {c:Circ} (h:zlq c=true):SmallP c:=by
 unfold zlq at h
 simp only[Bool.and_eq_true,Bool.not_eq_true',Bool.or_eq_false_iff,decide_eq_false_iff_not,List.all_eq_true]at h
 obtain ⟨⟨⟨⟨⟨⟨⟨h1,h2⟩,h3⟩,h4⟩,h5⟩,h6⟩,h7⟩,h8,h9,h10,h11,h12,h13⟩:=h
 exact ⟨by omega,by omega,by omega,by omega,by omega,by omega,by omega,fun x hx=>by have:=h8 x hx;omega,fun x hx=>by have:=h9 x hx;omega,by omega,by omega,by omega,by omega⟩
theorem SmallP.short {c:Circ} (h:SmallP c):Short c:=by
 obtain ⟨h1,h2,h3,h4,h5,h6,h7,h8,h9,h10,h11,h12,h13⟩:=h
 exact ⟨by omega,by omega,by omega,by omega,by omega,by omega,by omega,fun x hx=>by have:=h8 x hx;omega,fun x hx=>by have:=h9 x hx;omega,by omega,by omega,by omega,by omega⟩
theorem za0v (c:Circ):qft c=some (zlq c&&znx c):=by
 unfold qft
 rw[za2c]
 cases h:zlq c with
 |false=>rfl
 |true=>
  simp only[cond_true,zaz2 (zalv h).short]
  try rfl
end Go.Proofs.YtdahfgialanmpaaGreatDoor
namespace Go.Proofs.YtdahfgialanmpaaGreatDoor
open Ev
open Go (IntKind)
theorem zabk:qfa=some true:=by kernel_rfl
theorem za2h {γ0:Type} {p:γ0→Patron→Option Bool} {q:Patron→Bool} {s:List Patron} {g:γ0} (hs:s.length<1000000000) (hp:∀x∈s,p g x=some (q x)):qn p s g=some (fIdx q s):=by
 have h:=zbo (step:=zva p) (fun i=>(s,g,(s.length:Int),(i:Int),())) s q (fun i _=>(.inr ((i:Int),()):Unit⊕(Int×Unit))) (.inl ()) hs
  (by simp only[zva,dge,cond_false])
  (fun i x hx=>by
   have hi:=(List.getElem?_eq_some_iff.1 hx).1
   simp only[zva,dlt hi,cond_true,zaj,hx,hp x (List.mem_of_getElem? hx),zaq (show i<9223372036854775807 by omega)])
 unfold qn
 rw[show zae (zva p) (s,g,(s.length:Int),0,())=_ from h,←zdv]
 have:=zci (p:=q) (g:=fun i _=>(.inr ((i:Int),()):Unit⊕(Int×Unit))) (d:=.inl ()) (fun z=>match (some z:Option (Unit⊕(Int×Unit))) with|some (.inl _)=>some (-1)|some (.inr (v,_))=>some v|none=>none) (l:=s) (i:=0)
 exact this.trans ((zci (p:=q) (g:=fun i _=>(i:Int)) (d:=-1) (fun z=>some z) (l:=s) (i:=0)).symm)
theorem za0i {l:List Patron} {id:Int} (hl:l.length<1000000000):qcm l id=some (getP l id):=by
 unfold qcm qb0 getP
 rw[za2h (q:=fun x=>x.ID==id) hl (fun x _=>rfl)]
 rcases zbv (fun x:Patron=>x.ID==id) l with ⟨h1,h2⟩|⟨i,x,h1,h2,h3,h4⟩
 ·simp only[h1,h2,zt9,cond_true]
 ·simp only[h1,h4,zoy,cond_false,zaj,h2]
end Go.Proofs.YtdahfgialanmpaaGreatDoor
namespace Go.Proofs.YtdahfgialanmpaaGreatDoor
open Ev
open Go (IntKind)
theorem zut (lo hi n:Int):(!(rng lo hi n))=(decide (n<lo)||decide (hi<n)):=by
 unfold rng
 by_cases h1:n<lo
 ·have:¬lo≤n:=by omega
  simp[h1,this]
 ·have:lo≤n:=by omega
  by_cases h2:hi<n
  ·have:¬n≤hi:=by omega
   simp[*]
  ·have:n≤hi:=by omega
   simp[*]
theorem zaq5 {X:Type} (p:X→Bool) (l:List X):decide (fIdx p l<0)=!(l.any p):=by
 unfold fIdx
 induction l with
 |nil=>rfl
 |cons y l ih=>
  simp only[List.findIdx?_cons,List.any_cons]
  cases hp:p y with
  |true=>rfl
  |false=>
   simp only[Bool.false_eq_true,if_false,Bool.false_or]
   rw[←ih]
   cases l.findIdx? p with
   |none=>rfl
   |some k=>simp only[Option.map_some];rw[decide_eq_decide];omega
theorem zaq4 {X:Type} (p:X→Bool) (l:List X):decide (0≤fIdx p l)=l.any p:=by
 have h:=zaq5 p l
 cases hb:l.any p with
 |true=>rw[hb]at h;simp at h ⊢;omega
 |false=>rw[hb]at h;simp at h ⊢;omega
theorem za0o {γ:Type} {p:γ→Item→Option Bool} {g:γ} (q:Item→Bool) {l:List Item} (hl:l.length<1000000000) (hp:∀x∈l,p g x=some (q x)):qe p l g=some (fIdx q l):=by
 have h:=zbo (step:=zs0 p) (fun i=>(l,g,(l.length:Int),(i:Int),())) l q (fun i _=>(.inr ((i:Int),()):(Unit)⊕(Int×Unit))) (.inl ()) hl
  (by simp only[zs0,dge,cond_false])
  (fun i x hx=>by
   have hi:=(List.getElem?_eq_some_iff.1 hx).1
   simp only[zs0,dlt hi,zaj,hx,cond_true,hp x (List.mem_of_getElem? hx),zaq (show i<9223372036854775807 by omega)])
 unfold qe
 rw[show zae (zs0 p) (l,g,(l.length:Int),0,())=_ from h]
 have e:=zci (p:=q) (g:=fun i _=>(.inr ((i:Int),()):(Unit)⊕(Int×Unit))) (d:=.inl ()) (fun r:(Unit)⊕(Int×Unit)=>match r with | .inl (_)=>(-1:Int) | .inr (v,_)=>v) (l:=l) (i:=0)
 dsimp only at e
 rw[←zdv,←e]
 generalize ze9 q (fun i _=>(.inr ((i:Int),()):(Unit)⊕(Int×Unit))) (.inl ()) 0 l=r
 rcases r with _|⟨v,_⟩<;>rfl
theorem z71 {γ:Type} {p:γ→Hold→Option Bool} {g:γ} (q:Hold→Bool) {l:List Hold} (hl:l.length<1000000000) (hp:∀x∈l,p g x=some (q x)):qb p l g=some (fIdx q l):=by
 have h:=zbo (step:=zmb p) (fun i=>(l,g,(l.length:Int),(i:Int),())) l q (fun i _=>(.inr ((i:Int),()):(Unit)⊕(Int×Unit))) (.inl ()) hl
  (by simp only[zmb,dge,cond_false])
  (fun i x hx=>by
   have hi:=(List.getElem?_eq_some_iff.1 hx).1
   simp only[zmb,dlt hi,zaj,hx,cond_true,hp x (List.mem_of_getElem? hx),zaq (show i<9223372036854775807 by omega)])
 unfold qb
 rw[show zae (zmb p) (l,g,(l.length:Int),0,())=_ from h]
 have e:=zci (p:=q) (g:=fun i _=>(.inr ((i:Int),()):(Unit)⊕(Int×Unit))) (d:=.inl ()) (fun r:(Unit)⊕(Int×Unit)=>match r with | .inl (_)=>(-1:Int) | .inr (v,_)=>v) (l:=l) (i:=0)
 dsimp only at e
 rw[←zdv,←e]
 generalize ze9 q (fun i _=>(.inr ((i:Int),()):(Unit)⊕(Int×Unit))) (.inl ()) 0 l=r
 rcases r with _|⟨v,_⟩<;>rfl
theorem zas1 {γ:Type} {p:γ→Hold→Option Bool} {g:γ} (q:Hold→Bool) {l:List Hold} (hl:l.length<1000000000) (hp:∀x∈l,p g x=some (q x)):qcu p l g=some (l.any q):=by
 unfold qcu
 rw[z71 q hl hp]
 dsimp only
 rw[zaq4]
theorem za0d (n lo hi:Int):qb9 n lo hi=some (rng lo hi n):=by
 unfold qb9
 simp -zeta only[k_or,za8]
 try rfl
theorem zakj (n:Int):qc8 n=some (rng 0 109572 n):=by
 unfold qc8
 simp -zeta only[k_or,za8]
 try rfl
theorem zg5 (l:List Hold) (i:Nat) (x:Hold):zc6 l i x=bif zbx l i (fun y=>decide (x.ID≤y.ID)) then 7 else zbw x:=by
 unfold zc6
 congr 1
 cases h:zbw x==0 with
 |true=>simp at h;simp[h]
 |false=>simp
def za2u (q:Hold→Hold→Bool) (l:List Hold):Bool:=zcw (fun i x=>(l.take i).all (fun y=>!(q y x))) 0 l
theorem zal2 {X:Type} (q:X→Bool) (l:List X):l.any q=!(l.all (fun y=>!(q y))):=by
 induction l with
 |nil=>rfl
 |cons y l ih=>simp only[List.any_cons,List.all_cons];rw[ih];cases q y<;>rfl
end Go.Proofs.YtdahfgialanmpaaGreatDoor
namespace Go.Proofs.YtdahfgialanmpaaGreatDoor
open Ev
open Go (IntKind)
theorem zakg (n lo hi:Int):qbu n lo hi=some (rng lo hi n):=by
 unfold qbu
 simp -zeta only[k_or,za8]
 try rfl
theorem zcf {lo hi n:Int}:rng lo hi n=true↔lo≤n∧n≤hi:=by
 unfold rng
 simp only[Bool.and_eq_true,decide_eq_true_eq]
theorem zjz {n:Int} (h:rng 1 12 n=true):n=1∨n=2∨n=3∨n=4∨n=5∨n=6∨n=7∨n=8∨n=9∨n=10∨n=11∨n=12:=by
 have:=zcf.1 h;omega
theorem zd3 {n:Int} (h:rng 1 15 n=true):n=1∨n=2∨n=3∨n=4∨n=5∨n=6∨n=7∨n=8∨n=9∨n=10∨n=11∨n=12∨n=13∨n=14∨n=15:=by
 have:=zcf.1 h;omega
theorem za0s {s k:Int} (hs:rng 1 12 s=true) (hk:rng 1 15 k=true):qfi s k=some (zi7 s k):=by
 rcases zjz hs with h|h|h|h|h|h|h|h|h|h|h|h<;>subst h<;>
  rcases zd3 hk with h|h|h|h|h|h|h|h|h|h|h|h|h|h|h<;>subst h<;>rfl
theorem za0t (c:Custody):qfj c=some (zis c):=by
 unfold qfj zis zas5
 simp -zeta only[k_or,za8,zhu,zakg,zut]
 dsimp only
 cases hb:(decide (c.State<1)||decide (12<c.State)||(decide (c.Branch<1)||decide (4<c.Branch))) with
 |true=>
  have:(decide (c.State<1)||decide (12<c.State)||decide (c.Branch<1)||decide (4<c.Branch))=true:=by rw[←hb,Bool.or_assoc _ _ (decide (4<c.Branch))]
  rw[this];rfl
 |false=>
  have:(decide (c.State<1)||decide (12<c.State)||decide (c.Branch<1)||decide (4<c.Branch))=false:=by rw[←hb,Bool.or_assoc _ _ (decide (4<c.Branch))]
  rw[this]
  have hr:rng 1 12 c.State=true:=by
   simp only[Bool.or_eq_false_iff,decide_eq_false_iff_not]at hb
   rw[zcf];omega
  unfold rng
  simp only[cond_false]
  generalize decide (0≤c.Who)=a1
  generalize decide (c.Who≤9999)=a2
  generalize decide (1≤c.Who)=a3
  generalize decide (1≤c.To)=a4
  generalize decide (c.To≤4)=a5
  generalize (c.To==0)=a6
  generalize (c.To==c.Branch)=a7
  generalize (c.Who==0)=a8
  rcases zjz hr with h|h|h|h|h|h|h|h|h|h|h|h<;>rw[h]<;>revert a1 a2 a3 a4 a5 a6 a7 a8<;>decide
theorem zakn (c:Custody) (ok:Bool):qcv c ok=some (bif ok then (c,0) else (⟨0,0,0,0⟩,1)):=by
 cases ok<;>rfl
theorem za0u (c:Custody) (m:Move):qfl c m=some (bif !(m.Branch==c.Branch) then (⟨6,c.Branch,m.Who,m.Branch⟩,0) else (⟨0,0,0,0⟩,1)):=by
 unfold qfl
 rw[zakn]
theorem za0p (c:Custody) (m:Move):qeb c m=some (zbf c m):=by
 unfold qeb zbf
 simp -zeta only[k_or,za8,zhu,zakg,za0t]
 dsimp only
 have hw:(!(rng 0 109572 m.Day)||!(rng 1 9999 m.Item)||!(rng 1 15 m.Kind)||!(rng 1 4 m.Branch)||!(rng 0 9999 m.Who))=!(zmc m):=by
  unfold zmc rng
  simp only[Bool.not_and,Bool.or_assoc]
 rw[show (!(zis c)||!(rng 0 109572 m.Day)||!(rng 1 9999 m.Item)||!(rng 1 15 m.Kind)||!(rng 1 4 m.Branch)||!(rng 0 9999 m.Who))=(!(zis c)||!(zmc m)) by rw[←hw];simp only[Bool.or_assoc]]
 cases hb:(!(zis c)||!(zmc m)) with
 |true=>rfl
 |false=>
  simp only[Bool.or_eq_false_iff,Bool.not_eq_false']at hb
  obtain ⟨h1,h2⟩:=hb
  rw[h2,Bool.not_true]at hw
  simp only[Bool.or_eq_false_iff,Bool.not_eq_false']at hw
  obtain ⟨⟨⟨⟨w1,w2⟩,w3⟩,w4⟩,w5⟩:=hw
  have hs:rng 1 12 c.State=true:=by
   unfold zis at h1
   rw[zcf]
   cases hq:(decide (c.State<1)||decide (12<c.State)||decide (c.Branch<1)||decide (4<c.Branch)) with
   |true=>rw[hq]at h1;cases h1
   |false=>simp only[Bool.or_eq_false_iff,decide_eq_false_iff_not]at hq;omega
  rw[za0s hs w3]
  simp only[cond_false]
  cases ha:zi7 c.State m.Kind with
  |false=>rfl
  |true=>
   simp only[Bool.not_true,cond_false]
   have h0:=(zcf.1 w5).1
   unfold z79 zcs
   simp only[zakn,za0u]
   generalize (c.State==5)=g5
   generalize (m.Who==c.Who)=g7
   generalize (m.Branch==c.To)=g6
   by_cases hw0:m.Who=0
   ·have e2:decide (1≤m.Who)=false:=by rw[decide_eq_false_iff_not];omega
    rw[e2]
    simp only[hw0]
    by_cases hb:m.Branch=c.Branch
    ·simp only[hb,beq_self_eq_true]
     rcases zd3 w3 with h|h|h|h|h|h|h|h|h|h|h|h|h|h|h<;>
      (simp only[h];cases g5<;>cases g6<;>cases g7<;>rfl)
    ·have e3:(m.Branch==c.Branch)=false:=by simpa using hb
     simp only[e3]
     rcases zd3 w3 with h|h|h|h|h|h|h|h|h|h|h|h|h|h|h<;>
      (simp only[h];cases g5<;>cases g6<;>cases g7<;>rfl)
   ·have e2:decide (1≤m.Who)=true:=by rw[decide_eq_true_eq];omega
    have e1:(m.Who==0)=false:=by simpa using hw0
    rw[e2]
    simp only[e1]
    by_cases hb:m.Branch=c.Branch
    ·simp only[hb,beq_self_eq_true]
     rcases zd3 w3 with h|h|h|h|h|h|h|h|h|h|h|h|h|h|h<;>
      (simp only[h];cases g5<;>cases g6<;>cases g7<;>rfl)
    ·have e3:(m.Branch==c.Branch)=false:=by simpa using hb
     simp only[e3]
     rcases zd3 w3 with h|h|h|h|h|h|h|h|h|h|h|h|h|h|h<;>
      (simp only[h];cases g5<;>cases g6<;>cases g7<;>rfl)
end Go.Proofs.YtdahfgialanmpaaGreatDoor
namespace Go.Proofs.YtdahfgialanmpaaGreatDoor
open Ev
open Go (IntKind)
theorem zazy {c:Circ} {item:Int} (hl:c.Items.length<1000000000):qaa c item=some (fIdx (fun x=>x.ID==item) c.Items):=by
 unfold qaa
 rw[za0o (fun x=>x.ID==item) hl (fun x _=>rfl)]
def zdl (x:Item):Bool:=rng 1 9999 x.ID&&rng 1 9999 x.Record&&rng 1 4 x.Branch&&rng 1 9 x.Kind&&rng 0 100000000 x.Price&&decide ((x.Call.length:Int)≤200)&&vld x.Call
def zct (c:Circ) (x:Item):Bool:=!(!((zd4 x.Branch c.Moves x.ID).2.2==0)||!(zbc (zd4 x.Branch c.Moves x.ID).1 x.Custody))
def z7l (c:Circ):Bool:=c.Moves.all (fun m=>(c.Items.find? (fun x=>x.ID==m.Item)).isSome)
def zj7 (c:Circ):Bool:=!(decide (64<(c.Items.length:Int))||decide (2000<(c.Moves.length:Int)))&&(zcw (fun i x=>!(!(zdl x)||zbx c.Items i (fun y=>decide (x.ID≤y.ID)))) 0 c.Items&&(z7l c&&c.Items.all (zct c)))
end Go.Proofs.YtdahfgialanmpaaGreatDoor
namespace Go.Proofs.YtdahfgialanmpaaGreatDoor
open Ev
open Go (IntKind)
theorem zd5 {X:Type} {key:X→Int} {l:List X} (h:∀i x,l[i]?=some x→zbx l i (fun y=>decide (key x≤key y))=false):∀(j i:Nat) (x y:X),i<j→l[i]?=some x→l[j]?=some y→key x<key y:=by
 intro j
 induction j with
 |zero=>intro i x y hi;omega
 |succ j ih=>
  intro i x y hi hx hy
  have hj:=(List.getElem?_eq_some_iff.1 hy).1
  have hz:l[j]?=some l[j]:=List.getElem?_eq_getElem (by omega)
  have:=h _ _ hy
  simp only[zbx,hz,decide_eq_false_iff_not]at this
  by_cases e:i=j
  ·subst e
   rw[hz]at hx;cases hx;omega
  ·have:=ih i x l[j] (by omega) hx hz
   omega
theorem zvw {X:Type} {key:X→Int} {l:List X} (h:∀i x,l[i]?=some x→zbx l i (fun y=>decide (key x≤key y))=false) {x:X} (hx:x∈l):l.find? (fun y=>key y==key x)=some x:=by
 rcases zbv (fun y=>key y==key x) l with ⟨h1,h2⟩|⟨i,y,h1,h2,h3,h4⟩
 ·rw[List.find?_eq_none]at h2
  exact absurd (beq_self_eq_true _) (h2 x hx)
 ·rw[h4]
  obtain ⟨j,hj⟩:=List.getElem?_of_mem hx
  have e:key y=key x:=by simpa using h3
  by_cases hij:i=j
  ·subst hij;rw[h2]at hj;exact hj
  ·rcases Nat.lt_or_gt_of_ne hij with hlt|hlt
   ·have:=zd5 h _ _ _ _ hlt h2 hj;omega
   ·have:=zd5 h _ _ _ _ hlt hj h2;omega
theorem zjy {X:Type} {f:Nat→X→Int}:∀{l:List X} {k:Nat},zce f k l=0→∀i x,l[i]?=some x→f (k+i) x=0:=by
 intro l
 induction l with
 |nil=>intro k _ i x hx;simp at hx
 |cons y l ih=>
  intro k h i x hx
  unfold zce at h
  by_cases e:f k y=0
  ·rw[e]at h
   simp only[beq_self_eq_true,if_true]at h
   cases i with
   |zero=>simp at hx;subst hx;exact e
   |succ i=>have:=ih h i x (by simpa using hx);rwa [show k+(i+1)=k+1+i by omega]
  ·have:(f k y==0)=false:=by simpa using e
   rw[this]at h
   exact absurd h e
theorem zdi {b:Bool} {n m:Int} (h:(bif b then n else m)=0) (hn:n≠0):b=false:=by
 cases b with
 |false=>rfl
 |true=>exact absurd h hn
theorem zg7 {l:List Hold} (h:zdr l=0):zce (zc6 l) 0 l=0:=by
 unfold zdr at h
 rw[zdi h (by decide)]at h
 simp only[cond_false]at h
 by_cases e:zce (zc6 l) 0 l=0
 ·exact e
 ·have h2:(zce (zc6 l) 0 l==0)=false:=by simpa using e
  rw[h2]at h
  exact h
theorem zq3 {l:List Hold} (h:zdr l=0):∀i x,l[i]?=some x→zbx l i (fun y=>decide (x.ID≤y.ID))=false:=by
 intro i x hx
 have:=zjy (k:=0) (zg7 h) i x hx
 rw[Nat.zero_add,zg5]at this
 exact zdi this (by decide)
theorem z0d {l:List Hold} (h:zdr l=0) {x:Hold} (hx:x∈l):zbw x=0:=by
 obtain ⟨i,hi⟩:=List.getElem?_of_mem hx
 have:=zjy (k:=0) (zg7 h) i x hi
 rw[Nat.zero_add,zg5]at this
 rw[zdi this (by decide)]at this
 exact this
theorem zjw {a b:Custody}:zbc a b=true↔a=b:=by
 obtain ⟨a1,a2,a3,a4⟩:=a
 obtain ⟨b1,b2,b3,b4⟩:=b
 unfold zbc
 simp[Bool.and_eq_true]
 try (constructor<;>(intro h;simp_all))
end Go.Proofs.YtdahfgialanmpaaGreatDoor
namespace Go.Proofs.YtdahfgialanmpaaGreatDoor
open Ev
open Go (IntKind)
theorem zul (c:Circ) (i:Nat) (x:Item):zds c i x=(!(!(zdl x)||zbx c.Items i (fun y=>decide (x.ID≤y.ID)))&&zct c x):=by
 unfold zds zct zdl
 rw[Bool.eq_iff_iff]
 simp only[Bool.and_eq_true,Bool.not_eq_true',Bool.or_eq_false_iff,decide_eq_false_iff_not,Bool.not_eq_false',zcf,decide_eq_true_eq]
 constructor
 ·rintro ⟨⟨h1,h2⟩,h3⟩
  obtain ⟨⟨⟨⟨⟨⟨a1,a2⟩,a3⟩,a4⟩,a5⟩,a6⟩,a7⟩:=h1
  obtain ⟨⟨⟨⟨⟨b1,b2⟩,b3⟩,b4⟩,b5⟩,b6⟩:=h2
  refine ⟨⟨⟨⟨⟨⟨⟨⟨⟨?_,?_⟩,⟨?_,?_⟩⟩,⟨?_,?_⟩⟩,⟨?_,?_⟩⟩,⟨?_,?_⟩⟩,?_⟩,b6⟩,a3⟩,h3⟩<;>omega
 ·rintro ⟨⟨h1,a3⟩,h3⟩
  obtain ⟨⟨⟨⟨⟨⟨⟨a1,a2⟩,⟨a4,a5⟩⟩,⟨a6,a7⟩⟩,⟨a8,a9⟩⟩,⟨b1,b2⟩⟩,b3⟩,b4⟩:=h1
  refine ⟨⟨⟨⟨⟨⟨⟨⟨?_,?_⟩,a3⟩,?_⟩,?_⟩,?_⟩,?_⟩,⟨⟨⟨⟨⟨?_,?_⟩,?_⟩,?_⟩,?_⟩,b4⟩⟩,h3⟩<;>omega
theorem zra (c:Circ):zey c=zj7 c:=by
 have key:zcw (zds c) 0 c.Items=(zcw (fun i x=>!(!(zdl x)||zbx c.Items i (fun y=>decide (x.ID≤y.ID)))) 0 c.Items&&c.Items.all (zct c)):=by
  have gen:∀(l:List Item) (k:Nat),zcw (zds c) k l=(zcw (fun i x=>!(!(zdl x)||zbx c.Items i (fun y=>decide (x.ID≤y.ID)))) k l&&l.all (zct c)):=by
   intro l
   induction l with
   |nil=>intro k;rfl
   |cons x l ih=>
    intro k
    simp only[zcw,List.all_cons]
    rw[ih,zul]
    generalize (!(!(zdl x)||zbx c.Items k (fun y=>decide (x.ID≤y.ID))))=b1
    generalize zcw (fun i x=>!(!(zdl x)||zbx c.Items i (fun y=>decide (x.ID≤y.ID)))) (k+1) l=b2
    cases b1<;>cases b2<;>cases zct c x<;>cases l.all (zct c)<;>rfl
  exact gen _ _
 unfold zey zj7 z7l
 rw[key]
 generalize (!(decide (64<(c.Items.length:Int))||decide (2000<(c.Moves.length:Int))))=b1
 generalize zcw (fun i x=>!(!(zdl x)||zbx c.Items i (fun y=>decide (x.ID≤y.ID)))) 0 c.Items=b2
 generalize c.Moves.all (fun m=>(c.Items.find? (fun x=>x.ID==m.Item)).isSome)=b3
 cases b1<;>cases b2<;>cases b3<;>cases c.Items.all (zct c)<;>rfl
theorem zrc {c:Circ} (h:zj7 c=true):∀i x,c.Items[i]?=some x→zbx c.Items i (fun y=>decide (x.ID≤y.ID))=false:=by
 intro i x hx
 unfold zj7 at h
 simp only[Bool.and_eq_true]at h
 have:=(zp7.1 h.2.1) i x hx
 rw[Nat.zero_add]at this
 simp only[Bool.not_eq_true',Bool.or_eq_false_iff]at this
 exact this.2
theorem zrb {c:Circ} (h:zj7 c=true) {x:Item} (hx:x∈c.Items):zct c x=true:=by
 unfold zj7 at h
 simp only[Bool.and_eq_true,List.all_eq_true]at h
 exact h.2.2.2 x hx
end Go.Proofs.YtdahfgialanmpaaGreatDoor
namespace Go.Proofs.YtdahfgialanmpaaGreatDoor
open Ev
open Go (IntKind)
theorem zcq {X:Type} (l:List X):l.all (fun _=>true)=true:=by rw[List.all_eq_true];intros;rfl
theorem zbd (x:Custody):zbc x x=true:=by simp[zbc]
theorem zo3 (x:Item):zo2 x x=true:=by simp[zo2,zbd]
theorem zjx (x:Patron):zhq x x=true:=by simp[zhq,zbd]
theorem zo5 (x:Loan):zo4 x x=true:=by simp[zo4,zbd]
theorem zo1 (x:Hold):zo0 x x=true:=by simp[zo0,zbd]
theorem zjv (x:Charge):zhp x x=true:=by simp[zhp,zbd]
theorem zo9 (x:Rule):zo8 x x=true:=by simp[zo8,zbd]
theorem zo7 (x:Move):zo6 x x=true:=by simp[zo6,zbd]
theorem z1i {c:Circ} (hs:Short c):zae zu6 (0,c,c,())=some (.inl (c,c,())):=by
 have h:=zav (step:=zu6) (fun i=>((i:Int),c,c,())) c.Items (fun _ _=>true) (.inr (false,())) (.inl (c,c,())) hs.items
  (by simp only[zu6,dge,cond_false])
  (fun i x hx=>by
   have hi:=(List.getElem?_eq_some_iff.1 hx).1
   have:=hs.items
   simp only[zu6,dlt hi,zaj,hx,cond_true,zo3,Bool.not_true,cond_false,zaq (show i<9223372036854775807 by omega)])
 rw[show zae zu6 (0,c,c,())=_ from h,zay]
 rw[zcq];rfl
theorem zu0 {c:Circ} (hs:Short c):zae zk4 (0,c,c,())=some (.inl (c,c,())):=by
 have h:=zav (step:=zk4) (fun i=>((i:Int),c,c,())) c.Patrons (fun _ _=>true) (.inr (false,())) (.inl (c,c,())) hs.patrons
  (by simp only[zk4,dge,cond_false])
  (fun i x hx=>by
   have hi:=(List.getElem?_eq_some_iff.1 hx).1
   have:=hs.patrons
   simp only[zk4,dlt hi,zaj,hx,cond_true,zjx,Bool.not_true,cond_false,zaq (show i<9223372036854775807 by omega)])
 rw[show zae zk4 (0,c,c,())=_ from h,zay]
 rw[zcq];rfl
theorem zu1 {c:Circ} (hs:Short c):zae zk5 (0,c,c,())=some (.inl (c,c,())):=by
 have h:=zav (step:=zk5) (fun i=>((i:Int),c,c,())) c.Loans (fun _ _=>true) (.inr (false,())) (.inl (c,c,())) hs.loans
  (by simp only[zk5,dge,cond_false])
  (fun i x hx=>by
   have hi:=(List.getElem?_eq_some_iff.1 hx).1
   have:=hs.loans
   simp only[zk5,dlt hi,zaj,hx,cond_true,zo5,Bool.not_true,cond_false,zaq (show i<9223372036854775807 by omega)])
 rw[show zae zk5 (0,c,c,())=_ from h,zay]
 rw[zcq];rfl
theorem zu2 {c:Circ} (hs:Short c):zae zk6 (0,c,c,())=some (.inl (c,c,())):=by
 have h:=zav (step:=zk6) (fun i=>((i:Int),c,c,())) c.Holds (fun _ _=>true) (.inr (false,())) (.inl (c,c,())) hs.holds
  (by simp only[zk6,dge,cond_false])
  (fun i x hx=>by
   have hi:=(List.getElem?_eq_some_iff.1 hx).1
   have:=hs.holds
   simp only[zk6,dlt hi,zaj,hx,cond_true,zo1,Bool.not_true,cond_false,zaq (show i<9223372036854775807 by omega)])
 rw[show zae zk6 (0,c,c,())=_ from h,zay]
 rw[zcq];rfl
theorem zu3 {c:Circ} (hs:Short c):zae zk7 (0,c,c,())=some (.inl (c,c,())):=by
 have h:=zav (step:=zk7) (fun i=>((i:Int),c,c,())) c.Charges (fun _ _=>true) (.inr (false,())) (.inl (c,c,())) hs.charges
  (by simp only[zk7,dge,cond_false])
  (fun i x hx=>by
   have hi:=(List.getElem?_eq_some_iff.1 hx).1
   have:=hs.charges
   simp only[zk7,dlt hi,zaj,hx,cond_true,zjv,Bool.not_true,cond_false,zaq (show i<9223372036854775807 by omega)])
 rw[show zae zk7 (0,c,c,())=_ from h,zay]
 rw[zcq];rfl
theorem zu4 {c:Circ} (hs:Short c):zae zk8 (0,c,c,())=some (.inl (c,c,())):=by
 have h:=zav (step:=zk8) (fun i=>((i:Int),c,c,())) c.Rules (fun _ _=>true) (.inr (false,())) (.inl (c,c,())) hs.rules
  (by simp only[zk8,dge,cond_false])
  (fun i x hx=>by
   have hi:=(List.getElem?_eq_some_iff.1 hx).1
   have:=hs.rules
   simp only[zk8,dlt hi,zaj,hx,cond_true,zo9,Bool.not_true,cond_false,zaq (show i<9223372036854775807 by omega)])
 rw[show zae zk8 (0,c,c,())=_ from h,zay]
 rw[zcq];rfl
theorem zu5 {c:Circ} (hs:Short c):zae zk9 (0,c,c,())=some (.inl (c,c,())):=by
 have h:=zav (step:=zk9) (fun i=>((i:Int),c,c,())) c.Moves (fun _ _=>true) (.inr (false,())) (.inl (c,c,())) hs.moves
  (by simp only[zk9,dge,cond_false])
  (fun i x hx=>by
   have hi:=(List.getElem?_eq_some_iff.1 hx).1
   have:=hs.moves
   simp only[zk9,dlt hi,zaj,hx,cond_true,zo7,Bool.not_true,cond_false,zaq (show i<9223372036854775807 by omega)])
 rw[show zae zk9 (0,c,c,())=_ from h,zay]
 rw[zcq];rfl
theorem zvb {c:Circ} (hs:Short c):zae zd8 (0,0,c,c,())=some (.inl (0,c,c,())):=by
 have st:∀k:Int,zd8 (0,k,c,c,())=(bif decide (k<(c.Cals.x0.Closed.length:Int)) then (match getI c.Cals.x0.Closed k with|some x=>(match getI c.Cals.x0.Closed k with|some y=>(bif !(x==y) then some (.inr (.inr (false,()))) else some (.inl (0,wr .i64 (k+1),c,c,())))|none=>none)|none=>none) else some (.inr (.inl (0,c,c,())))):=fun k=>rfl
 have h:=zav (step:=zd8) (fun k=>(0,(k:Int),c,c,())) c.Cals.x0.Closed (fun _ _=>true) (.inr (false,())) (.inl (0,c,c,())) hs.cal0
  (by rw[st];simp only[dge,cond_false])
  (fun k x hx=>by
   have hi:=(List.getElem?_eq_some_iff.1 hx).1
   have:=hs.cal0
   rw[st]
   simp only[dlt hi,zaj,hx,cond_true,beq_self_eq_true,Bool.not_true,cond_false,zaq (show k<9223372036854775807 by omega)])
 rw[show zae zd8 (0,0,c,c,())=_ from h,zay]
 rw[zcq];rfl
theorem zaf1 {c:Circ} (hs:Short c):zit (0,c,c,())=some (.inl (1,c,c,())):=by
 have st:zit (0,c,c,())=(bif !(c.Cals.x0.Week==c.Cals.x0.Week) then some (.inr (.inr (false,()))) else bif !((c.Cals.x0.Closed.length:Int)==(c.Cals.x0.Closed.length:Int)) then some (.inr (.inr (false,()))) else
  match zae zd8 (0,0,c,c,()) with
  |some (.inl (i,a,b,_))=>some (.inl (wr .i64 (i+1),a,b,()))
  |some (.inr (v,_))=>some (.inr (.inr (v,())))
  |none=>none):=by
  show (bif !(c.Cals.x0.Week==c.Cals.x0.Week) then _ else _)=_
  cases (!(c.Cals.x0.Week==c.Cals.x0.Week))<;>rfl
 rw[st,zvb hs]
 simp only[beq_self_eq_true,Bool.not_true,cond_false]
 try rfl
theorem zvc {c:Circ} (hs:Short c):zae zd8 (1,0,c,c,())=some (.inl (1,c,c,())):=by
 have st:∀k:Int,zd8 (1,k,c,c,())=(bif decide (k<(c.Cals.x1.Closed.length:Int)) then (match getI c.Cals.x1.Closed k with|some x=>(match getI c.Cals.x1.Closed k with|some y=>(bif !(x==y) then some (.inr (.inr (false,()))) else some (.inl (1,wr .i64 (k+1),c,c,())))|none=>none)|none=>none) else some (.inr (.inl (1,c,c,())))):=fun k=>rfl
 have h:=zav (step:=zd8) (fun k=>(1,(k:Int),c,c,())) c.Cals.x1.Closed (fun _ _=>true) (.inr (false,())) (.inl (1,c,c,())) hs.cal1
  (by rw[st];simp only[dge,cond_false])
  (fun k x hx=>by
   have hi:=(List.getElem?_eq_some_iff.1 hx).1
   have:=hs.cal1
   rw[st]
   simp only[dlt hi,zaj,hx,cond_true,beq_self_eq_true,Bool.not_true,cond_false,zaq (show k<9223372036854775807 by omega)])
 rw[show zae zd8 (1,0,c,c,())=_ from h,zay]
 rw[zcq];rfl
theorem zaf2 {c:Circ} (hs:Short c):zit (1,c,c,())=some (.inl (2,c,c,())):=by
 have st:zit (1,c,c,())=(bif !(c.Cals.x1.Week==c.Cals.x1.Week) then some (.inr (.inr (false,()))) else bif !((c.Cals.x1.Closed.length:Int)==(c.Cals.x1.Closed.length:Int)) then some (.inr (.inr (false,()))) else
  match zae zd8 (1,0,c,c,()) with
  |some (.inl (i,a,b,_))=>some (.inl (wr .i64 (i+1),a,b,()))
  |some (.inr (v,_))=>some (.inr (.inr (v,())))
  |none=>none):=by
  show (bif !(c.Cals.x1.Week==c.Cals.x1.Week) then _ else _)=_
  cases (!(c.Cals.x1.Week==c.Cals.x1.Week))<;>rfl
 rw[st,zvc hs]
 simp only[beq_self_eq_true,Bool.not_true,cond_false]
 try rfl
theorem zvd {c:Circ} (hs:Short c):zae zd8 (2,0,c,c,())=some (.inl (2,c,c,())):=by
 have st:∀k:Int,zd8 (2,k,c,c,())=(bif decide (k<(c.Cals.x2.Closed.length:Int)) then (match getI c.Cals.x2.Closed k with|some x=>(match getI c.Cals.x2.Closed k with|some y=>(bif !(x==y) then some (.inr (.inr (false,()))) else some (.inl (2,wr .i64 (k+1),c,c,())))|none=>none)|none=>none) else some (.inr (.inl (2,c,c,())))):=fun k=>rfl
 have h:=zav (step:=zd8) (fun k=>(2,(k:Int),c,c,())) c.Cals.x2.Closed (fun _ _=>true) (.inr (false,())) (.inl (2,c,c,())) hs.cal2
  (by rw[st];simp only[dge,cond_false])
  (fun k x hx=>by
   have hi:=(List.getElem?_eq_some_iff.1 hx).1
   have:=hs.cal2
   rw[st]
   simp only[dlt hi,zaj,hx,cond_true,beq_self_eq_true,Bool.not_true,cond_false,zaq (show k<9223372036854775807 by omega)])
 rw[show zae zd8 (2,0,c,c,())=_ from h,zay]
 rw[zcq];rfl
theorem zaf3 {c:Circ} (hs:Short c):zit (2,c,c,())=some (.inl (3,c,c,())):=by
 have st:zit (2,c,c,())=(bif !(c.Cals.x2.Week==c.Cals.x2.Week) then some (.inr (.inr (false,()))) else bif !((c.Cals.x2.Closed.length:Int)==(c.Cals.x2.Closed.length:Int)) then some (.inr (.inr (false,()))) else
  match zae zd8 (2,0,c,c,()) with
  |some (.inl (i,a,b,_))=>some (.inl (wr .i64 (i+1),a,b,()))
  |some (.inr (v,_))=>some (.inr (.inr (v,())))
  |none=>none):=by
  show (bif !(c.Cals.x2.Week==c.Cals.x2.Week) then _ else _)=_
  cases (!(c.Cals.x2.Week==c.Cals.x2.Week))<;>rfl
 rw[st,zvd hs]
 simp only[beq_self_eq_true,Bool.not_true,cond_false]
 try rfl
theorem zve {c:Circ} (hs:Short c):zae zd8 (3,0,c,c,())=some (.inl (3,c,c,())):=by
 have st:∀k:Int,zd8 (3,k,c,c,())=(bif decide (k<(c.Cals.x3.Closed.length:Int)) then (match getI c.Cals.x3.Closed k with|some x=>(match getI c.Cals.x3.Closed k with|some y=>(bif !(x==y) then some (.inr (.inr (false,()))) else some (.inl (3,wr .i64 (k+1),c,c,())))|none=>none)|none=>none) else some (.inr (.inl (3,c,c,())))):=fun k=>rfl
 have h:=zav (step:=zd8) (fun k=>(3,(k:Int),c,c,())) c.Cals.x3.Closed (fun _ _=>true) (.inr (false,())) (.inl (3,c,c,())) hs.cal3
  (by rw[st];simp only[dge,cond_false])
  (fun k x hx=>by
   have hi:=(List.getElem?_eq_some_iff.1 hx).1
   have:=hs.cal3
   rw[st]
   simp only[dlt hi,zaj,hx,cond_true,beq_self_eq_true,Bool.not_true,cond_false,zaq (show k<9223372036854775807 by omega)])
 rw[show zae zd8 (3,0,c,c,())=_ from h,zay]
 rw[zcq];rfl
theorem zaf4 {c:Circ} (hs:Short c):zit (3,c,c,())=some (.inl (4,c,c,())):=by
 have st:zit (3,c,c,())=(bif !(c.Cals.x3.Week==c.Cals.x3.Week) then some (.inr (.inr (false,()))) else bif !((c.Cals.x3.Closed.length:Int)==(c.Cals.x3.Closed.length:Int)) then some (.inr (.inr (false,()))) else
  match zae zd8 (3,0,c,c,()) with
  |some (.inl (i,a,b,_))=>some (.inl (wr .i64 (i+1),a,b,()))
  |some (.inr (v,_))=>some (.inr (.inr (v,())))
  |none=>none):=by
  show (bif !(c.Cals.x3.Week==c.Cals.x3.Week) then _ else _)=_
  cases (!(c.Cals.x3.Week==c.Cals.x3.Week))<;>rfl
 rw[st,zve hs]
 simp only[beq_self_eq_true,Bool.not_true,cond_false]
 try rfl
theorem zas7 {c:Circ} (hs:Short c):qw c c=some true:=by
 have s4:zit (4,c,c,())=some (.inr (.inl ())):=rfl
 have h:zae zit (0,c,c,())=some (.inl ()):=by
  refine zbj 5 (by rw[zbb];omega) ?_
  simp only[za7,zaf1 hs,zaf2 hs,zaf3 hs,zaf4 hs,s4]
 unfold qw
 rw[h]
theorem z74 {c:Circ} (hs:Short c):qc c c=some true:=by
 unfold qc
 simp -zeta only[k_or,beq_self_eq_true,Bool.not_true,Bool.or_false]
 dsimp only
 simp only[z1i hs,zu0 hs,zu1 hs,zu2 hs,zu3 hs,zu4 hs,zu5 hs,zas7 hs,Bool.or_false,cond_false]
end Go.Proofs.YtdahfgialanmpaaGreatDoor
namespace Go.Proofs.YtdahfgialanmpaaGreatDoor
open Ev
open Go (IntKind)
theorem zj9 {n m:Nat} (h:n+m≤1000000100):decide (n+m≤LIM)=true:=by rw[decide_eq_true_eq];unfold LIM;omega
theorem zof {X:Type} {s:List X} (h:s.length<1000000000):decide (([]:List X).length+s.length≤LIM)=true:=zj9 (by simp;omega)
def zfu:Circ:=⟨0,[],[],[],[],[],[],⟨⟨0,[]⟩,⟨0,[]⟩,⟨0,[]⟩,⟨0,[]⟩⟩,[],0,0,false⟩
theorem zsu:Short zfu:=by
 constructor<;>first|(show (0:Nat)<_;decide)|(intro x hx;cases hx)
end Go.Proofs.YtdahfgialanmpaaGreatDoor
namespace Go.Proofs.YtdahfgialanmpaaGreatDoor
open Ev
open Go (IntKind)
def owed (p:Int):List Charge→Int
 | []=>0
 |x::l=>(bif x.Patron==p then x.Amount-x.Paid else 0)+owed p l
end Go.Proofs.YtdahfgialanmpaaGreatDoor
namespace Go.Proofs.YtdahfgialanmpaaGreatDoor
open Ev
open Go (IntKind)
end Go.Proofs.YtdahfgialanmpaaGreatDoor
namespace Go.Proofs.YtdahfgialanmpaaGreatDoor
open Ev
open Go (IntKind)
def zdb (r:Rule):Int:=(bif !(r.Patron==0) then 4 else 0)+((bif !(r.Item==0) then 2 else 0)+(bif !(r.Branch==0) then 1 else 0))
theorem za0r (r:Rule):qeu r=some (zdb r):=by
 unfold qeu zdb
 cases r.Patron==0<;>cases r.Item==0<;>cases r.Branch==0<;>rfl
theorem za0f (r:Rule):qbi r=some (zdb r):=by
 unfold qbi
 have st:∀(a b c n:Int),(∀(m:Int),zif (m,3,0,[a,b,c],())=some (.inl (bif !(a==0) then wr .i64 ((wr .i64 (m*2))+1) else wr .i64 (m*2),3,1,[a,b,c],())))∧
  (∀(m:Int),zif (m,3,1,[a,b,c],())=some (.inl (bif !(b==0) then wr .i64 ((wr .i64 (m*2))+1) else wr .i64 (m*2),3,2,[a,b,c],())))∧
  (∀(m:Int),zif (m,3,2,[a,b,c],())=some (.inl (bif !(c==0) then wr .i64 ((wr .i64 (m*2))+1) else wr .i64 (m*2),3,3,[a,b,c],()))):=fun a b c n=>
  ⟨fun m=>by show (bif !(a==0) then _ else _)=_;cases a==0<;>rfl,fun m=>by show (bif !(b==0) then _ else _)=_;cases b==0<;>rfl,fun m=>by show (bif !(c==0) then _ else _)=_;cases c==0<;>rfl⟩
 obtain ⟨s0,s1,s2⟩:=st r.Patron r.Item r.Branch 0
 have s3:∀m:Int,zif (m,3,3,[r.Patron,r.Item,r.Branch],())=some (.inr (m,())):=fun m=>rfl
 have h:zae zif (0,(([r.Patron,r.Item,r.Branch]).length:Int),0,[r.Patron,r.Item,r.Branch],())=some (zdb r,()):=by
  refine zbj 4 (by rw[zbb];omega) ?_
  show za7 zif 4 (0,3,0,[r.Patron,r.Item,r.Branch],())=_
  simp only[za7,s0,s1,s2,s3]
  unfold zdb
  cases r.Patron==0<;>cases r.Item==0<;>cases r.Branch==0<;>rfl
 rw[h]
def zl4 (r:Rule) (p i b:Int):Bool:=(r.Patron==0||r.Patron==p)&&(r.Item==0||r.Item==i)&&(r.Branch==0||r.Branch==b)
theorem zaks (r:Rule) (p i b:Int):qfd r p i b=some (zl4 r p i b):=by
 unfold qfd zl4
 simp -zeta only[k_or,za8]
 try rfl
theorem za0q (a b:Int):qen a b=some (a==0||a==b):=by
 unfold qen
 cases a==0<;>rfl
theorem zaj6 (r:Rule) (p i b:Int):qb7 r p i b=some (zl4 r p i b):=by
 unfold qb7 zl4
 simp -zeta only[za0q,k_or,za8]
 try dsimp only
def wB (l:List Rule) (b:Int):Int:=match getI l b with|some y=>zdb y|none=>0
def zqd (l:List Rule) (p it br:Int) (i:Nat) (x:Rule) (b:Int):Int:=bif zl4 x p it br&&(decide (b<0)||decide (wB l b<zdb x)) then (i:Int) else b
def zabq (l:List Rule) (p it br:Int):Int:=zcu (fun i x b=>.inl (zqd l p it br i x b)) (fun b=>b) 0 l (-1)
def zfi (l:List Rule) (b:Int):Prop:=b<0∨∃k:Nat,b=(k:Int)∧k<l.length
theorem zqe {l:List Rule} {b:Int} (h:zfi l b) (hb:decide (b<0)=false):∃y,getI l b=some y∧wB l b=zdb y:=by
 rcases h with h|⟨k,rfl,hk⟩
 ·rw[decide_eq_false_iff_not]at hb;omega
 ·have:getI l (k:Int)=some l[k]:=by rw[zaj,List.getElem?_eq_getElem hk]
  exact ⟨_,this,by unfold wB;rw[this]⟩
theorem zjc {l:List Rule} {p it br:Int} {i:Nat} {x:Rule} {b:Int} (h:zfi l b) (hi:i<l.length):zfi l (zqd l p it br i x b):=by
 unfold zqd
 cases zl4 x p it br&&(decide (b<0)||decide (wB l b<zdb x)) with
 |true=>exact .inr ⟨i,rfl,hi⟩
 |false=>exact h
theorem zs7 {X σ β γ:Type} {f:Nat→X→σ→σ} {g:σ→β} (k:β→γ):∀{l:List X} {i:Nat} {s:σ},k (zcu (fun i x s=>.inl (f i x s)) g i l s)=zcu (fun i x s=>.inl (f i x s)) (fun s=>k (g s)) i l s:=by
 intro l
 induction l with
 |nil=>intros;rfl
 |cons x l ih=>intro i s;simp only[zcu];exact ih
theorem za0b {l:List Rule} {p it br:Int} (hl:l.length<1000000000):qaw l p it br=some (zabq l p it br):=by
 have h:=zcc (step:=zk1) (fun (i:Nat) (b:Int)=>zfi l b) (fun i b=>(l,p,it,br,b,l,(l.length:Int),(i:Int),())) l
  (fun i x b=>.inl (zqd l p it br i x b)) (fun b=>(b,())) (by rw[zbb];omega)
  (fun b _=>by simp only[zk1,dge,cond_false])
  (fun i x b hx hi=>by
   have hlt:=(List.getElem?_eq_some_iff.1 hx).1
   refine ⟨?_,fun s' hs'=>by cases hs';exact zjc hi hlt⟩
   unfold zqd
   cases hb:decide (b<0) with
   |true=>
    simp only[zk1,dlt hlt,zaj,hx,cond_true,zaj6,hb,zaq (show i<9223372036854775807 by omega)]
    cases zl4 x p it br<;>rfl
   |false=>
    obtain ⟨y,h1,h2⟩:=zqe hi hb
    simp only[zk1,dlt hlt,zaj,hx,cond_true,cond_false,zaj6,za0f,h1,h2,hb,zaq (show i<9223372036854775807 by omega)]
    cases zl4 x p it br<;>cases decide (zdb y<zdb x)<;>rfl) (-1) (.inl (by omega))
 unfold qaw
 rw[show zae zk1 (l,p,it,br,(-1),l,(l.length:Int),0,())=_ from h,←zs7 (g:=fun b=>b) (fun b:Int=>(b,()))]
 try rfl
theorem zakh {l:List Rule} {p it br:Int} (hl:l.length<1000000000):qbv l p it br=some (zabq l p it br):=by
 have h:=zcc (step:=zk2) (fun (i:Nat) (b:Int)=>zfi l b) (fun i b=>(l,p,it,br,b,(i:Int),())) l
  (fun i x b=>.inl (zqd l p it br i x b)) (fun b=>(b,())) (by rw[zbb];omega)
  (fun b _=>by simp only[zk2,dge,cond_false])
  (fun i x b hx hi=>by
   have hlt:=(List.getElem?_eq_some_iff.1 hx).1
   refine ⟨?_,fun s' hs'=>by cases hs';exact zjc hi hlt⟩
   unfold zqd
   cases hb:decide (b<0) with
   |true=>
    simp only[zk2,dlt hlt,zaj,hx,cond_true,zaks,hb,zaq (show i<9223372036854775807 by omega)]
    cases zl4 x p it br<;>rfl
   |false=>
    obtain ⟨y,h1,h2⟩:=zqe hi hb
    simp only[zk2,dlt hlt,zaj,hx,cond_true,cond_false,zaks,za0r,h1,h2,hb,zaq (show i<9223372036854775807 by omega)]
    cases zl4 x p it br<;>cases decide (zdb y<zdb x)<;>rfl) (-1) (.inl (by omega))
 unfold qbv
 rw[show zae zk2 (l,p,it,br,(-1),0,())=_ from h,←zs7 (g:=fun b=>b) (fun b:Int=>(b,()))]
 try rfl
theorem zas4 {l:List Rule} {p it br:Int} (hl:l.length<1000000000):qdd l p it br=qfx l p it br:=by
 unfold qdd qfx
 rw[za0b hl,zakh hl]
 try rfl
theorem zasz {c:Circ} {p:Int} {x:Item} (hs:Short c):qb8 c p x=qfv c p x:=by
 unfold qb8 qfv
 rw[za0i hs.patrons,zla hs.patrons]
 dsimp only
 rw[zas4 hs.rules]
 try rfl
def calS (c:Circ) (b:Int):Calendar:=bif b==1 then c.Cals.x0 else bif b==2 then c.Cals.x1 else bif b==3 then c.Cals.x2 else c.Cals.x3
theorem zmt {n:Int} (h:rng 1 4 n=true):n=1∨n=2∨n=3∨n=4:=by
 have:=zcf.1 h;omega
theorem za2i {c:Circ} {b:Int} (h:rng 1 4 b=true):qp c b=some (calS c b):=by
 rcases zmt h with h|h|h|h<;>subst h<;>rfl
theorem zakm {c:Circ} {b:Int} (h:rng 1 4 b=true):qci c b=some (calS c b):=by
 rcases zmt h with h|h|h|h<;>subst h<;>rfl
end Go.Proofs.YtdahfgialanmpaaGreatDoor
namespace Go.Proofs.YtdahfgialanmpaaGreatDoor
open Ev
open Go (IntKind)
def zfv (week:Int) (i:Nat):Bool:=(wr .i64 (BitVec.ofInt 64 (week.fdiv (2 ^ (min i 64))) &&& BitVec.ofInt 64 1).toNat)==0
theorem za0a (c:Calendar):qav c=some ⟨zfv c.Week 0,zfv c.Week 1,zfv c.Week 2,zfv c.Week 3,zfv c.Week 4,zfv c.Week 5,zfv c.Week 6⟩:=by
 have h:zae z7z (0,c,(⟨false,false,false,false,false,false,false⟩:V7 Bool),(⟨false,false,false,false,false,false,false⟩:V7 Bool),())=some ((⟨false,false,false,false,false,false,false⟩:V7 Bool),(⟨zfv c.Week 0,zfv c.Week 1,zfv c.Week 2,zfv c.Week 3,zfv c.Week 4,zfv c.Week 5,zfv c.Week 6⟩:V7 Bool),()):=by
  refine zbj 8 (by rw[zbb];omega) ?_
  try rfl
 unfold qav
 rw[h]
def bitW:Int→Nat→Int
 |n,0=>n
 |n,k+1=>bitW (wr .i64 (n.tdiv 2)) k
theorem z1e {day n:Int} {c:Calendar}:∀(k:Nat) (i:Nat) (n:Int),i+k<100→za7 znf (k+1) (day,n,((i+k:Nat):Int),(i:Int),c,())=some (day,bitW n k,c,()):=by
 intro k
 induction k with
 |zero=>
  intro i n hi
  have:decide ((i:Int)<((i+0:Nat):Int))=false:=by rw[decide_eq_false_iff_not];omega
  simp only[za7,znf,this,cond_false,bitW]
 |succ k ih=>
  intro i n hi
  have:decide ((i:Int)<((i+(k+1):Nat):Int))=true:=by rw[decide_eq_true_eq];omega
  rw[za7]
  simp only[znf,this,cond_true,zaq (show i<9223372036854775807 by omega),bitW]
  have:=ih (i+1) (wr .i64 (n.tdiv 2)) (by omega)
  rw[show i+1+k=i+(k+1) by omega]at this
  exact this
theorem z19:((List.range 127).all fun n=>(List.range 7).all fun w=>zfv (n:Int) w==!((bitW (n:Int) w).tmod 2==1))=true:=by kernel_rfl
theorem zabb {week:Int} {w:Nat} (h1:0≤week) (h2:week≤126) (hw:w<7):zfv week w=!((bitW week w).tmod 2==1):=by
 obtain ⟨n,rfl⟩:∃n:Nat,week=(n:Int):=⟨week.toNat,by omega⟩
 have h:=z19
 rw[List.all_eq_true]at h
 have h3:=h n (List.mem_range.2 (by omega))
 rw[List.all_eq_true]at h3
 have h4:=h3 w (List.mem_range.2 hw)
 simpa using h4
def lbS (t:Int) (l:List Int):Nat:=(l.takeWhile (fun x=>decide (x<t))).length
theorem za2a {t:Int} {l:List Int}:lbS t l≤l.length:=by
 unfold lbS
 have:=(List.takeWhile_prefix (fun x=>decide (x<t)) (l:=l)).length_le
 exact this
theorem zrd {t:Int}:∀{l:List Int} {k:Nat} {x:Int},k<lbS t l→l[k]?=some x→x<t:=by
 intro l
 induction l with
 |nil=>intro k x h;simp[lbS]at h
 |cons y l ih=>
  intro k x h hx
  unfold lbS at h ih
  rw[List.takeWhile_cons]at h
  by_cases hy:y<t
  ·simp only[hy,decide_true,if_true,List.length_cons]at h
   cases k with
   |zero=>simp at hx;omega
   |succ k=>exact ih (k:=k) (by omega) (by simpa using hx)
  ·simp[hy]at h
theorem zazr {t:Int}:∀{l:List Int} {x:Int},l[lbS t l]?=some x→¬x<t:=by
 intro l
 induction l with
 |nil=>intro x h;simp[lbS]at h
 |cons y l ih=>
  intro x hx
  unfold lbS at hx ih
  rw[List.takeWhile_cons]at hx
  by_cases hy:y<t
  ·simp only[hy,decide_true,if_true,List.length_cons,List.getElem?_cons_succ]at hx
   exact ih hx
  ·simp[hy]at hx;omega
theorem zaju {t:Int} {l:List Int} (hsort:∀(j i:Nat) (x y:Int),i<j→l[i]?=some x→l[j]?=some y→x<y) {k:Nat} {x:Int} (hx:l[k]?=some x):decide (x<t)=decide (k<lbS t l):=by
 rw[decide_eq_decide]
 constructor
 ·intro h
  by_cases hk:k<lbS t l
  ·exact hk
  ·exfalso
   have hlt:lbS t l<l.length:=by have:=(List.getElem?_eq_some_iff.1 hx).1;omega
   have hz:l[lbS t l]?=some l[lbS t l]:=List.getElem?_eq_getElem hlt
   have:=zazr hz
   by_cases e:lbS t l=k
   ·subst e
    rw[hz]at hx;cases hx;exact this h
   ·have:=hsort k (lbS t l) _ _ (by omega) hz hx;omega
 ·intro h;exact zrd h hx
theorem zazt {i j:Nat} (h:i+j<2000000000):wr .i64 ((wr .u64 (wr .i64 ((i:Int)+(j:Int)))).fdiv (2 ^ 1))=(((i+j) / 2:Nat):Int):=by
 rw[zd7 (n:=(i:Int)+(j:Int)) (by omega) (by omega)]
 have:wr .u64 ((i:Int)+(j:Int))=(i:Int)+(j:Int):=by
  unfold wr;simp[IntKind.wrap,IntKind.bits,IntKind.signed];omega
 rw[this,Int.fdiv_eq_ediv_of_nonneg _ (by omega)]
 have e:((i:Int)+(j:Int)) / 2 ^ 1=(((i+j) / 2:Nat):Int):=by omega
 rw[e,zd7 (by omega) (by omega)]
theorem za0n (x y:Int):qe8 x y=some (decide (x<y)):=by
 have e:∀z:Int,qe6 z=some false:=fun z=>by unfold qe6;simp
 unfold qe8
 rw[e]
 try rfl
theorem z1z {l:List Int} {t:Int} (hl:l.length<1000000000) (hsort:∀(j i:Nat) (x y:Int),i<j→l[i]?=some x→l[j]?=some y→x<y) :
 zae znn (l,t,(l.length:Int),0,(l.length:Int),())=some (l,t,(l.length:Int),(lbS t l:Int),()):=by
 refine zabc (step:=znn) (fun a=>∃i j:Nat,a=(l,t,(l.length:Int),(i:Int),(j:Int),())∧i≤lbS t l∧lbS t l≤j∧j≤l.length) (fun a=>(a.2.2.2.2.1-a.2.2.2.1).toNat) (fun _=>(l,t,(l.length:Int),(lbS t l:Int),())) ?_ ⟨0,l.length,rfl,by omega,za2a,by omega⟩ (by rw[zbb];show ((l.length:Int)-0).toNat<_;omega)
 rintro a ⟨i,j,rfl,h1,h2,h3⟩
 by_cases hij:i<j
 ·left
  have d:decide ((i:Int)<(j:Int))=true:=by rw[decide_eq_true_eq];omega
  have hm:(i+j) / 2<l.length:=by omega
  have hx:l[(i+j) / 2]?=some l[(i+j) / 2]:=List.getElem?_eq_getElem hm
  have hlb:=zaju (t:=t) hsort hx
  simp only[znn,d,cond_true,zazt (show i+j<2000000000 by omega),zaj,hx,za0n,hlb]
  by_cases hk:(i+j) / 2<lbS t l
  ·rw[show decide ((i+j) / 2<lbS t l)=true by rw[decide_eq_true_eq];exact hk]
   simp only[cond_true,zaq (show (i+j) / 2<9223372036854775807 by omega)]
   exact ⟨_,rfl,⟨(i+j) / 2+1,j,rfl,by omega,h2,h3⟩,by simp only;omega,trivial⟩
  ·rw[show decide ((i+j) / 2<lbS t l)=false by rw[decide_eq_false_iff_not];exact hk]
   simp only[cond_false]
   exact ⟨_,rfl,⟨i,(i+j) / 2,rfl,h1,by omega,by omega⟩,by simp only;omega,trivial⟩
 ·right
  have d:decide ((i:Int)<(j:Int))=false:=by rw[decide_eq_false_iff_not];omega
  have hi:i=lbS t l:=by omega
  subst hi
  simp only[znn,d,cond_false]
theorem z8p {l:List Int} {t:Int} (hl:l.length<1000000000) (hsort:∀(j i:Nat) (x y:Int),i<j→l[i]?=some x→l[j]?=some y→x<y) :
 qaz l t=some ((lbS t l:Int),l.any (fun x=>x==t)):=by
 unfold qaz
 rw[z1z hl hsort]
 by_cases hk:lbS t l<l.length
 ·have d:decide ((lbS t l:Int)<(l.length:Int))=true:=by rw[decide_eq_true_eq];omega
  have hx:l[lbS t l]?=some l[lbS t l]:=List.getElem?_eq_getElem hk
  have hn:qek l[lbS t l]=some false:=by unfold qek;simp
  simp only[d,cond_true,zaj,hx,hn,cond_false]
  have e:(l[lbS t l]==t)=l.any (fun x=>x==t):=by
   rw[Bool.eq_iff_iff,List.any_eq_true]
   constructor
   ·intro h;exact ⟨_,List.getElem_mem hk,h⟩
   ·rintro ⟨x,hm,he⟩
    have he':x=t:=by simpa using he
    obtain ⟨i,hi⟩:=List.getElem?_of_mem hm
    have h1:=zaju (t:=t) hsort hi
    have h2:=zazr hx
    rw[decide_eq_decide]at h1
    by_cases e:i=lbS t l
    ·rw[e,hx]at hi;cases hi;exact he
    ·have:lbS t l<i:=by omega
     have:=hsort _ _ _ _ this hx hi
     omega
  rw[←e]
  cases l[lbS t l]==t<;>rfl
 ·have d:decide ((lbS t l:Int)<(l.length:Int))=false:=by rw[decide_eq_false_iff_not];omega
  have e:l.any (fun x=>x==t)=false:=by
   rw[List.any_eq_false]
   intro x hm he
   have he':x=t:=by simpa using he
   obtain ⟨i,hi⟩:=List.getElem?_of_mem hm
   have:=(List.getElem?_eq_some_iff.1 hi).1
   have:=zrd (t:=t) (show i<lbS t l by omega) hi
   omega
  simp only[d,cond_false,e]
end Go.Proofs.YtdahfgialanmpaaGreatDoor
namespace Go.Proofs.YtdahfgialanmpaaGreatDoor
open Ev
open Go (IntKind)
theorem zuh {l:List Int} (h:incr l=true):∀(j i:Nat) (x y:Int),i<j→l[i]?=some x→l[j]?=some y→x<y:=by
 have h2:∀i x,l[i]?=some x→zbx l i (fun y=>decide (x≤y))=false:=by
  intro i x hx
  have:=(zp7.1 h) i x hx
  rw[Nat.zero_add]at this
  simpa using this
 exact zd5 (key:=fun x:Int=>x) h2
structure CalOk (c:Calendar):Prop where
 w1:0≤c.Week
 w2:c.Week≤126
 len:c.Closed.length<1000000000
 inc:incr c.Closed=true
theorem zabt {c:Calendar} (h:(zch c==0)=true):CalOk c:=by
 have h:zch c=0:=by simpa using h
 unfold zch at h
 have h1:=zdi h (by decide)
 rw[h1]at h
 simp only[cond_false]at h
 have h2:=zdi h (by decide)
 rw[h2]at h
 simp only[cond_false]at h
 simp only[Bool.or_eq_false_iff,decide_eq_false_iff_not]at h1 h2
 cases h3:c.Closed.all (fun x=>!(decide (x<0)||decide (109572<x))) with
 |false=>rw[h3]at h;cases h
 |true=>
  rw[h3]at h
  cases h4:incr c.Closed with
  |false=>rw[h4]at h;cases h
  |true=>exact ⟨by omega,by omega,by omega,h4⟩
def z00 (c:Calendar) (d:Int):Bool:=rng 0 109572 d&&(!(c.Closed.any (fun x=>x==d))&&zfv c.Week (d.tmod 7).toNat)
theorem za1z {d:Int} (h:0≤d):0≤d.tmod 7∧d.tmod 7<7:=by
 rw[Int.tmod_eq_emod_of_nonneg h];omega
theorem zakk {c:Calendar} (hc:CalOk c) (d:Int):qce c d=some (z00 c d):=by
 unfold qce z00
 rw[zakj]
 dsimp only
 cases hr:rng 0 109572 d with
 |false=>rfl
 |true=>
  simp -zeta only[Bool.not_true,cond_false,Bool.true_and]
  rw[z8p hc.len (zuh hc.inc)]
  dsimp only
  cases c.Closed.any (fun x=>x==d) with
  |true=>rfl
  |false=>
   have hk:qdb d=some (d.tmod 7):=by
    have e:qfr d=some (rng 0 109572 d):=by
     unfold qfr
     simp -zeta only[za8]
     try rfl
    unfold qdb
    rw[e,hr]
    try rfl
   simp only[Bool.not_false,cond_true,za0a,hk,Bool.true_and]
   obtain ⟨h1,h2⟩:=za1z (zcf.1 hr).1
   generalize d.tmod 7=w at h1 h2
   have:w=0∨w=1∨w=2∨w=3∨w=4∨w=5∨w=6:=by omega
   rcases this with h|h|h|h|h|h|h<;>subst h<;>rfl
theorem zux {c:Calendar} {d:Int} (hl:c.Closed.length<1000000000):zae zgl (d,0,c,())=some (bif c.Closed.all (fun x=>!(x==d)) then .inl () else .inr (false,())):=by
 have h:=zav (step:=zgl) (fun i=>(d,(i:Int),c,())) c.Closed (fun _ x=>!(x==d)) (.inr (false,())) (.inl ()) hl
  (by simp only[zgl,dge,cond_false])
  (fun i x hx=>by
   have hi:=(List.getElem?_eq_some_iff.1 hx).1
   simp only[zgl,dlt hi,zaj,hx,cond_true,zaq (show i<9223372036854775807 by omega)]
   cases x==d<;>rfl)
 rw[show zae zgl (d,0,c,())=_ from h,zay]
theorem zaj0 {c:Calendar} (hc:CalOk c) (d:Int):qaf c d=some (z00 c d):=by
 unfold qaf z00
 simp -zeta only[k_or]
 dsimp only
 rw[←zut]
 cases hr:rng 0 109572 d with
 |false=>rfl
 |true=>
  have hk:qe9 d=some (d.tmod 7):=by
   have e:qfy d=some (rng 0 109572 d):=by
    unfold qfy
    simp -zeta only[za8]
    try rfl
   unfold qe9
   rw[e,hr]
   try rfl
  simp only[Bool.not_true,cond_false,Bool.true_and,hk]
  obtain ⟨h1,h2⟩:=za1z (zcf.1 hr).1
  generalize d.tmod 7=w at h1 h2
  obtain ⟨n,rfl⟩:∃n:Nat,w=(n:Int):=⟨w.toNat,by omega⟩
  have hn:n<7:=by omega
  have hw:zae znf (d,c.Week,(n:Int),0,c,())=some (d,bitW c.Week n,c,()):=by
   have:=z1e (day:=d) (n:=0) (c:=c) n 0 c.Week (by omega)
   rw[Nat.zero_add]at this
   exact zbj (n+1) (by rw[zbb];omega) this
  simp only[hw,Int.toNat_natCast,zabb hc.w1 hc.w2 hn,zux hc.len]
  cases (bitW c.Week n).tmod 2==1 with
  |true=>simp
  |false=>
   simp only[cond_false,Bool.not_false,Bool.and_true,zal2,Bool.not_not]
   cases c.Closed.all (fun x=>!(x==d))<;>rfl
theorem ztj {α β:Type} {s1 s2:α→Option (α⊕β)} (Inv:α→Prop) (h:∀a,Inv a→s1 a=s2 a) (hi:∀a b,Inv a→s1 a=some (.inl b)→Inv b) {a:α} (ha:Inv a):zae s1 a=zae s2 a:=by
 have key:∀n a,Inv a→za7 s1 n a=za7 s2 n a:=by
  intro n
  induction n with
  |zero=>intro a _;rfl
  |succ n ih=>
   intro a ha
   simp only[za7]
   rw[←h a ha]
   cases hs:s1 a with
   |none=>rfl
   |some x=>
    cases x with
    |inl b=>exact ih b (hi a b ha hs)
    |inr b=>rfl
 exact key FUEL a ha
theorem z7v {c:Calendar} (hc:CalOk c) (d:Int):qa3 c d=qbl c d:=by
 have h:∀d0:Int,zae zsy (d0,c,())=zae znq (d0,c,()):=fun d0=>by
  refine ztj (fun a=>a.2.1=c) ?_ ?_ rfl
  ·rintro ⟨d,c',_⟩ (rfl:c'=c)
   simp only[zsy,znq,zakk hc,zaj0 hc]
  ·rintro ⟨d,c',_⟩ b (rfl:c'=c) hb
   simp only[zsy,zakk hc]at hb
   cases hq:decide (d≤109572) with
   |false=>rw[hq]at hb;cases hb
   |true=>
    rw[hq]at hb
    simp only[cond_true]at hb
    cases ho:z00 c' d with
    |true=>rw[ho]at hb;cases hb
    |false=>rw[ho]at hb;cases hb;rfl
 unfold qa3 qbl
 rw[h]
 try rfl
end Go.Proofs.YtdahfgialanmpaaGreatDoor
namespace Go.Proofs.YtdahfgialanmpaaGreatDoor
open Ev
open Go (IntKind)
end Go.Proofs.YtdahfgialanmpaaGreatDoor
namespace Go.Proofs.YtdahfgialanmpaaGreatDoor
open Ev
open Go (IntKind)
end Go.Proofs.YtdahfgialanmpaaGreatDoor
namespace Go.Proofs.YtdahfgialanmpaaGreatDoor
open Ev
open Go (IntKind)
structure FitP (c:Circ):Prop where
 charges:zes c.Charges=0
 loans:zhc c.Loans=0
 holds:zdr c.Holds=0
 rules:zf5 c.Rules=0
 patrons:ze1 c.Patrons=0
 cal0:CalOk c.Cals.x0
 cal1:CalOk c.Cals.x1
 cal2:CalOk c.Cals.x2
 cal3:CalOk c.Cals.x3
 items:zj7 c=true
 loanG:∀n∈c.Loans,zhb c n=true
 itemG:∀x∈c.Items,(zug c.Loans x.ID).2=zs1 x.Custody
 holdG:∀h∈c.Holds,zg6 c h=true
 readyG:∀x∈c.Items,zfy c x=true
 nums:zpr c=true
theorem fitP {c:Circ} (h:znx c=true):FitP c:=by
 unfold znx at h
 rw[zra]at h
 simp only[Bool.and_eq_true]at h
 obtain ⟨h1,h2,h3,h4,h5,h6,h7⟩:=h
 unfold zka at h2
 simp only[Bool.not_eq_true',Bool.or_eq_false_iff,Bool.not_eq_false',beq_iff_eq]at h2
 unfold zgx at h3
 simp only[Bool.and_eq_true]at h3
 unfold zft at h6
 unfold zfr at h7
 simp only[Bool.and_eq_true,List.all_eq_true,beq_iff_eq]at h6 h7
 exact ⟨h2.1.2,h2.1.1.1.2,h2.1.1.2,h2.2,h2.1.1.1.1,zabt h3.1,zabt h3.2.1,zabt h3.2.2.1,zabt h3.2.2.2,h5,h6.1,h6.2,h7.1,h7.2,h1⟩
theorem zal9 {c:Circ} (h:FitP c) (b:Int):CalOk (calS c b):=by
 unfold calS
 cases b==1 with
 |true=>exact h.cal0
 |false=>
  cases b==2 with
  |true=>exact h.cal1
  |false=>
   cases b==3 with
   |true=>exact h.cal2
   |false=>exact h.cal3
theorem zas9 {c:Circ} (h:FitP c) {r:Rule} (hr:r∈c.Rules):zny r=true:=by
 have h:=h.rules
 unfold zf5 at h
 rw[zdi h (by decide)]at h
 obtain ⟨i,hi⟩:=List.getElem?_of_mem hr
 have:=zjy (k:=0) h i r hi
 rw[Nat.zero_add]at this
 unfold zgp at this
 have:=zdi this (by decide)
 simpa using this
def ze7 (c:Custody):Prop:=rng 1 4 c.Branch=true
theorem zs5 {c:Custody} (h:zis c=true):ze7 c:=by
 unfold zis at h
 unfold ze7
 cases hq:(decide (c.State<1)||decide (12<c.State)||decide (c.Branch<1)||decide (4<c.Branch)) with
 |true=>rw[hq]at h;cases h
 |false=>
  simp only[Bool.or_eq_false_iff,decide_eq_false_iff_not]at hq
  rw[zcf];omega
theorem zp3 {m:Move} (h:zmc m=true):rng 1 4 m.Branch=true:=by
 unfold zmc at h
 simp only[Bool.and_eq_true,decide_eq_true_eq]at h
 rw[zcf];omega
theorem zgt {c:Custody} {m:Move} (h:((zbf c m).2==0)=true):ze7 (zbf c m).1:=by
 unfold zbf at h ⊢
 cases e1:(!(zis c)||!(zmc m)) with
 |true=>rw[e1]at h;cases h
 |false=>
  have e0:=e1
  simp only[Bool.or_eq_false_iff,Bool.not_eq_false']at e0
  have b1:=zs5 e0.1
  have b2:=zp3 e0.2
  rw[e1]at h
  simp only[cond_false]at h ⊢
  cases e2:!(zi7 c.State m.Kind) with
  |true=>rw[e2]at h;cases h
  |false=>
   rw[e2]at h
   simp only[cond_false]at h ⊢
   cases e3:(m.Kind==3&&c.State==5&&!(m.Who==c.Who)) with
   |true=>rw[e3]at h;cases h
   |false=>
    rw[e3]at h
    simp only[cond_false]at h ⊢
    cases e4:!(z79 c m) with
    |true=>rw[e4]at h;cases h
    |false=>
     simp only[cond_false]
     cases (zcs m.Kind==2) with
     |true=>exact b2
     |false=>
      simp only[cond_false]
      cases (zcs m.Kind==4||(zcs m.Kind==5||zcs m.Kind==8)) with
      |true=>exact b1
      |false=>
       simp only[cond_false]
       cases e5:(zcs m.Kind==6) with
       |true=>exact b1
       |false=>
        simp only[cond_false]
        cases (zcs m.Kind==9||zcs m.Kind==10) with
        |true=>exact b1
        |false=>exact b1
theorem zmd:∀{l:List Move} {i:Nat} {item:Int} {c d:Custody},ze7 c→zc8 i l item c=.inl d→ze7 d:=by
 intro l
 induction l with
 |nil=>intro i item c d hc h;simp only[zc8]at h;cases h;exact hc
 |cons x l ih=>
  intro i item c d hc h
  simp only[zc8]at h
  cases e:x.Item==item with
  |false=>rw[e]at h;exact ih hc h
  |true=>
   rw[e]at h
   simp only[cond_true]at h
   cases e2:(zbf c x).2==0 with
   |true=>rw[e2]at h;exact ih (zgt e2) h
   |false=>rw[e2]at h;cases h
theorem zlg {c:Circ} {x:Item} (h:zct c x=true):ze7 x.Custody:=by
 unfold zct at h
 simp only[Bool.not_eq_true',Bool.or_eq_false_iff,Bool.not_eq_false',beq_iff_eq]at h
 obtain ⟨h1,h2⟩:=h
 have e:=zjw.1 h2
 rw[←e]
 unfold zd4 at h1 ⊢
 cases hb:(decide (x.Branch<1)||decide (4<x.Branch)) with
 |true=>rw[hb]at h1;cases h1
 |false=>
  rw[hb]at h1
  simp only[cond_false]at h1 ⊢
  have hb2:ze7 (zu7 x.Branch):=by
   simp only[Bool.or_eq_false_iff,decide_eq_false_iff_not]at hb
   show rng 1 4 x.Branch=true
   rw[zcf];omega
  cases hr:zc8 0 c.Moves x.ID (zu7 x.Branch) with
  |inl d=>exact zmd hb2 hr
  |inr p=>
   rw[hr]at h1
   exfalso
   obtain ⟨i,e⟩:=p
   simp only at h1
   have key:∀(l:List Move) (i:Nat) (c:Custody) (p:Int×Int),zc8 i l x.ID c=.inr p→p.2≠0:=by
    intro l
    induction l with
    |nil=>intro i c p h;simp only[zc8]at h;cases h
    |cons y l ih=>
     intro i c p h
     simp only[zc8]at h
     cases e:y.Item==x.ID with
     |false=>rw[e]at h;exact ih _ _ _ h
     |true=>
      rw[e]at h
      simp only[cond_true]at h
      cases e2:(zbf c y).2==0 with
      |true=>rw[e2]at h;exact ih _ _ _ h
      |false=>rw[e2]at h;cases h;simpa using e2
   exact key _ _ _ _ hr h1
theorem z0a {c:Circ} (h:FitP c) {x:Item} (hx:x∈c.Items):rng 1 4 x.Custody.Branch=true:=zlg (zrb h.items hx)
theorem z23 {l:List Rule} {p it br:Int}:zfi l (zabq l p it br):=by
 have key:∀(m:List Rule) (i:Nat) (b:Int),i+m.length=l.length→zfi l b→zfi l (zcu (σ:=Int) (β:=Int) (fun i x b=>.inl (zqd l p it br i x b)) (fun b=>b) i m b):=by
  intro m
  induction m with
  |nil=>intro i b _ h;exact h
  |cons x m ih=>intro i b hi h;simp only[zcu];simp only[List.length_cons]at hi;exact ih _ _ (by omega) (zjc h (by omega))
 exact key l 0 (-1) (by omega) (.inl (by omega))
theorem zas8 {c:Circ} (hs:Short c) {p:Int} {x:Item}:∃r b,qfv c p x=some (r,b)∧(b=true→r∈c.Rules):=by
 unfold qfv
 rw[zla hs.patrons]
 dsimp only
 cases (getP c.Patrons p).2 with
 |false=>exact ⟨_,false,rfl,fun h=>by cases h⟩
 |true=>
  simp only[Bool.not_true,cond_false]
  unfold qfx
  rw[zakh hs.rules]
  dsimp only
  rcases z23 (l:=c.Rules) (p:=(getP c.Patrons p).1.Kind) (it:=x.Kind) (br:=x.Branch) with h|⟨k,hk,hlt⟩
  ·rw[show decide (zabq c.Rules (getP c.Patrons p).1.Kind x.Kind x.Branch<0)=true by rw[decide_eq_true_eq];exact h]
   exact ⟨_,false,rfl,fun h=>by cases h⟩
  ·rw[hk,show decide ((k:Int)<0)=false by rw[decide_eq_false_iff_not];omega]
   simp only[cond_false,zaj,List.getElem?_eq_getElem hlt]
   exact ⟨_,true,rfl,fun _=>List.getElem_mem hlt⟩
end Go.Proofs.YtdahfgialanmpaaGreatDoor
namespace Go.Proofs.YtdahfgialanmpaaGreatDoor
open Ev
open Go (IntKind)
theorem zii {α β:Type} {step:α→Option (α⊕β)} (Inv:α→Prop) (μ:α→Nat) (h:∀a,Inv a→(∃a',step a=some (.inl a')∧Inv a'∧μ a'<μ a)∨∃b,step a=some (.inr b)) {a:α} (ha:Inv a) (hm:μ a<FUEL):∃r,zae step a=some r:=by
 have key:∀n a,Inv a→μ a<n→∃r,za7 step n a=some r:=by
  intro n
  induction n with
  |zero=>intro a _ h;omega
  |succ n ih=>
   intro a hi hn
   simp only[za7]
   rcases h a hi with ⟨a',h1,h2,h3⟩|⟨b,h1⟩
   ·rw[h1];exact ih a' h2 (by omega)
   ·rw[h1];exact ⟨b,rfl⟩
 exact key FUEL a ha hm
theorem zst {c:Calendar} (hc:CalOk c) (d:Int):∃a b,qbl c d=some (a,b):=by
 obtain ⟨r,hr⟩:=zii (step:=znq) (fun a=>0≤a.1∧a.2.1=c) (fun a=>(109573-a.1).toNat) (by
  rintro ⟨d,c',_⟩ ⟨h0,(rfl:c'=c)⟩
  simp only at h0
  simp only[znq,zaj0 hc]
  by_cases hq:d≤109572
  ·rw[show decide (d≤109572)=true by rw[decide_eq_true_eq];exact hq]
   simp only[cond_true]
   cases z00 c' d with
   |true=>exact .inr ⟨_,rfl⟩
   |false=>
    simp only[cond_false]
    rw[zd7 (by omega) (by omega)]
    exact .inl ⟨_,rfl,⟨by show 0≤d+1;omega,rfl⟩,by show (109573-(d+1)).toNat<(109573-d).toNat;omega⟩
  ·rw[show decide (d≤109572)=false by rw[decide_eq_false_iff_not];exact hq]
   exact .inr ⟨_,rfl⟩) (a:=((if d<0 then 0 else d),c,())) ⟨by show 0≤if d<0 then 0 else d;split<;>omega,rfl⟩ (by rw[zbb];show (109573-if d<0 then 0 else d).toNat<_;split<;>omega)
 unfold qbl
 rw[hr]
 rcases r with _|⟨a,b,_⟩
 ·exact ⟨_,_,rfl⟩
 ·exact ⟨_,_,rfl⟩
theorem zwi {α β:Type} {b:Bool} {x y:Option (α×β)} (hx:∃u v,x=some (u,v)) (hy:∃u v,y=some (u,v)):∃u v,(bif b then x else y)=some (u,v):=by
 cases b
 ·exact hy
 ·exact hx
end Go.Proofs.YtdahfgialanmpaaGreatDoor
namespace Go.Proofs.YtdahfgialanmpaaGreatDoor
open Ev
open Go (IntKind)
def getH (l:List Hold) (id:Int):Hold×Bool:=match l.find? (fun h=>h.ID==id) with|some h=>(h,true)|none=>(znb,false)
theorem za0k {l:List Hold} {id:Int} (hl:l.length<1000000000):qd0 l id=some (getH l id):=by
 unfold qd0 qbf getH
 rw[z71 (p:=fun (g:Unit×Int×Unit) x0=>qee x0 g.2.1) (g:=((),(id,()))) (fun x=>x.ID==id) hl (fun x _=>rfl)]
 rcases zbv (fun x:Hold=>x.ID==id) l with ⟨h1,h2⟩|⟨i,x,h1,h2,h3,h4⟩
 ·simp only[h1,h2]
  try rfl
 ·have d:decide ((0:Int)≤(i:Int))=true:=by rw[decide_eq_true_eq];omega
  simp only[h1,h4,d,cond_true,zaj,h2]
theorem z7y {l:List Hold} {id:Int} (hl:l.length<1000000000):qau l id=some (getH l id):=by
 unfold qau getH
 have h:=zbo (step:=znl) (fun i=>(l,id,(i:Int),znb,())) l (fun x=>x.ID==id) (fun _ x=>(.inr (true,x,()):(Hold×Unit)⊕(Bool×Hold×Unit))) (.inl (znb,())) hl
  (by simp only[znl,dge,cond_false])
  (fun i x hx=>by
   have hi:=(List.getElem?_eq_some_iff.1 hx).1
   simp only[znl,dlt hi,zaj,hx,cond_true,zaq (show i<9223372036854775807 by omega)])
 rw[show zae znl (l,id,0,(⟨0,0,0,0,0,0,0,0,0,0,0⟩:Hold),())=_ from h,zhr]
 cases l.find? (fun x=>x.ID==id)<;>rfl
theorem zti {α β γ:Type} {s1:α→Option (α⊕β)} {s2:γ→Option (γ⊕β)} (Inv:α→Prop) (φ:α→γ)
 (h:∀a,Inv a→s2 (φ a)=(match s1 a with|none=>none|some (.inl b)=>some (.inl (φ b))|some (.inr b)=>some (.inr b)))
 (hi:∀a b,Inv a→s1 a=some (.inl b)→Inv b) {a:α} (ha:Inv a):zae s2 (φ a)=zae s1 a:=by
 have key:∀n a,Inv a→za7 s2 n (φ a)=za7 s1 n a:=by
  intro n
  induction n with
  |zero=>intro a _;rfl
  |succ n ih=>
   intro a ha
   simp only[za7]
   rw[h a ha]
   cases hs:s1 a with
   |none=>rfl
   |some x=>
    cases x with
    |inl b=>exact ih b (hi a b ha hs)
    |inr b=>rfl
 exact key FUEL a ha
theorem z7u {c:Calendar} (hc:CalOk c) (day n:Int):qa2 c day n=qbw c day n:=by
 have hw:zae zk3 (n,day,0,c,())=zae znd (day,n,0,c,()):=by
  refine zti (s1:=znd) (s2:=zk3) (fun a=>a.2.2.2.1=c) (fun a=>(a.2.1,a.1,a.2.2.1,a.2.2.2.1,())) ?_ ?_ (a:=(day,n,0,c,())) rfl
  ·rintro ⟨d,n,i,c',_⟩ (rfl:c'=c)
   simp only[znd,zk3,z7v hc]
   cases decide (i<n) with
   |false=>rfl
   |true=>
    simp only[cond_true]
    cases qbl c' (wr .i64 (d+1)) with
    |none=>rfl
    |some p=>
     obtain ⟨a,b⟩:=p
     simp only
     cases !(b==0)<;>rfl
  ·rintro ⟨d,n,i,c',_⟩ b (rfl:c'=c) hb
   simp only[znd]at hb
   cases hq:decide (i<n) with
   |false=>rw[hq]at hb;cases hb
   |true=>
    rw[hq]at hb
    simp only[cond_true]at hb
    cases hn:qa3 c' (wr .i64 (d+1)) with
    |none=>rw[hn]at hb;cases hb
    |some p=>
     obtain ⟨a,b2⟩:=p
     rw[hn]at hb
     simp only at hb
     cases he:!(b2==0) with
     |true=>rw[he]at hb;cases hb
     |false=>rw[he]at hb;cases hb;rfl
 unfold qa2 qbw
 simp -zeta only[k_or,zakj,z7v hc]
 dsimp only
 rw[hw,←zut 0 109572]
 try rfl
end Go.Proofs.YtdahfgialanmpaaGreatDoor
namespace Go.Proofs.YtdahfgialanmpaaGreatDoor
open Ev
open Go (IntKind)
theorem zmy {c:Calendar} (hc:CalOk c) (d n:Int):∃a b,qbw c d n=some (a,b):=by
 unfold qbw
 simp -zeta only[k_or]
 dsimp only
 cases hb:(decide (n<0)||decide (1000<n)) with
 |true=>exact ⟨_,_,rfl⟩
 |false=>
  simp only[Bool.or_eq_false_iff,decide_eq_false_iff_not]at hb
  simp only[cond_false]
  refine zwi ⟨_,_,rfl⟩ (zwi ?_ ?_)
  ·obtain ⟨a,b,h⟩:=zst hc d
   rw[h]
   exact ⟨_,_,rfl⟩
  ·obtain ⟨r,hr⟩:=zii (step:=zk3) (fun a=>a.1=n∧0≤a.2.2.1∧a.2.2.2.1=c) (fun a=>(n-a.2.2.1).toNat) (by
    rintro ⟨n',d,i,c',_⟩ ⟨(rfl:n'=n),h0,(rfl:c'=c)⟩
    simp only at h0
    simp only[zk3]
    by_cases hq:i<n'
    ·rw[show decide (i<n')=true by rw[decide_eq_true_eq];exact hq]
     obtain ⟨a,b,h⟩:=zst hc (wr .i64 (d+1))
     simp only[cond_true,h]
     cases !(b==0) with
     |true=>exact .inr ⟨_,rfl⟩
     |false=>
      simp only[cond_false]
      rw[zd7 (n:=i+1) (by omega) (by omega)]
      exact .inl ⟨_,rfl,⟨rfl,by show 0≤i+1;omega,rfl⟩,by show (n'-(i+1)).toNat<(n'-i).toNat;omega⟩
    ·rw[show decide (i<n')=false by rw[decide_eq_false_iff_not];exact hq]
     exact .inr ⟨_,rfl⟩) (a:=(n,d,0,c,())) ⟨rfl,by show (0:Int)≤0;omega,rfl⟩ (by rw[zbb];show (n-0).toNat<_;omega)
   rw[hr]
   rcases r with ⟨a,_⟩|⟨a,b,_⟩
   ·exact ⟨_,_,rfl⟩
   ·exact ⟨_,_,rfl⟩
end Go.Proofs.YtdahfgialanmpaaGreatDoor
namespace Go.Proofs.YtdahfgialanmpaaGreatDoor
open Ev
open Go (IntKind)
def insW {X:Type} (lt:X→X→Bool) (y:X):List X→List X→List X
 | [],rest=>y::rest
 |z::zs,rest=>bif lt y z then insW lt y zs (z::rest) else zs.reverse++z::y::rest
theorem z5s {X:Type} {lt:X→X→Bool} {y:X}:∀{r rest more:List X},insW lt y r (rest++more)=insW lt y r rest++more:=by
 intro r
 induction r with
 |nil=>intro rest more;rfl
 |cons z zs ih=>
  intro rest more
  simp only[insW]
  cases lt y z with
  |true=>simp only[cond_true];rw[←List.cons_append,ih]
  |false=>simp
theorem z0h {X:Type} {lt:X→X→Bool} {y:X}:∀{B A rest:List X},(∀b∈B,lt y b=true)→(∀a∈A,lt y a=false)→insW lt y (B++A) rest=A.reverse++y::(B.reverse++rest):=by
 intro B
 induction B with
 |nil=>
  intro A rest _ hA
  cases A with
  |nil=>rfl
  |cons a A=>simp only[List.nil_append,insW,hA a (List.mem_cons_self ..),cond_false,List.reverse_cons,List.append_assoc,List.reverse_nil];rfl
 |cons b B ih=>
  intro A rest hB hA
  simp only[List.cons_append,insW,hB b (List.mem_cons_self ..),cond_true]
  rw[ih (fun b hb=>hB b (List.mem_cons_of_mem _ hb)) hA]
  simp
section
variable {γ:Type} {p:γ→Hold→Hold→Option Int} {g:γ} {lt:Hold→Hold→Bool}
theorem zari (hp:∀y z,∃n,p g y z=some n∧decide (n<0)=lt y z) {b i:Int}:∀(r:List Hold) (y:Hold) (rest:List Hold),r.length<1000000→
 za7 (z1p p) (r.length+1) (0,b,g,i,(r.length:Int),r.reverse++y::rest,())=some (0,b,g,i,insW lt y r rest,()):=by
 intro r
 induction r with
 |nil=>
  intro y rest _
  simp only[List.length_nil,za7,insW,z1p]
  try rfl
 |cons z zs ih=>
  intro y rest hl
  simp only[List.length_cons]at hl
  obtain ⟨n,h1,h2⟩:=hp y z
  have d:decide ((0:Int)<((zs.length+1:Nat):Int))=true:=by rw[decide_eq_true_eq];omega
  have w:=zgr (j:=zs.length) (by omega)
  have e:(z::zs).reverse++y::rest=zs.reverse++z::y::rest:=by simp
  have gy:(zs.reverse++z::y::rest)[zs.length+1]?=some y:=by rw[List.getElem?_append_right (by simp)];simp
  have gz:(zs.reverse++z::y::rest)[zs.length]?=some z:=by rw[List.getElem?_append_right (by simp)];simp
  have s1:(zs.reverse++z::y::rest).set (zs.length+1) z=zs.reverse++z::z::rest:=by
   rw[List.set_append_right _ _ (by simp)];simp
  have gz2:(zs.reverse++z::z::rest)[zs.length]?=some z:=by rw[List.getElem?_append_right (by simp)];simp
  have s2:(zs.reverse++z::z::rest).set zs.length y=zs.reverse++y::z::rest:=by
   rw[List.set_append_right _ _ (by simp)];simp
  rw[za7,e]
  simp only[List.length_cons,z1p,d,cond_true,w,zaj,Int.toNat_natCast,gy,gz,h1,h2,s1,gz2,s2,insW]
  cases lt y z with
  |true=>simp only[cond_true];exact ih y (z::rest) (by omega)
  |false=>rfl
def ze4 (lt:Hold→Hold→Bool) (l:List Hold):List Hold:=l.foldl (fun pre y=>insW lt y pre.reverse []) []
theorem zf6 {l:List Hold} {y:Hold}:ze4 lt (l++[y])=insW lt y (ze4 lt l).reverse []:=by
 unfold ze4
 rw[List.foldl_append];rfl
theorem zuj {y:Hold}:∀{r rest:List Hold},(insW lt y r rest).length=r.length+1+rest.length:=by
 intro r
 induction r with
 |nil=>intro rest;simp[insW];omega
 |cons z zs ih=>
  intro rest
  simp only[insW]
  cases lt y z with
  |true=>simp only[cond_true];rw[ih];simp;omega
  |false=>simp;omega
theorem ztd:∀{l:List Hold},(ze4 lt l).length=l.length:=by
 have key:∀(l pre:List Hold),(l.foldl (fun pre y=>insW lt y pre.reverse []) pre).length=pre.length+l.length:=by
  intro l
  induction l with
  |nil=>intro pre;rfl
  |cons y l ih=>intro pre;rw[List.foldl_cons,ih,zuj];simp;omega
 intro l
 unfold ze4
 rw[key];simp
theorem zagh (hp:∀y z,∃n,p g y z=some n∧decide (n<0)=lt y z) {l:List Hold} (hl:l.length<1000000):∀(k i:Nat),i+k=l.length→
 za7 (z1o p) (k+1) (0,(l.length:Int),g,(i:Int),ze4 lt (l.take i)++l.drop i,())=some (ze4 lt l,()):=by
 intro k
 induction k with
 |zero=>
  intro i hi
  have:i=l.length:=by omega
  subst this
  have d:decide ((l.length:Int)<(l.length:Int))=false:=by rw[decide_eq_false_iff_not];omega
  simp only[za7,z1o,d,cond_false,List.take_length,List.drop_length,List.append_nil]
 |succ k ih=>
  intro i hi
  have hlt:i<l.length:=by omega
  have d:decide ((i:Int)<(l.length:Int))=true:=by rw[decide_eq_true_eq];omega
  have hlen:(ze4 lt (l.take i)).length=i:=by rw[ztd,List.length_take];omega
  have hr:=zari (p:=p) (g:=g) (lt:=lt) hp (b:=(l.length:Int)) (i:=(i:Int)) (ze4 lt (l.take i)).reverse l[i] (l.drop (i+1)) (by rw[List.length_reverse,hlen];omega)
  rw[List.length_reverse,List.reverse_reverse,hlen,←List.drop_eq_getElem_cons hlt]at hr
  have hw:zae (z1p p) (0,(l.length:Int),g,(i:Int),(i:Int),ze4 lt (l.take i)++l.drop i,())=_:=zbj (i+1) (by rw[zbb];omega) hr
  rw[za7]
  simp only[z1o,d,cond_true,hw,zaq (show i<9223372036854775807 by omega)]
  have e:insW lt l[i] (ze4 lt (l.take i)).reverse (l.drop (i+1))=ze4 lt (l.take (i+1))++l.drop (i+1):=by
   have:=z5s (lt:=lt) (y:=l[i]) (r:=(ze4 lt (l.take i)).reverse) (rest:=[]) (more:=l.drop (i+1))
   rw[List.nil_append]at this
   rw[this,List.take_succ_eq_append_getElem hlt,zf6]
  rw[e]
  exact ih (i+1) (by omega)
theorem zawn (hp:∀y z,∃n,p g y z=some n∧decide (n<0)=lt y z) {l:List Hold} (hl:l.length<20):qd1 p l g=some (ze4 lt l):=by
 have h1:zae (zafz p) ((l.length:Int),g,20,0,20,l,())=some ((l.length:Int),g,20,0,l,()):=by
  refine zbj 1 (by rw[zbb];omega) ?_
  have d:decide ((20:Int)≤(l.length:Int))=false:=by rw[decide_eq_false_iff_not];omega
  simp only[za7,zafz,d,cond_false]
 have h2:∀m:List Hold,zae (zaf0 p) ((l.length:Int),g,20,m,())=some (m,()):=fun m=>by
  refine zbj 1 (by rw[zbb];omega) ?_
  have d:decide ((20:Int)<(l.length:Int))=false:=by rw[decide_eq_false_iff_not];omega
  simp only[za7,zaf0,d,cond_false]
 have h3:qq p l 0 (l.length:Int) g=some (ze4 lt l):=by
  unfold qq
  have hw:zae (z1o p) (0,(l.length:Int),g,wr .i64 (0+1),l,())=some (ze4 lt l,()):=by
   cases l with
   |nil=>
    refine zbj 1 (by rw[zbb];omega) ?_
    try rfl
   |cons y m=>
    have:=zagh (p:=p) (g:=g) (lt:=lt) hp (l:=y::m) (by omega) m.length 1 (by simp only[List.length_cons];omega)
    exact zbj (m.length+1) (by rw[zbb];simp only[List.length_cons]at hl;omega) this
  rw[hw]
 unfold qd1 qo
 rw[h1]
 simp only[h3,h2]
end
end Go.Proofs.YtdahfgialanmpaaGreatDoor
namespace Go.Proofs.YtdahfgialanmpaaGreatDoor
open Ev
open Go (IntKind)
def rk (k:Int) (l:List Hold):List Hold:=l.filter (fun x=>x.Rank==k)
def ltR (y z:Hold):Bool:=decide (z.Rank<y.Rank)
def za4 (l:List Hold):List Hold:=rk 9 l++(rk 8 l++(rk 7 l++(rk 6 l++(rk 5 l++(rk 4 l++(rk 3 l++(rk 2 l++(rk 1 l++rk 0 l))))))))
theorem za1i {k:Int} {l:List Hold} {x:Hold} (h:x∈rk k l):x.Rank=k:=by
 unfold rk at h
 rw[List.mem_filter]at h
 simpa using h.2
theorem zel (k:Int) (l:List Hold) (y:Hold):rk k (l++[y])=rk k l++(bif y.Rank==k then [y] else []):=by
 unfold rk
 rw[List.filter_append,List.filter_cons]
 cases y.Rank==k<;>simp
theorem zarh {A B:List Hold} {y:Hold} (hA:∀a∈A,y.Rank≤a.Rank) (hB:∀b∈B,b.Rank<y.Rank):insW ltR y (A++B).reverse []=A++y::B:=by
 rw[List.reverse_append,z0h (by intro b hb;rw[List.mem_reverse]at hb;unfold ltR;rw[decide_eq_true_eq];exact hB b hb) (by intro a ha;rw[List.mem_reverse]at ha;unfold ltR;rw[decide_eq_false_iff_not];have:=hA a ha;omega)]
 simp
theorem zvv:∀(m:List Hold) (l:List Hold),l=m.reverse→(∀x∈l,rng 0 9 x.Rank=true)→ze4 ltR l=za4 l:=by
 intro m
 induction m with
 |nil=>intro l h _;subst h;rfl
 |cons y m ih=>
  intro l h hr
  rw[List.reverse_cons]at h
  subst h
  have hy:=zcf.1 (hr y (by simp))
  rw[zf6,ih m.reverse rfl (fun x hx=>hr x (by simp at hx ⊢;exact .inl hx))]
  generalize m.reverse=l
  have hc:y.Rank=0∨y.Rank=1∨y.Rank=2∨y.Rank=3∨y.Rank=4∨y.Rank=5∨y.Rank=6∨y.Rank=7∨y.Rank=8∨y.Rank=9:=by omega
  have mid:∀(A B:List Hold),za4 l=A++B→(∀a∈A,y.Rank≤a.Rank)→(∀b∈B,b.Rank<y.Rank)→insW ltR y (za4 l).reverse []=A++y::B:=fun A B e hA hB=>by rw[e];exact zarh hA hB
  have mm:∀(k:Int) (x:Hold),x∈rk k l→x.Rank=k:=fun k x h=>za1i h
  rcases hc with h|h|h|h|h|h|h|h|h|h
  ·rw[mid (rk 9 l++(rk 8 l++(rk 7 l++(rk 6 l++(rk 5 l++(rk 4 l++(rk 3 l++(rk 2 l++(rk 1 l++rk 0 l))))))))) [] (by simp[za4]) (by intro a ha;simp only[List.mem_append]at ha;rcases ha with h|h|h|h|h|h|h|h|h|h<;>(have:=mm _ _ h;omega)) (by intro b hb;cases hb)]
   simp[za4,zel,h]
  ·rw[mid (rk 9 l++(rk 8 l++(rk 7 l++(rk 6 l++(rk 5 l++(rk 4 l++(rk 3 l++(rk 2 l++rk 1 l)))))))) (rk 0 l) (by simp[za4]) (by intro a ha;simp only[List.mem_append]at ha;rcases ha with h|h|h|h|h|h|h|h|h<;>(have:=mm _ _ h;omega)) (by intro b hb;have:=mm _ _ hb;omega)]
   simp[za4,zel,h]
  ·rw[mid (rk 9 l++(rk 8 l++(rk 7 l++(rk 6 l++(rk 5 l++(rk 4 l++(rk 3 l++rk 2 l))))))) (rk 1 l++rk 0 l) (by simp[za4]) (by intro a ha;simp only[List.mem_append]at ha;rcases ha with h|h|h|h|h|h|h|h<;>(have:=mm _ _ h;omega)) (by intro b hb;simp only[List.mem_append]at hb;rcases hb with h|h<;>(have:=mm _ _ h;omega))]
   simp[za4,zel,h]
  ·rw[mid (rk 9 l++(rk 8 l++(rk 7 l++(rk 6 l++(rk 5 l++(rk 4 l++rk 3 l)))))) (rk 2 l++(rk 1 l++rk 0 l)) (by simp[za4]) (by intro a ha;simp only[List.mem_append]at ha;rcases ha with h|h|h|h|h|h|h<;>(have:=mm _ _ h;omega)) (by intro b hb;simp only[List.mem_append]at hb;rcases hb with h|h|h<;>(have:=mm _ _ h;omega))]
   simp[za4,zel,h]
  ·rw[mid (rk 9 l++(rk 8 l++(rk 7 l++(rk 6 l++(rk 5 l++rk 4 l))))) (rk 3 l++(rk 2 l++(rk 1 l++rk 0 l))) (by simp[za4]) (by intro a ha;simp only[List.mem_append]at ha;rcases ha with h|h|h|h|h|h<;>(have:=mm _ _ h;omega)) (by intro b hb;simp only[List.mem_append]at hb;rcases hb with h|h|h|h<;>(have:=mm _ _ h;omega))]
   simp[za4,zel,h]
  ·rw[mid (rk 9 l++(rk 8 l++(rk 7 l++(rk 6 l++rk 5 l)))) (rk 4 l++(rk 3 l++(rk 2 l++(rk 1 l++rk 0 l)))) (by simp[za4]) (by intro a ha;simp only[List.mem_append]at ha;rcases ha with h|h|h|h|h<;>(have:=mm _ _ h;omega)) (by intro b hb;simp only[List.mem_append]at hb;rcases hb with h|h|h|h|h<;>(have:=mm _ _ h;omega))]
   simp[za4,zel,h]
  ·rw[mid (rk 9 l++(rk 8 l++(rk 7 l++rk 6 l))) (rk 5 l++(rk 4 l++(rk 3 l++(rk 2 l++(rk 1 l++rk 0 l))))) (by simp[za4]) (by intro a ha;simp only[List.mem_append]at ha;rcases ha with h|h|h|h<;>(have:=mm _ _ h;omega)) (by intro b hb;simp only[List.mem_append]at hb;rcases hb with h|h|h|h|h|h<;>(have:=mm _ _ h;omega))]
   simp[za4,zel,h]
  ·rw[mid (rk 9 l++(rk 8 l++rk 7 l)) (rk 6 l++(rk 5 l++(rk 4 l++(rk 3 l++(rk 2 l++(rk 1 l++rk 0 l)))))) (by simp[za4]) (by intro a ha;simp only[List.mem_append]at ha;rcases ha with h|h|h<;>(have:=mm _ _ h;omega)) (by intro b hb;simp only[List.mem_append]at hb;rcases hb with h|h|h|h|h|h|h<;>(have:=mm _ _ h;omega))]
   simp[za4,zel,h]
  ·rw[mid (rk 9 l++rk 8 l) (rk 7 l++(rk 6 l++(rk 5 l++(rk 4 l++(rk 3 l++(rk 2 l++(rk 1 l++rk 0 l))))))) (by simp[za4]) (by intro a ha;simp only[List.mem_append]at ha;rcases ha with h|h<;>(have:=mm _ _ h;omega)) (by intro b hb;simp only[List.mem_append]at hb;rcases hb with h|h|h|h|h|h|h|h<;>(have:=mm _ _ h;omega))]
   simp[za4,zel,h]
  ·rw[mid (rk 9 l) (rk 8 l++(rk 7 l++(rk 6 l++(rk 5 l++(rk 4 l++(rk 3 l++(rk 2 l++(rk 1 l++rk 0 l)))))))) (by simp[za4]) (by intro a ha;have:=mm _ _ ha;omega) (by intro b hb;simp only[List.mem_append]at hb;rcases hb with h|h|h|h|h|h|h|h|h<;>(have:=mm _ _ h;omega))]
   simp[za4,zel,h]
def zb6 (record day:Int) (x:Hold):Bool:=x.Record==record&&x.State==1&&decide (x.Asleep≤day)
theorem zaba (record day:Int) (x:Hold):(x.State==1&&x.Record==record&&decide (x.Asleep≤day))=zb6 record day x:=by
 unfold zb6
 cases x.Record==record<;>cases x.State==1<;>rfl
theorem z8d (y z:Hold) (hy:rng 0 9 y.Rank=true) (hz:rng 0 9 z.Rank=true):decide (wr .i64 (z.Rank-y.Rank)<0)=ltR y z:=by
 have h1:=zcf.1 hy
 have h2:=zcf.1 hz
 rw[zd7 (by omega) (by omega)]
 unfold ltR
 rw[decide_eq_decide];omega
theorem zadw {lt:Hold→Hold→Bool} {y x:Hold}:∀{r rest:List Hold},x∈insW lt y r rest→x=y∨x∈r∨x∈rest:=by
 intro r
 induction r with
 |nil=>intro rest h;simp only[insW,List.mem_cons]at h;rcases h with h|h<;>simp[h]
 |cons z zs ih=>
  intro rest h
  simp only[insW]at h
  cases hb:lt y z with
  |true=>
   rw[hb]at h
   rcases ih h with h|h|h
   ·exact .inl h
   ·exact .inr (.inl (List.mem_cons_of_mem _ h))
   ·rcases List.mem_cons.1 h with h|h
    ·subst h;exact .inr (.inl (List.mem_cons_self ..))
    ·exact .inr (.inr h)
  |false=>
   rw[hb]at h
   simp only[cond_false,List.mem_append,List.mem_reverse,List.mem_cons]at h
   rcases h with h|h|h|h
   ·exact .inr (.inl (List.mem_cons_of_mem _ h))
   ·subst h;exact .inr (.inl (List.mem_cons_self ..))
   ·exact .inl h
   ·exact .inr (.inr h)
theorem z0g {lt lt':Hold→Hold→Bool} {y:Hold}:∀{r rest:List Hold},(∀z∈r,lt y z=lt' y z)→insW lt y r rest=insW lt' y r rest:=by
 intro r
 induction r with
 |nil=>intros;rfl
 |cons z zs ih=>
  intro rest h
  simp only[insW]
  rw[h z (List.mem_cons_self ..),ih (fun z hz=>h z (List.mem_cons_of_mem _ hz))]
theorem zaa3 {lt lt':Hold→Hold→Bool}:∀(m l:List Hold),l=m.reverse→(∀x∈l,∀y∈l,lt x y=lt' x y)→ze4 lt l=ze4 lt' l∧∀x∈ze4 lt' l,x∈l:=by
 intro m
 induction m with
 |nil=>intro l h _;subst h;exact ⟨rfl,fun x hx=>by cases hx⟩
 |cons y m ih=>
  intro l h hc
  rw[List.reverse_cons]at h
  subst h
  obtain ⟨e1,e2⟩:=ih m.reverse rfl (fun a ha b hb=>hc a (by simp at ha ⊢;exact .inl ha) b (by simp at hb ⊢;exact .inl hb))
  rw[zf6,zf6,e1]
  refine ⟨z0g (fun z hz=>hc y (by simp) z ?_),fun x hx=>?_⟩
  ·rw[List.mem_reverse]at hz
   have:=e2 z hz
   simp at this ⊢;exact .inl this
  ·rcases zadw hx with h|h|h
   ·subst h;simp
   ·rw[List.mem_reverse]at h
    have:=e2 x h
    simp at this ⊢;exact .inl this
   ·cases h
theorem z1q {l:List Hold} (hl:l.length<20) (hr:∀x∈l,rng 0 9 x.Rank=true):qd1 (fun (g:Unit×Unit) x0 x1=>qb6 x0 x1) l ((),())=some (za4 l):=by
 rw[zawn (lt:=fun y z=>decide (wr .i64 (z.Rank-y.Rank)<0)) (fun y z=>⟨_,rfl,rfl⟩) hl]
 congr 1
 rw[(zaa3 l.reverse l (by simp) (fun x hx y hy=>z8d x y (hr x hx) (hr y hy))).1]
 exact zvv l.reverse l (by simp) hr
end Go.Proofs.YtdahfgialanmpaaGreatDoor
namespace Go.Proofs.YtdahfgialanmpaaGreatDoor
open Ev
open Go (IntKind)
theorem zj1 {X:Type} (p:X→Bool):∀(l o:List X),l.foldl (fun s y=>bif p y then s++[y] else s) o=o++l.filter p:=by
 intro l
 induction l with
 |nil=>intro o;simp
 |cons x l ih=>intro o;rw[List.foldl_cons,ih,List.filter_cons];cases p x<;>simp
theorem zim {X Y:Type} (p:X→Bool) (f:X→Y):∀(l:List X) (o:List Y),l.foldl (fun s y=>bif p y then s++[f y] else s) o=o++(l.filter p).map f:=by
 intro l
 induction l with
 |nil=>intro o;simp
 |cons x l ih=>intro o;rw[List.foldl_cons,ih,List.filter_cons];cases p x<;>simp
theorem za2e {l:List Hold} {record day:Int} (hl:l.length<1000000) (h20:(l.filter (zb6 record day)).length<20) (hr:∀x∈l,rng 0 9 x.Rank=true):qh l record day=some (za4 (l.filter (zb6 record day))):=by
 have h:=zcc (step:=z1j) (fun (i:Nat) (s:List Hold)=>s.length≤i) (fun i s=>(record,day,l,(l.length:Int),(i:Int),s,())) l
  (fun i y s=>.inl (bif zb6 record day y then s++[y] else s)) (fun s=>(s,())) (by rw[zbb];omega)
  (fun s _=>by simp only[z1j,dge,cond_false])
  (fun i y s hx hi=>by
   have hlt:=(List.getElem?_eq_some_iff.1 hx).1
   have l1:decide (s.length+([y]:List Hold).length≤LIM)=true:=zj9 (by simp;omega)
   refine ⟨?_,fun s' hs'=>?_⟩
   ·simp -zeta only[z1j,dlt hlt,zaj,hx,cond_true,l1,za8,zaq (show i<9223372036854775807 by omega)]
    unfold zb6
    dsimp only
    cases (y.Record==record&&y.State==1&&decide (y.Asleep≤day))<;>rfl
   ·cases hs'
    cases zb6 record day y<;>simp<;>omega) [] (by simp)
 rw[zh4]at h
 unfold qh
 rw[show zae z1j (record,day,l,(l.length:Int),0,[],())=_ from h,zj1,List.nil_append]
 simp only
 rw[z1q h20 (fun x hx=>hr x (List.mem_filter.1 hx).1)]
theorem z7t {l:List Hold} {record day rank:Int} (hl:l.length<1000000) (s:List Int) (hs:s.length<100000000):zae zuv (l,record,day,rank,0,s,())=some (l,record,day,rank,s++(rk rank (l.filter (zb6 record day))).map (fun x=>x.ID),()):=by
 have h:=zcc (step:=zuv) (fun (i:Nat) (o:List Int)=>o.length≤s.length+i) (fun i o=>(l,record,day,rank,(i:Int),o,())) l
  (fun i y o=>.inl (bif zb6 record day y&&y.Rank==rank then o++[y.ID] else o)) (fun o=>(l,record,day,rank,o,())) (by rw[zbb];omega)
  (fun o _=>by simp only[zuv,dge,cond_false])
  (fun i y o hx hi=>by
   have hlt:=(List.getElem?_eq_some_iff.1 hx).1
   have l1:decide (o.length+([y.ID]:List Int).length≤LIM)=true:=zj9 (by simp;omega)
   refine ⟨?_,fun s' hs'=>?_⟩
   ·simp -zeta only[zuv,dlt hlt,zaj,hx,cond_true,l1,za8,zaq (show i<9223372036854775807 by omega)]
    dsimp only
    rw[zaba]
    cases (zb6 record day y&&y.Rank==rank)<;>rfl
   ·cases hs'
    cases (zb6 record day y&&y.Rank==rank)<;>simp<;>omega) s (by omega)
 rw[zh4]at h
 rw[show zae zuv (l,record,day,rank,0,s,())=_ from h]
 have e:(fun (s:List Int) (x:Hold)=>bif zb6 record day x&&x.Rank==rank then s++[x.ID] else s)=(fun s x=>bif (fun y=>zb6 record day y&&y.Rank==rank) x then s++[(fun z:Hold=>z.ID) x] else s):=rfl
 rw[e,zim]
 unfold rk
 rw[List.filter_filter]
 have e2:(fun y:Hold=>zb6 record day y&&y.Rank==rank)=(fun a=>a.Rank==rank&&zb6 record day a):=by funext y;rw[Bool.and_comm]
 rw[e2]
def dn (q:List Hold):Nat→List Hold
 |0=>[]
 |k+1=>rk (k:Int) q++dn q k
theorem z27 (q:List Hold):za4 q=dn q 10:=by
 simp[za4,dn]
theorem zs6 {k:Int} {q:List Hold}:(rk k q).length≤q.length:=List.length_filter_le _ _
theorem zazv {l:List Hold} {record day:Int} (hl:l.length<1000000):∀(k:Nat) (s:List Int),k≤10→s.length+k*1000000<100000000→
 za7 z7s (k+1) (l,record,day,(k:Int)-1,s,())=some (s++(dn (l.filter (zb6 record day)) k).map (fun x=>x.ID),()):=by
 intro k
 induction k with
 |zero=>
  intro s _ _
  simp only[za7,dn,List.map_nil,List.append_nil]
  try rfl
 |succ k ih=>
  intro s hk hs
  have e:((k+1:Nat):Int)-1=(k:Int):=by omega
  have hlen:(rk (k:Int) (l.filter (zb6 record day))).length≤l.length:=Nat.le_trans zs6 (List.length_filter_le _ _)
  rw[za7]
  have d2:decide ((0:Int)≤(k:Int))=true:=by rw[decide_eq_true_eq];omega
  simp only[z7s,d2,cond_true,e,z7t hl s (by omega)]
  rw[zd7 (n:=(k:Int)-1) (by omega) (by omega),ih _ (by omega) (by rw[List.length_append,List.length_map];omega)]
  simp only[dn,List.map_append,List.append_assoc]
theorem za2b {l:List Hold} {record day:Int} (hl:l.length<1000000):q9 l record day=some ((za4 (l.filter (zb6 record day))).map (fun x=>x.ID)):=by
 have h:=zazv (record:=record) (day:=day) hl 10 [] (by omega) (by simp)
 unfold q9
 rw[show zae z7s (l,record,day,9,([]:List Int),())=_ from zbj 11 (by rw[zbb];omega) h,List.nil_append,z27]
theorem zf2 {q:List Hold} {x:Hold} (h:x∈za4 q):x∈q:=by
 have k:∀(k:Int),x∈rk k q→x∈q:=fun k h=>(List.mem_filter.1 h).1
 unfold za4 at h
 simp only[List.mem_append]at h
 rcases h with h|h|h|h|h|h|h|h|h|h<;>exact k _ h
def z02 (branch:Int) (vlocal:Bool) (x:Item) (h:Hold) (first:Int):Int⊕Int:=
 bif !(h.Item==0)&&!(h.Item==x.ID) then .inl first
 else bif !vlocal||h.Pickup==branch then .inr h.ID
 else .inl (bif first==0 then h.ID else first)
def zsw (branch:Int) (vlocal:Bool) (x:Item) (h:Hold) (first:Int):Int⊕Int:=
 bif !(h.Item==0)&&!(h.Item==x.ID) then .inl first
 else bif vlocal&&h.Pickup==branch then .inr h.ID
 else .inl (bif first==0 then h.ID else first)
def z03 (branch:Int) (vlocal:Bool) (x:Item):List Hold→Int→Int
 | [],first=>first
 |h::q,first=>match z02 branch vlocal x h first with | .inl f=>z03 branch vlocal x q f | .inr r=>r
def zgj (branch:Int) (vlocal:Bool) (x:Item):List Hold→Int→Int
 | [],first=>first
 |h::q,first=>match zsw branch vlocal x h first with | .inl f=>zgj branch vlocal x q f | .inr r=>r
theorem z04 {branch:Int} {x:Item}:∀{q:List Hold} {f:Int},f≠0→zgj branch false x q f=f:=by
 intro q
 induction q with
 |nil=>intros;rfl
 |cons h q ih=>
  intro f hf
  have h0:(f==0)=false:=by simpa using hf
  simp only[zgj,zsw,Bool.false_and,cond_false,h0]
  cases (!(h.Item==0)&&!(h.Item==x.ID))<;>exact ih hf
theorem z7q {branch:Int} {vlocal:Bool} {x:Item}:∀{q:List Hold} {f:Int},(∀h∈q,h.ID≠0)→(vlocal=false→f=0)→z03 branch vlocal x q f=zgj branch vlocal x q f:=by
 intro q
 induction q with
 |nil=>intros;rfl
 |cons h q ih=>
  intro f hq hf
  simp only[z03,zgj,z02,zsw]
  cases (!(h.Item==0)&&!(h.Item==x.ID)) with
  |true=>exact ih (fun y hy=>hq y (List.mem_cons_of_mem _ hy)) hf
  |false=>
   cases vlocal with
   |true=>
    cases h.Pickup==branch with
    |true=>rfl
    |false=>exact ih (fun y hy=>hq y (List.mem_cons_of_mem _ hy)) (fun e=>by cases e)
   |false=>
    have:=hf rfl
    subst this
    exact (z04 (hq h (List.mem_cons_self ..))).symm
end Go.Proofs.YtdahfgialanmpaaGreatDoor
namespace Go.Proofs.YtdahfgialanmpaaGreatDoor
open Ev
open Go (IntKind)
theorem zg3 {l:List Hold} (hsort:∀i x,l[i]?=some x→zbx l i (fun y=>decide (x.ID≤y.ID))=false) {h:Hold} (hm:h∈l):getH l h.ID=(h,true):=by
 unfold getH
 rw[zvw (key:=fun y:Hold=>y.ID) hsort hm]
theorem z05 {β:Type} {branch:Int} {vlocal:Bool} {x:Item} (fin:Int→β) (out:Int→β) (hfo:∀v:Int,True):∀(q:List Hold) (i:Nat) (f:Int),∃r:Int⊕Int,(match r with | .inl v=>v | .inr v=>v)=z03 branch vlocal x q f∧
 zcu (fun (_:Nat) h f=>match z02 branch vlocal x h f with | .inl f=>.inl f | .inr v=>.inr (out v)) fin i q f=(match r with | .inl v=>fin v | .inr v=>out v):=by
 intro q
 induction q with
 |nil=>intro i f;exact ⟨.inl f,rfl,rfl⟩
 |cons h q ih=>
  intro i f
  simp only[zcu,z03]
  cases z02 branch vlocal x h f with
  |inl f'=>exact ih (i+1) f'
  |inr v=>exact ⟨.inr v,rfl,rfl⟩
theorem z06 {β:Type} {branch:Int} {vlocal:Bool} {x:Item} (fin:Int→β) (out:Int→β) (hfo:∀v:Int,True):∀(q:List Hold) (i:Nat) (f:Int),∃r:Int⊕Int,(match r with | .inl v=>v | .inr v=>v)=zgj branch vlocal x q f∧
 zcu (fun (_:Nat) h f=>match zsw branch vlocal x h f with | .inl f=>.inl f | .inr v=>.inr (out v)) fin i q f=(match r with | .inl v=>fin v | .inr v=>out v):=by
 intro q
 induction q with
 |nil=>intro i f;exact ⟨.inl f,rfl,rfl⟩
 |cons h q ih=>
  intro i f
  simp only[zcu,zgj]
  cases zsw branch vlocal x h f with
  |inl f'=>exact ih (i+1) f'
  |inr v=>exact ⟨.inr v,rfl,rfl⟩
theorem zgw {q:List Hold}:(za4 q).length≤10*q.length:=by
 have k:∀n:Int,(rk n q).length≤q.length:=fun n=>zs6
 unfold za4
 simp only[List.length_append]
 have:=k 0;have:=k 1;have:=k 2;have:=k 3;have:=k 4;have:=k 5;have:=k 6;have:=k 7;have:=k 8;have:=k 9
 omega
theorem za0e {l:List Hold} {x:Item} {branch day:Int} {vlocal:Bool} (hl:l.length<1000000) (h20:(l.filter (zb6 x.Record day)).length<20) (hr:∀x∈l,rng 0 9 x.Rank=true) :
 qbg l x branch day vlocal=some (z03 branch vlocal x (za4 (l.filter (zb6 x.Record day))) 0):=by
 unfold qbg
 rw[za2e hl h20 hr]
 have hq:(za4 (l.filter (zb6 x.Record day))).length<1000:=by have:=zgw (q:=l.filter (zb6 x.Record day));omega
 generalize za4 (l.filter (zb6 x.Record day))=q at hq ⊢
 have h:=zdc (step:=zno) (fun i f=>(branch,vlocal,f,q,(q.length:Int),(i:Int),x,())) q
  (fun _ h f=>match z02 branch vlocal x h f with | .inl f=>.inl f | .inr v=>.inr (.inr (v,()))) (fun f=>.inl (f,())) (by rw[zbb];omega)
  (fun f=>by simp only[zno,dge,cond_false])
  (fun i y f hx=>by
   have hlt:=(List.getElem?_eq_some_iff.1 hx).1
   simp -zeta only[zno,dlt hlt,zaj,hx,cond_true,k_or,za8,zaq (show i<9223372036854775807 by omega)]
   unfold z02
   dsimp only
   cases (!(y.Item==0)&&!(y.Item==x.ID)) with
   |true=>rfl
   |false=>
    cases (!vlocal||y.Pickup==branch) with
    |true=>rfl
    |false=>cases f==0<;>rfl) 0
 obtain ⟨r,r1,r2⟩:=z05 (branch:=branch) (vlocal:=vlocal) (x:=x) (fun f=>(.inl (f,()):(Int×Unit)⊕(Int×Unit))) (fun v=>.inr (v,())) (fun _=>trivial) q 0 0
 rw[r2]at h
 simp only
 rw[show zae zno (branch,vlocal,0,q,(q.length:Int),0,x,())=_ from h,←r1]
 cases r<;>rfl
theorem za0h {l:List Hold} {x:Item} {branch day:Int} {vlocal:Bool} (hl:l.length<1000000) (hsort:∀i x,l[i]?=some x→zbx l i (fun y=>decide (x.ID≤y.ID))=false) :
 qbx l x branch day vlocal=some (zgj branch vlocal x (za4 (l.filter (zb6 x.Record day))) 0):=by
 unfold qbx
 rw[za2b hl]
 have hq:(za4 (l.filter (zb6 x.Record day))).length<100000000:=by
  have:=zgw (q:=l.filter (zb6 x.Record day))
  have:=List.length_filter_le (zb6 x.Record day) l
  omega
 have hm:∀h∈za4 (l.filter (zb6 x.Record day)),h∈l:=fun h hh=>(List.mem_filter.1 (zf2 hh)).1
 generalize za4 (l.filter (zb6 x.Record day))=q at hq hm ⊢
 have h:=zdc (step:=zns) (fun i f=>(l,branch,vlocal,q.map (fun x=>x.ID),f,(i:Int),x,())) q
  (fun _ h f=>match zsw branch vlocal x h f with | .inl f=>.inl f | .inr v=>.inr (.inr (v,()))) (fun f=>.inl (f,())) (by rw[zbb];omega)
  (fun f=>by
   have d:decide ((q.length:Int)<((q.map (fun x=>x.ID)).length:Int))=false:=by rw[decide_eq_false_iff_not,List.length_map];omega
   simp only[zns,d,cond_false])
  (fun i y f hx=>by
   have hlt:=(List.getElem?_eq_some_iff.1 hx).1
   have d:decide ((i:Int)<((q.map (fun x=>x.ID)).length:Int))=true:=by rw[decide_eq_true_eq,List.length_map];omega
   have gx:(q.map (fun x=>x.ID))[i]?=some y.ID:=by rw[List.getElem?_map,hx];rfl
   simp -zeta only[zns,d,zaj,gx,cond_true,k_or,za8,z7y (show l.length<1000000000 by omega),zg3 hsort (hm y (List.mem_of_getElem? hx)),zaq (show i<9223372036854775807 by omega)]
   unfold zsw
   dsimp only
   cases (!(y.Item==0)&&!(y.Item==x.ID)) with
   |true=>rfl
   |false=>
    cases (vlocal&&y.Pickup==branch) with
    |true=>rfl
    |false=>cases f==0<;>rfl) 0
 obtain ⟨r,r1,r2⟩:=z06 (branch:=branch) (vlocal:=vlocal) (x:=x) (fun f=>(.inl (f,()):(Int×Unit)⊕(Int×Unit))) (fun v=>.inr (v,())) (fun _=>trivial) q 0 0
 rw[r2]at h
 simp only
 rw[show zae zns (l,branch,vlocal,q.map (fun x=>x.ID),0,0,x,())=_ from h,←r1]
 cases r<;>rfl
theorem z0c {c:Circ} (h:FitP c) {o:Hold} (ho:o∈c.Holds):rng 0 9 o.Rank=true∧o.ID≠0:=by
 have:=z0d h.holds ho
 unfold zbw at this
 have:=zdi this (by decide)
 simp only[Bool.or_eq_false_iff,decide_eq_false_iff_not]at this
 obtain ⟨⟨hx,h1⟩,h2⟩:=this
 refine ⟨by rw[zcf];omega,?_⟩
 have:=hx.1.1.1.1.1.1.1.1.1.1
 omega
end Go.Proofs.YtdahfgialanmpaaGreatDoor
namespace Go.Proofs.YtdahfgialanmpaaGreatDoor
open Ev
open Go (IntKind)
end Go.Proofs.YtdahfgialanmpaaGreatDoor
namespace Go.Proofs.YtdahfgialanmpaaGreatDoor
open Ev
open Go (IntKind)
def zew (c:Circ) (l:List Hold):Circ:=⟨c.Today,c.Items,c.Patrons,c.Loans,l,c.Charges,c.Rules,c.Cals,c.Moves,c.NextHold,c.NextCharge,c.Local⟩
theorem zgc (c:Circ) (l:List Hold) (e:Int) (he:e≠0):qck l e ⟨c,0⟩=some ((),⟨zew c c.Holds,e⟩):=by
 have h:(e==0)=false:=by simpa using he
 unfold qck qt
 simp only[h,Bool.not_false,cond_true,beq_self_eq_true,cond_false]
 try rfl
end Go.Proofs.YtdahfgialanmpaaGreatDoor
namespace Go.Proofs.YtdahfgialanmpaaGreatDoor
open Ev
open Go (IntKind)
def zmg {X:Type} (i:Int) (upd:X→X):Nat→List X→List X
 |_,[]=>[]
 |k,x::l=>(bif (k:Int)==i then upd x else x)::zmg i upd (k+1) l
theorem z16 {X:Type} {i:Nat} {upd:X→X}:∀{l:List X} {k:Nat},i<k→zmg (i:Int) upd k l=l:=by
 intro l
 induction l with
 |nil=>intros;rfl
 |cons x l ih=>
  intro k h
  have:((k:Int)==(i:Int))=false:=by
   have hne:¬(k:Int)=(i:Int):=by omega
   simpa using hne
  simp only[zmg,this,cond_false]
  rw[ih (by omega)]
theorem zaa5 {X:Type} {upd:X→X} {x:X}:∀{l:List X} {k j:Nat},l[j]?=some x→zmg ((k+j:Nat):Int) upd k l=l.set j (upd x):=by
 intro l
 induction l with
 |nil=>intro k j h;simp at h
 |cons y l ih=>
  intro k j h
  cases j with
  |zero=>
   simp at h
   subst h
   have:((k:Int)==((k+0:Nat):Int))=true:=by simp
   simp only[zmg,this,cond_true,List.set_cons_zero]
   rw[z16 (by omega)]
  |succ j=>
   have hne:((k:Int)==((k+(j+1):Nat):Int))=false:=by
    have:¬(k:Int)=((k+(j+1):Nat):Int):=by omega
    simpa using this
   simp only[zmg,hne,cond_false,List.set_cons_succ]
   have:=ih (k:=k+1) (j:=j) (by simpa using h)
   rw[show k+1+j=k+(j+1) by omega]at this
   rw[this]
theorem z8o {X β:Type} {i:Int} {upd:X→X} {g:List X→β}:∀{l:List X} {k:Nat} {s:List X},zcu (fun (k:Nat) x (s:List X)=>.inl (s++[bif (k:Int)==i then upd x else x])) g k l s=g (s++zmg i upd k l):=by
 intro l
 induction l with
 |nil=>intro k s;simp[zcu,zmg]
 |cons x l ih=>intro k s;simp only[zcu,zmg];rw[ih];simp
def zmh (u:Custody) (x:Item):Item:=⟨x.ID,x.Record,x.Branch,x.Kind,x.Price,x.Call,u⟩
def ziq (c:Circ) (i:Nat) (x:Item) (m:Move) (u:Custody):Circ:=⟨c.Today,c.Items.set i (zmh u x),c.Patrons,c.Loans,c.Holds,c.Charges,c.Rules,c.Cals,c.Moves++[m],c.NextHold,c.NextCharge,c.Local⟩
def zma (c:Circ) (e:Int):Int:=bif e==0&&decide (2000≤(c.Moves.length:Int)) then 13 else e
theorem zqw {c:Circ} {i:Nat} {x:Item} {kind branch who:Int} (hs:Short c) (hm:c.Moves.length<100000000) (hx:c.Items[i]?=some x) :
 qa1 (i:Int) kind branch who ⟨c,0⟩=some ((),bif zma c (zbf x.Custody ⟨c.Today,x.ID,kind,branch,who⟩).2==0 then ⟨ziq c i x ⟨c.Today,x.ID,kind,branch,who⟩ (zbf x.Custody ⟨c.Today,x.ID,kind,branch,who⟩).1,0⟩ else ⟨c,zma c (zbf x.Custody ⟨c.Today,x.ID,kind,branch,who⟩).2⟩):=by
 have hc1:qcn c.Items=some c.Items:=by unfold qcn;rw[zof hs.items];rfl
 have hc2:qdo c.Moves=some c.Moves:=by unfold qdo;rw[zof hs.moves];rfl
 have l1:decide (c.Moves.length+([(⟨c.Today,x.ID,kind,branch,who⟩:Move)]:List Move).length≤LIM)=true:=zj9 (by simp;omega)
 unfold qa1 zma
 simp -zeta only[beq_self_eq_true,Bool.not_true,cond_false,zaj,hx,za0p,za8]
 generalize zbf x.Custody ⟨c.Today,x.ID,kind,branch,who⟩=q
 obtain ⟨u,e⟩:=q
 dsimp only
 cases hb:(e==0&&decide (2000≤(c.Moves.length:Int))) with
 |true=>
  simp only[cond_true,qt,beq_self_eq_true]
  try rfl
 |false=>
  simp only[cond_false]
  cases he:e==0 with
  |true=>
   have:e=0:=by simpa using he
   subst this
   simp only[Bool.not_true,cond_false,cond_true,hc1,hc2,zaj,hx,Int.toNat_natCast,l1]
   try rfl
  |false=>
   simp only[Bool.not_false,cond_true,cond_false,qt,beq_self_eq_true]
theorem zuz {c:Circ} {i:Nat} {m:Move} {u:Custody} (hs:Short c):zae zgn ((i:Int),0,c,zfu,m,u,[],())=some (c,zfu,m,zmg (i:Int) (zmh u) 0 c.Items,()):=by
 have h:=zcc (step:=zgn) (fun (k:Nat) (s:List Item)=>s.length≤k) (fun k s=>((i:Int),(k:Int),c,zfu,m,u,s,())) c.Items
  (fun k x s=>.inl (s++[bif (k:Int)==(i:Int) then zmh u x else x])) (fun s=>(c,zfu,m,s,())) (by rw[zbb];have:=hs.items;omega)
  (fun s _=>by simp only[zgn,dge,cond_false])
  (fun k x s hx hi=>by
   have hlt:=(List.getElem?_eq_some_iff.1 hx).1
   have:=hs.items
   have l1:∀y:Item,decide (s.length+([y]:List Item).length≤LIM)=true:=fun y=>zj9 (by simp;omega)
   refine ⟨?_,fun s' hs'=>?_⟩
   ·simp only[zgn,dlt hlt,zaj,hx,cond_true,l1,zaq (show k<9223372036854775807 by omega)]
    cases (k:Int)==(i:Int)<;>rfl
   ·cases hs'
    simp
    omega) [] (by simp)
 rw[z8o]at h
 exact h
theorem zaz3 {c:Circ} {item:Int} {i:Nat} {x:Item} {kind branch who:Int} (hs:Short c) (hm:c.Moves.length<100000000) (hat:qi c item=some (i:Int)) (hx:c.Items[i]?=some x) (hid:x.ID=item) :
 qal c item kind branch who=some (bif zma c (zbf x.Custody ⟨c.Today,x.ID,kind,branch,who⟩).2==0 then (ziq c i x ⟨c.Today,x.ID,kind,branch,who⟩ (zbf x.Custody ⟨c.Today,x.ID,kind,branch,who⟩).1,0) else (zfu,zma c (zbf x.Custody ⟨c.Today,x.ID,kind,branch,who⟩).2)):=by
 subst hid
 unfold qal zma
 rw[hat]
 simp only[zaj,hx,zakl]
 generalize zbf x.Custody ⟨c.Today,x.ID,kind,branch,who⟩=q
 obtain ⟨u,e⟩:=q
 simp only
 cases he:e==0 with
 |false=>simp only[Bool.not_false,cond_true,Bool.false_and,cond_false,he];rfl
 |true=>
  have:e=0:=by simpa using he
  subst this
  simp only[Bool.not_true,cond_false,Bool.true_and]
  cases decide (2000≤(c.Moves.length:Int)) with
  |true=>rfl
  |false=>
   have hw:=zuz (i:=i) (m:=⟨c.Today,x.ID,kind,branch,who⟩) (u:=u) hs
   have l1:decide (c.Moves.length≤LIM)=true:=by rw[decide_eq_true_eq];unfold LIM;omega
   have l2:decide (c.Moves.length+([(⟨c.Today,x.ID,kind,branch,who⟩:Move)]:List Move).length≤LIM)=true:=zj9 (by simp;omega)
   have es:=zaa5 (upd:=zmh u) (l:=c.Items) (k:=0) (j:=i) hx
   rw[Nat.zero_add]at es
   rw[es]at hw
   simp only[cond_false]
   rw[show zae zgn ((i:Int),0,c,(⟨0,[],[],[],[],[],[],⟨⟨0,[]⟩,⟨0,[]⟩,⟨0,[]⟩,⟨0,[]⟩⟩,[],0,0,false⟩:Circ),(⟨c.Today,x.ID,kind,branch,who⟩:Move),u,([]:List Item),())=_ from hw]
   simp only[l1,l2,cond_true]
   try rfl
end Go.Proofs.YtdahfgialanmpaaGreatDoor
namespace Go.Proofs.YtdahfgialanmpaaGreatDoor
open Ev
open Go (IntKind)
theorem zsx {branch:Int} {vlocal:Bool} {x:Item}:∀{q:List Hold} {f:Int},zgj branch vlocal x q f=f∨∃h∈q,zgj branch vlocal x q f=h.ID:=by
 intro q
 induction q with
 |nil=>intro f;exact .inl rfl
 |cons h q ih=>
  intro f
  have lift:∀g:Int,(zgj branch vlocal x q g=g∨∃o∈q,zgj branch vlocal x q g=o.ID)→(g=f∨g=h.ID)→(zgj branch vlocal x q g=f∨∃o∈h::q,zgj branch vlocal x q g=o.ID):=by
   intro g hg hgf
   rcases hg with hg|⟨o,ho,hg⟩
   ·rcases hgf with e|e
    ·exact .inl (by rw[hg,e])
    ·exact .inr ⟨h,List.mem_cons_self ..,by rw[hg,e]⟩
   ·exact .inr ⟨o,List.mem_cons_of_mem _ ho,hg⟩
  simp only[zgj,zsw]
  cases (!(h.Item==0)&&!(h.Item==x.ID)) with
  |true=>exact lift f ih (.inl rfl)
  |false=>
   cases (vlocal&&h.Pickup==branch) with
   |true=>exact .inr ⟨h,List.mem_cons_self ..,rfl⟩
   |false=>
    cases f==0 with
    |true=>exact lift h.ID ih (.inr rfl)
    |false=>exact lift f ih (.inl rfl)
end Go.Proofs.YtdahfgialanmpaaGreatDoor
namespace Go.Proofs.YtdahfgialanmpaaGreatDoor
open Ev
open Go (IntKind)
end Go.Proofs.YtdahfgialanmpaaGreatDoor
namespace Go.Proofs.YtdahfgialanmpaaGreatDoor
open Ev
open Go (IntKind)
end Go.Proofs.YtdahfgialanmpaaGreatDoor
namespace Go.Proofs.YtdahfgialanmpaaGreatDoor
open Ev
open Go (IntKind)
end Go.Proofs.YtdahfgialanmpaaGreatDoor
namespace Go.Proofs.YtdahfgialanmpaaGreatDoor
open Ev
open Go (IntKind)
theorem zur {c:Circ} {i:Nat} {x:Item} {m:Move} {u:Custody} (hs:Short c) (hm:c.Moves.length<100000000) (hx:c.Items[i]?=some x):Short (ziq c i x m u):=by
 obtain ⟨h1,h2,h3,h4,h5,h6,h7,h8,h9,h10,h11,h12,h13⟩:=hs
 refine ⟨?_,h2,h3,h4,h5,h6,?_,fun z hz=>?_,h9,h10,h11,h12,h13⟩
 ·show (c.Items.set i _).length<_
  rw[List.length_set];exact h1
 ·show (c.Moves++[m]).length<_
  simp;omega
 ·rcases List.mem_or_eq_of_mem_set hz with h|h
  ·exact h8 z h
  ·rw[h];exact h8 x (List.mem_of_getElem? hx)
theorem zjs {c:Circ} {l:List Hold} (hs:Short c) (hl:l.length<1000000000):Short (zew c l):=by
 obtain ⟨h1,h2,h3,h4,h5,h6,h7,h8,h9,h10,h11,h12,h13⟩:=hs
 exact ⟨h1,h2,h3,hl,h5,h6,h7,h8,h9,h10,h11,h12,h13⟩
end Go.Proofs.YtdahfgialanmpaaGreatDoor
namespace Go.Proofs.YtdahfgialanmpaaGreatDoor
open Ev
open Go (IntKind)
theorem zib {c:Circ} {id:Int} (hs:Short c):qcw id ⟨c,0⟩=some (fIdx (fun x=>x.ID==id) c.Items,⟨c,bif decide (fIdx (fun x=>x.ID==id) c.Items<0) then 9 else 0⟩):=by
 unfold qcw
 simp only[zazy hs.items]
 cases decide (fIdx (fun x:Item=>x.ID==id) c.Items<0)<;>rfl
end Go.Proofs.YtdahfgialanmpaaGreatDoor
namespace Go.Proofs.YtdahfgialanmpaaGreatDoor
open Ev
open Go (IntKind)
structure MidP (c:Circ):Prop where
 short:Short c
 moves:c.Moves.length<10000000
 holdsN:c.Holds.length<1000000
 sorted:∀(i:Nat) (x:Hold),c.Holds[i]?=some x→zbx c.Holds i (fun y=>decide (x.ID≤y.ID))=false
 rank:∀o∈c.Holds,rng 0 9 o.Rank=true∧o.ID≠0
 few:∀r,(c.Holds.filter (fun o=>o.Record==r)).length<20
 cal:∀b,CalOk (calS c b)
 rules:∀r∈c.Rules,zny r=true
 branch:∀x∈c.Items,rng 1 4 x.Custody.Branch=true
 ids:∀(i:Nat) (x:Item) (j:Nat) (y:Item),c.Items[i]?=some x→c.Items[j]?=some y→x.ID=y.ID→i=j
 chN:c.Charges.length<1000000
theorem zarf {c:Circ} (hm:SmallP c) (h:FitP c):MidP c:=by
 refine ⟨hm.short,by have:=hm.moves;omega,by have:=hm.holds;omega,zq3 h.holds,fun o ho=>z0c h ho,fun r=>?_,zal9 h,fun r hr=>zas9 h hr,fun x hx=>z0a h hx,fun i x j y hx hy e=>?_,by have:=hm.charges;omega⟩
 ·have:=List.length_filter_le (fun o:Hold=>o.Record==r) c.Holds
  have:=hm.holds
  omega
 ·have hs:=zrc h.items
  rcases Nat.lt_trichotomy i j with hl|hl|hl
  ·have:=zd5 (key:=fun y:Item=>y.ID) hs j i x y hl hx hy;omega
  ·exact hl
  ·have:=zd5 (key:=fun y:Item=>y.ID) hs i j y x hl hy hx;omega
theorem zy0 {c:Circ} (h:MidP c) {i:Nat} {x:Item} (hx:c.Items[i]?=some x):qi c x.ID=some (i:Int):=by
 rw[zafy h.short.items]
 rcases zbv (fun y:Item=>y.ID==x.ID) c.Items with ⟨h1,h2⟩|⟨j,y,h1,h2,h3,h4⟩
 ·have:=List.find?_eq_none.1 h2 x (List.mem_of_getElem? hx)
  simp at this
 ·rw[h1,h.ids i x j y hx h2 (by simpa using (by simpa using h3:y.ID=x.ID).symm)]
theorem zdm {X Y:Type} {f:X→Y} {l:List X} {j:Nat} {x y:X} (hx:l[j]?=some x) (hf:f y=f x):(l.set j y).map f=l.map f:=by
 rw[List.map_set,hf]
 apply List.ext_getElem?
 intro k
 rw[List.getElem?_set]
 split
 ·rename_i e
  subst e
  split
  ·rw[List.getElem?_map,hx];rfl
  ·rename_i hk
   have:=(List.getElem?_eq_some_iff.1 hx).1
   exact absurd (by simpa using this) hk
 ·rfl
theorem zarg {l m:List Item} (e:m.map (fun x=>x.ID)=l.map (fun x=>x.ID)) (h:∀(i:Nat) (x:Item) (j:Nat) (y:Item),l[i]?=some x→l[j]?=some y→x.ID=y.ID→i=j) :
 ∀(i:Nat) (x:Item) (j:Nat) (y:Item),m[i]?=some x→m[j]?=some y→x.ID=y.ID→i=j:=by
 have key:∀(i:Nat) (x:Item),m[i]?=some x→∃x',l[i]?=some x'∧x'.ID=x.ID:=by
  intro i x hx
  have h1:(m.map (fun x=>x.ID))[i]?=some x.ID:=by rw[List.getElem?_map,hx];rfl
  rw[e,List.getElem?_map]at h1
  cases hl:l[i]? with
  |none=>rw[hl]at h1;cases h1
  |some x'=>rw[hl]at h1;exact ⟨x',rfl,by simpa using h1⟩
 intro i x j y hx hy hxy
 obtain ⟨x',hx',ex⟩:=key i x hx
 obtain ⟨y',hy',ey⟩:=key j y hy
 exact h i x' j y' hx' hy' (by rw[ex,ey,hxy])
theorem z7k {c:Circ} (h:MidP c) {i:Nat} {x:Item} (hx:c.Items[i]?=some x) {m:Move} {u:Custody} (hu:rng 1 4 u.Branch=true) (hl:c.Moves.length<5000000):MidP (ziq c i x m u):=by
 refine ⟨zur h.short (by omega) hx,?_,h.holdsN,h.sorted,h.rank,h.few,h.cal,h.rules,fun y hy=>?_,?_,h.chN⟩
 ·show (c.Moves++[m]).length<_
  simp;omega
 ·rcases List.mem_or_eq_of_mem_set hy with hy|hy
  ·exact h.branch y hy
  ·rw[hy];exact hu
 ·exact zarg (zdm hx rfl) h.ids
theorem zl0 {c:Custody} {m:Move} {u:Custody} (h:zbf c m=(u,0)):rng 1 4 u.Branch=true:=by
 have:=zgt (c:=c) (m:=m) (by rw[h];rfl)
 rw[h]at this
 exact this
theorem zhd {c:Circ} (h:MidP c) {i:Nat} {x:Item} (hx:c.Items[i]?=some x) (kind branch who:Int) :
 (∃u,zbf x.Custody ⟨c.Today,x.ID,kind,branch,who⟩=(u,0)∧qa1 (i:Int) kind branch who ⟨c,0⟩=some ((),⟨ziq c i x ⟨c.Today,x.ID,kind,branch,who⟩ u,0⟩)∧
  qal c x.ID kind branch who=some (ziq c i x ⟨c.Today,x.ID,kind,branch,who⟩ u,0)∧MidP (ziq c i x ⟨c.Today,x.ID,kind,branch,who⟩ u))∨
 (∃e,e≠0∧qa1 (i:Int) kind branch who ⟨c,0⟩=some ((),⟨c,e⟩)∧qal c x.ID kind branch who=some (zfu,e)):=by
 have hmv:=h.moves
 have dm:=zqw (kind:=kind) (branch:=branch) (who:=who) h.short (by omega) hx
 have rm:=zaz3 (kind:=kind) (branch:=branch) (who:=who) h.short (by omega) (zy0 h hx) hx rfl
 rw[dm,rm]
 cases ha:zbf x.Custody ⟨c.Today,x.ID,kind,branch,who⟩ with
 |mk u e=>
  by_cases hE:zma c e=0
  ·left
   simp only[hE,beq_self_eq_true,cond_true]
   have he:e=0∧c.Moves.length<2000:=by
    unfold zma at hE
    cases hb:(e==0&&decide (2000≤(c.Moves.length:Int))) with
    |true=>rw[hb]at hE;cases hE
    |false=>
     rw[hb]at hE
     simp only[cond_false]at hE
     subst hE
     simp only[beq_self_eq_true,Bool.true_and,decide_eq_false_iff_not]at hb
     exact ⟨rfl,by omega⟩
   obtain ⟨rfl,hlen⟩:=he
   exact ⟨u,rfl,rfl,rfl,z7k h hx (zl0 ha) (by omega)⟩
  ·right
   have hE2:(zma c e==0)=false:=by simpa using hE
   simp only[hE2,cond_false]
   exact ⟨zma c e,hE,rfl,rfl⟩
theorem zafu {c:Circ} (h:MidP c) {i:Nat} {x:Item} (hx:c.Items[i]?=some x):∃v,qdj c x=some v∧qfw c x.ID=some v∧(getH c.Holds v).2=!(v==0)∧(v≠0→∃o∈c.Holds,o.ID=v∧getH c.Holds v=(o,true)∧zb6 x.Record c.Today o=true):=by
 have hf:(c.Holds.filter (zb6 x.Record c.Today)).length<20:=by
  have e:c.Holds.filter (zb6 x.Record c.Today)=(c.Holds.filter (fun o=>o.Record==x.Record)).filter (zb6 x.Record c.Today):=by
   rw[List.filter_filter]
   apply List.filter_congr
   intro o _
   unfold zb6
   cases o.Record==x.Record<;>simp
  rw[e]
  have:=List.length_filter_le (zb6 x.Record c.Today) (c.Holds.filter (fun o=>o.Record==x.Record))
  have:=h.few x.Record
  omega
 have q1:=za0e (l:=c.Holds) (x:=x) (branch:=x.Custody.Branch) (day:=c.Today) (vlocal:=c.Local) h.holdsN hf (fun o ho=>(h.rank o ho).1)
 have q2:=za0h (l:=c.Holds) (x:=x) (branch:=x.Custody.Branch) (day:=c.Today) (vlocal:=c.Local) h.holdsN h.sorted
 rw[z7q (fun o ho=>(h.rank o (List.mem_filter.1 (zf2 ho)).1).2) (fun _=>rfl)]at q1
 refine ⟨_,by unfold qdj;rw[q1],by unfold qfw;rw[zy0 h hx];simp only[zaj,hx,q2],?_,?_⟩
 ·rcases zsx (branch:=x.Custody.Branch) (vlocal:=c.Local) (x:=x) (q:=za4 (c.Holds.filter (zb6 x.Record c.Today))) (f:=0) with e|⟨o,ho,e⟩
  ·rw[e]
   unfold getH
   have:c.Holds.find? (fun h=>h.ID==0)=none:=by
    rw[List.find?_eq_none]
    intro o ho
    have:=(h.rank o ho).2
    simpa using this
   rw[this]
   try rfl
  ·rw[e]
   have hm:=(List.mem_filter.1 (zf2 ho)).1
   rw[zg3 h.sorted hm]
   have:=(h.rank o hm).2
   simp[this]
 ·intro hv
  rcases zsx (branch:=x.Custody.Branch) (vlocal:=c.Local) (x:=x) (q:=za4 (c.Holds.filter (zb6 x.Record c.Today))) (f:=0) with e|⟨o,ho,e⟩
  ·exact absurd e hv
  ·have hm:=List.mem_filter.1 (zf2 ho)
   exact ⟨o,hm.1,e.symm,by rw[e];exact zg3 h.sorted hm.1,hm.2⟩
end Go.Proofs.YtdahfgialanmpaaGreatDoor
namespace Go.Proofs.YtdahfgialanmpaaGreatDoor
open Ev
open Go (IntKind)
theorem zazl {α:Type} (a b:Bool) (x y:α):(bif a then (bif b then x else y) else y)=bif a&&b then x else y:=by cases a<;>rfl
def okS (state u:Int):Bool:=(state==3&&rng 1 109572 u)||(state==2&&u==0)
def gotH (x:Hold) (item state u:Int):Hold:=⟨x.ID,x.Patron,x.Record,x.Item,x.Pickup,x.Placed,state,item,u,x.Asleep,x.Rank⟩
def zfj (l:List Hold) (id item state u:Int):List Hold×Int:=
 match l.find? (fun h=>h.ID==id) with
 |none=>([],9)
 |some x=>bif !(rng 1 9999 item)||!(okS state u) then ([],1)
  else bif !(x.State==1)&&((!(x.State==2)||!(x.Got==item))||!(state==3)) then ([],12)
  else bif l.any (fun o=>o.Got==item&&!(o.ID==id)) then ([],7)
  else (l.set (fIdx (fun h=>h.ID==id) l).toNat (gotH x item state u),0)
theorem zzx {l:List Hold} (hl:l.length<1000000000):qdq l=some l:=by
 unfold qdq;rw[zof hl];rfl
theorem za0m {l:List Hold} {i:Nat} {x y:Hold} (hl:l.length<1000000000) (hx:l[i]?=some x):qe0 l (i:Int) y=some (l.set i y):=by
 unfold qe0
 simp only[zzx hl,zaj,hx,Int.toNat_natCast]
theorem zasp (state u:Int):(!(okS state u))=(!(state==3&&rng 1 109572 u)&&(!(state==2)||!(u==0))):=by
 unfold okS
 cases (state==3&&rng 1 109572 u)<;>cases state==2<;>cases u==0<;>rfl
theorem zaj4 {l:List Hold} {id item state u:Int} (hl:l.length<1000000000):qao l id item state u=some (zfj l id item state u):=by
 unfold qao qbf zfj
 rw[z71 (p:=fun (g:Unit×Int×Unit) x0=>qee x0 g.2.1) (g:=((),(id,()))) (fun x=>x.ID==id) hl (fun x _=>rfl)]
 have hc:=zas1 (p:=fun (g:Unit×Int×Int×Unit) x0=>qcr x0 g.2.1 g.2.2.1) (g:=((),(item,id,()))) (fun o=>o.Got==item&&!(o.ID==id)) hl (fun o _=>by
  simp -zeta only[qcr,za8];rfl)
 rcases zbv (fun x:Hold=>x.ID==id) l with ⟨h1,h2⟩|⟨i,x,h1,h2,h3,h4⟩
 ·simp only[h1,h2,zt9,cond_true]
 ·simp -zeta only[h1,h4,zoy,cond_false,zaj,h2,za0d,k_or,za8,zhu,Int.toNat_natCast]
  dsimp only
  rw[zasp]
  cases (!(rng 1 9999 item)||(!(state==3&&rng 1 109572 u)&&(!(state==2)||!(u==0)))) with
  |true=>rfl
  |false=>
   simp only[cond_false,zazl]
   cases (!(x.State==1)&&((!(x.State==2)||!(x.Got==item))||!(state==3))) with
   |true=>rfl
   |false=>
    simp only[cond_false,hc]
    cases l.any (fun o=>o.Got==item&&!(o.ID==id)) with
    |true=>rfl
    |false=>simp only[cond_false,za0m hl h2];rfl
theorem zas0 {l:List Hold} {y:Hold} (hl:l.length<1000000000):qbq l y=some (l.map (fun x=>bif x.ID==y.ID then y else x)):=by
 have h:=zcc (step:=znr) (fun (i:Nat) (s:List Hold)=>s.length≤i) (fun i s=>(l,(i:Int),y,s,())) l
  (fun i x s=>.inl (s++[bif x.ID==y.ID then y else x])) (fun s=>(s,())) (by rw[zbb];omega)
  (fun s _=>by simp only[znr,dge,cond_false])
  (fun i x s hx hi=>by
   have hlt:=(List.getElem?_eq_some_iff.1 hx).1
   have l1:∀z:Hold,decide (s.length+([z]:List Hold).length≤LIM)=true:=fun z=>zj9 (by simp;omega)
   refine ⟨?_,fun s' hs'=>?_⟩
   ·simp only[znr,dlt hlt,zaj,hx,cond_true,l1,zaq (show i<9223372036854775807 by omega)]
    cases x.ID==y.ID<;>rfl
   ·cases hs'
    simp
    omega) [] (by simp)
 rw[zh4]at h
 unfold qbq
 rw[show zae znr (l,0,y,([]:List Hold),())=_ from h]
 simp only
 congr 1
 have key:∀(l o:List Hold),l.foldl (fun s x=>s++[bif x.ID==y.ID then y else x]) o=o++l.map (fun x=>bif x.ID==y.ID then y else x):=by
  intro l
  induction l with
  |nil=>intro o;simp
  |cons x l ih=>intro o;rw[List.foldl_cons,ih];simp
 rw[key,List.nil_append]
theorem z0v {l:List Hold} (hsort:∀i x,l[i]?=some x→zbx l i (fun y=>decide (x.ID≤y.ID))=false) {i:Nat} {x y:Hold} (hx:l[i]?=some x) (hy:y.ID=x.ID):l.map (fun z=>bif z.ID==y.ID then y else z)=l.set i y:=by
 apply List.ext_getElem?
 intro j
 rw[List.getElem?_map,List.getElem?_set]
 have hlt:=(List.getElem?_eq_some_iff.1 hx).1
 split
 ·rename_i e
  subst e
  simp only[hx,Option.map_some,hlt,if_true,hy,beq_self_eq_true,cond_true]
 ·rename_i e
  cases hj:l[j]? with
  |none=>rfl
  |some z=>
   have hne:¬z.ID=y.ID:=by
    rw[hy]
    rcases Nat.lt_or_gt_of_ne e with h|h
    ·have:=zd5 (key:=fun y:Hold=>y.ID) hsort j i x z h hx hj;omega
    ·have:=zd5 (key:=fun y:Hold=>y.ID) hsort i j z x h hj hx;omega
   have hb:(z.ID==y.ID)=false:=by simpa using hne
   simp only[Option.map_some,hb,cond_false]
theorem zaso (state u:Int):((!(state==2)&&!(state==3))||(state==3&&(decide (u<1)||!(rng 0 109572 u)))||(state==2&&!(u==0)))=!(okS state u):=by
 unfold okS
 by_cases h3:state=3
 ·subst h3
  unfold rng
  by_cases h1:u<1
  ·have:¬1≤u:=by omega
   simp[h1,this]
  ·have a:1≤u:=by omega
   have b:0≤u:=by omega
   simp[h1,a,b]
 ·have e3:(state==3)=false:=by simpa using h3
  rw[e3]
  cases state==2<;>cases u==0<;>rfl
theorem zakb {l:List Hold} {id item state u:Int} (hl:l.length<1000000000) (hsort:∀i x,l[i]?=some x→zbx l i (fun y=>decide (x.ID≤y.ID))=false):qbk l id item state u=some (zfj l id item state u):=by
 unfold qbk zfj
 rw[z7y hl]
 unfold getH
 rcases zbv (fun x:Hold=>x.ID==id) l with ⟨h1,h2⟩|⟨i,x,h1,h2,h3,h4⟩
 ·rw[h2];rfl
 ·have hxid:x.ID=id:=by simpa using h3
  have hw:=zbo (step:=znp) (fun i=>(l,id,item,state,u,(i:Int),x,())) l (fun o=>!(o.ID==id)&&o.Got==item) (fun _ _=>(.inr ([],7,()):(List Hold×Int×Int×Int×Hold×Unit)⊕(List Hold×Int×Unit))) (.inl (l,item,state,u,x,())) hl
   (by simp only[znp,dge,cond_false])
   (fun j y hy=>by
    have hlt:=(List.getElem?_eq_some_iff.1 hy).1
    simp -zeta only[znp,dlt hlt,zaj,hy,cond_true,za8,zaq (show j<9223372036854775807 by omega)]
    rfl)
  rw[zhr]at hw
  rw[h4]
  simp -zeta only[Bool.not_true,cond_false,zaki,zako,k_or,za8,zhu,h1,Int.toNat_natCast]
  dsimp only
  rw[←zaso]
  have eb:∀a b c d:Bool,((a||b||c)||d)=(a||(b||c||d)):=by decide
  cases hq:(!(rng 1 9999 item)||(!(state==2)&&!(state==3)||(state==3&&(decide (u<1)||!(rng 0 109572 u)))||(state==2&&!(u==0)))) with
  |true=>
   rw[←eb]at hq
   rw[hq]
   try rfl
  |false=>
   rw[←eb]at hq
   rw[hq]
   simp only[cond_false,zazl]
   cases (!(x.State==1)&&((!(x.State==2)||!(x.Got==item))||!(state==3))) with
   |true=>rfl
   |false=>
    simp only[cond_false]
    rw[show zae znp (l,id,item,state,u,0,x,())=_ from hw]
    have ea:l.any (fun o=>o.Got==item&&!(o.ID==id))=(l.find? (fun o=>!(o.ID==id)&&o.Got==item)).isSome:=by
     rw[Bool.eq_iff_iff,List.find?_isSome,List.any_eq_true]
     constructor
     ·rintro ⟨o,ho,hp⟩;exact ⟨o,ho,by rw[Bool.and_comm];exact hp⟩
     ·rintro ⟨o,ho,hp⟩;exact ⟨o,ho,by rw[Bool.and_comm];exact hp⟩
    rw[ea]
    cases l.find? (fun o=>!(o.ID==id)&&o.Got==item) with
    |some o=>rfl
    |none=>
     simp only[Option.isSome_none,cond_false]
     have:=zas0 (l:=l) (y:=gotH x item state u) hl
     rw[z0v hsort h2 (y:=gotH x item state u) rfl]at this
     rw[show qbq l (⟨x.ID,x.Patron,x.Record,x.Item,x.Pickup,x.Placed,state,item,u,x.Asleep,x.Rank⟩:Hold)=_ from this]
def zcn (o:Hold):Int×Int×Int:=(o.ID,o.Rank,o.Record)
theorem zq2 {c:Circ} (h:MidP c) {l:List Hold} (e:l.map zcn=c.Holds.map zcn):MidP (zew c l):=by
 have hlen:l.length=c.Holds.length:=by have:=congrArg List.length e;simpa using this
 have key:∀(i:Nat) (x:Hold),l[i]?=some x→∃x',c.Holds[i]?=some x'∧zcn x'=zcn x:=by
  intro i x hx
  have h1:(l.map zcn)[i]?=some (zcn x):=by rw[List.getElem?_map,hx];rfl
  rw[e,List.getElem?_map]at h1
  cases hl:c.Holds[i]? with
  |none=>rw[hl]at h1;cases h1
  |some x'=>rw[hl]at h1;exact ⟨x',rfl,by simpa using h1⟩
 refine ⟨zjs h.short (by rw[hlen];exact h.short.holds),h.moves,?_,?_,?_,?_,h.cal,h.rules,h.branch,h.ids,h.chN⟩
 ·show l.length<_;rw[hlen];exact h.holdsN
 ·intro i x hx
  obtain ⟨x',hx',ek⟩:=key i x hx
  have hs:=h.sorted i x' hx'
  cases i with
  |zero=>rfl
  |succ j=>
   show zbx l (j+1) _=false
   unfold zbx at hs ⊢
   simp only at hs ⊢
   cases hj:l[j]? with
   |none=>rfl
   |some y=>
    obtain ⟨y',hy',ey⟩:=key j y hj
    rw[hy']at hs
    unfold zcn at ek ey
    simp only[Prod.mk.injEq]at ek ey
    simp only at hs;rw[ek.1,ey.1]at hs
    exact hs
 ·intro o ho
  obtain ⟨i,hi⟩:=List.getElem?_of_mem ho
  obtain ⟨x',hx',ek⟩:=key i o hi
  have:=h.rank x' (List.mem_of_getElem? hx')
  unfold zcn at ek
  simp only[Prod.mk.injEq]at ek
  rw[←ek.1,←ek.2.1]
  exact this
 ·intro r
  have e1:∀m:List Hold,(m.filter (fun o=>o.Record==r)).length=((m.map zcn).filter (fun k=>k.2.2==r)).length:=by
   intro m
   rw[List.filter_map,List.length_map]
   try rfl
  show (l.filter (fun o=>o.Record==r)).length<20
  rw[e1,e,←e1]
  exact h.few r
theorem zml {l:List Hold} {id item state u:Int} (h:(zfj l id item state u).2=0):(zfj l id item state u).1.map zcn=l.map zcn:=by
 unfold zfj at h ⊢
 rcases zbv (fun x:Hold=>x.ID==id) l with ⟨h1,h2⟩|⟨i,x,h1,h2,h3,h4⟩
 ·rw[h2]at h;cases h
 ·rw[h4]at h ⊢
  simp only at h ⊢
  cases hq:(!(rng 1 9999 item)||!(okS state u)) with
  |true=>rw[hq]at h;cases h
  |false=>
   rw[hq]at h
   simp only[cond_false]at h ⊢
   cases hq2:(!(x.State==1)&&((!(x.State==2)||!(x.Got==item))||!(state==3))) with
   |true=>rw[hq2]at h;cases h
   |false=>
    rw[hq2]at h
    simp only[cond_false]at h ⊢
    cases hq3:l.any (fun o=>o.Got==item&&!(o.ID==id)) with
    |true=>rw[hq3]at h;cases h
    |false=>
     simp only[cond_false,h1,Int.toNat_natCast]
     exact zdm h2 rfl
end Go.Proofs.YtdahfgialanmpaaGreatDoor
namespace Go.Proofs.YtdahfgialanmpaaGreatDoor
open Ev
open Go (IntKind)
structure Frame (c d:Circ):Prop where
 ids:d.Items.map (fun x=>x.ID)=c.Items.map (fun x=>x.ID)
 holds:d.Holds.map zcn=c.Holds.map zcn
 patrons:d.Patrons=c.Patrons
 loans:d.Loans=c.Loans
 charges:d.Charges=c.Charges
 rules:d.Rules=c.Rules
 cals:d.Cals=c.Cals
 today:d.Today=c.Today
 here:d.Local=c.Local
 nh:d.NextHold=c.NextHold
 nc:d.NextCharge=c.NextCharge
 br:d.Items.map (fun x=>x.Custody.Branch)=c.Items.map (fun x=>x.Custody.Branch)
 recs:d.Items.map (fun x=>x.Record)=c.Items.map (fun x=>x.Record)
theorem Frame.refl (c:Circ):Frame c c:=⟨rfl,rfl,rfl,rfl,rfl,rfl,rfl,rfl,rfl,rfl,rfl,rfl,rfl⟩
theorem Frame.trans {a b c:Circ} (h:Frame a b) (k:Frame b c):Frame a c:=
 ⟨k.ids.trans h.ids,k.holds.trans h.holds,k.patrons.trans h.patrons,k.loans.trans h.loans,k.charges.trans h.charges,k.rules.trans h.rules,k.cals.trans h.cals,k.today.trans h.today,k.here.trans h.here,k.nh.trans h.nh,k.nc.trans h.nc,k.br.trans h.br,k.recs.trans h.recs⟩
theorem zks {c:Circ} {i:Nat} {x:Item} (hx:c.Items[i]?=some x) (m:Move) {u:Custody} (hu:u.Branch=x.Custody.Branch):Frame c (ziq c i x m u):=
 ⟨zdm hx rfl,rfl,rfl,rfl,rfl,rfl,rfl,rfl,rfl,rfl,rfl,zdm hx hu,zdm hx rfl⟩
theorem zjb {c:Custody} {m:Move} {u:Custody} (h:zbf c m=(u,0)) (hk:(zcs m.Kind==2)=false):u.Branch=c.Branch:=by
 unfold zbf at h
 cases e1:(!(zis c)||!(zmc m)) with
 |true=>rw[e1]at h;cases h
 |false=>
  rw[e1]at h
  simp only[cond_false]at h
  cases e2:!(zi7 c.State m.Kind) with
  |true=>rw[e2]at h;cases h
  |false=>
   rw[e2]at h
   simp only[cond_false]at h
   cases e3:(m.Kind==3&&c.State==5&&!(m.Who==c.Who)) with
   |true=>rw[e3]at h;cases h
   |false=>
    rw[e3]at h
    simp only[cond_false]at h
    cases e4:!(z79 c m) with
    |true=>rw[e4]at h;cases h
    |false=>
     rw[e4]at h
     simp only[cond_false,hk]at h
     cases e5:(zcs m.Kind==4||(zcs m.Kind==5||zcs m.Kind==8)) with
     |true=>rw[e5]at h;cases h;rfl
     |false=>
      rw[e5]at h
      simp only[cond_false]at h
      cases e6:(zcs m.Kind==6) with
      |true=>rw[e6]at h;cases h;rfl
      |false=>
       rw[e6]at h
       simp only[cond_false]at h
       cases e7:(zcs m.Kind==9||zcs m.Kind==10) with
       |true=>rw[e7]at h;cases h;rfl
       |false=>rw[e7]at h;cases h;rfl
theorem zfn {c:Circ} {l:List Hold} (e:l.map zcn=c.Holds.map zcn):Frame c (zew c l):=⟨rfl,e,rfl,rfl,rfl,rfl,rfl,rfl,rfl,rfl,rfl,rfl,rfl⟩
def SimD (a:Option (Unit×Circ_desk)) (b:Option (Circ×Int)) (Q:Circ→Prop):Prop:=
 (∃c,a=some ((),⟨c,0⟩)∧b=some (c,0)∧Q c)∨∃c e,e≠0∧a=some ((),⟨c,e⟩)∧b=some (zfu,e)∧Short c
def z2a (a b:Option (Circ×Int)):Prop:=∃c e,a=some (c,e)∧b=some (c,e)∧Short c
theorem zc2 {e:Int}:z2a (some (zfu,e)) (some (zfu,e)):=⟨_,_,rfl,rfl,zsu⟩
theorem zcr (c:Circ) (e0:Int) (h0:e0≠0):q8 ⟨c,e0⟩=some ((zfu,e0),⟨c,e0⟩):=by
 have h:(e0==0)=false:=by simpa using h0
 unfold q8
 simp only[h,Bool.not_false,cond_true]
 try rfl
theorem zox {c:Circ} (h:MidP c) {b n:Int} (hb:rng 1 4 b=true):∃d e,qel b n ⟨c,0⟩=some (d,⟨c,e⟩)∧qbw (calS c b) c.Today n=some (d,e):=by
 obtain ⟨d,e,hq⟩:=zmy (h.cal b) c.Today n
 refine ⟨d,e,?_,hq⟩
 unfold qel
 simp only[zakm hb,z7u (h.cal b),hq]
 by_cases he:e=0
 ·subst he;rfl
 ·have he2:(e==0)=false:=by simpa using he
  simp only[he2,Bool.not_false,cond_true,qt,beq_self_eq_true]
theorem zl2 {c:Circ} (h:MidP c) {b n e0:Int} (hb:rng 1 4 b=true) (h0:e0≠0):∃d,qel b n ⟨c,e0⟩=some (d,⟨c,e0⟩):=by
 obtain ⟨d,e,hq⟩:=zmy (h.cal b) c.Today n
 have h2:(e0==0)=false:=by simpa using h0
 refine ⟨d,?_⟩
 unfold qel
 simp only[zakm hb,z7u (h.cal b),hq]
 cases e==0<;>simp only[Bool.not_false,Bool.not_true,cond_true,cond_false,qt,h2]
theorem SimD.mono {a:Option (Unit×Circ_desk)} {b:Option (Circ×Int)} {Q R:Circ→Prop} (h:SimD a b Q) (hQ:∀d,Q d→R d):SimD a b R:=by
 rcases h with ⟨d,h1,h2,h3⟩|h
 ·exact .inl ⟨d,h1,h2,hQ d h3⟩
 ·exact .inr h
theorem z1u {c:Circ} (h:MidP c) {i:Nat} {x:Item} (hx:c.Items[i]?=some x) (o:Hold):SimD (qdr (i:Int) o ⟨c,0⟩) (qex c x.ID o) (fun d=>(MidP d∧Frame c d)∧(∃u,d.Items=c.Items.set i (zmh u x))∧∃st u,zfj c.Holds o.ID x.ID st u=(d.Holds,0)):=by
 obtain ⟨r,b,hr,_⟩:=zas8 (p:=o.Patron) (x:=x) h.short
 have hb:=h.branch x (List.mem_of_getElem? hx)
 unfold qdr qex
 simp -zeta only[beq_self_eq_true,Bool.not_true,cond_false,zy0 h hx,zaj,hx,zasz h.short,hr]
 rcases zhd h hx 5 x.Custody.Branch o.Patron with ⟨u,ha,m1,m2,hm2⟩|⟨e,he,m1,m2⟩
 ·have hf:=zks hx ⟨c.Today,x.ID,5,x.Custody.Branch,o.Patron⟩ (zjb ha rfl)
  rw[m1,m2]
  have hh:(ziq c i x ⟨c.Today,x.ID,5,x.Custody.Branch,o.Patron⟩ u).Holds=c.Holds:=rfl
  have hI:(ziq c i x ⟨c.Today,x.ID,5,x.Custody.Branch,o.Patron⟩ u).Items=c.Items.set i (zmh u x):=rfl
  generalize ziq c i x ⟨c.Today,x.ID,5,x.Custody.Branch,o.Patron⟩ u=c2 at hm2 hf hh hI
  dsimp only
  have core:∀days:Int,∃d e,qel x.Custody.Branch days ⟨c2,0⟩=some (d,⟨c2,e⟩)∧qbw (calS c2 x.Custody.Branch) c2.Today days=some (d,e):=fun days=>zox hm2 hb
  cases b
  all_goals
   simp only[cond_true,cond_false,beq_self_eq_true,Bool.not_true,za2i hb]
   obtain ⟨d,e,l1,l2⟩:=core _
   rw[l1,l2]
   by_cases he:e=0
   ·subst he
    simp only[beq_self_eq_true,Bool.not_true,cond_true,cond_false,zaj4 hm2.short.holds,zakb hm2.short.holds hm2.sorted]
    have ck:=zml (l:=c2.Holds) (id:=o.ID) (item:=x.ID) (state:=3) (u:=d)
    generalize hcq:zfj c2.Holds o.ID x.ID 3 d=q at ck
    obtain ⟨l,e⟩:=q
    by_cases he:e=0
    ·subst he
     exact .inl ⟨zew c2 l,rfl,rfl,⟨zq2 hm2 (ck rfl),hf.trans (zfn (ck rfl))⟩,⟨u,hI⟩,3,d,by rw[←hh];exact hcq⟩
    ·have he2:(e==0)=false:=by simpa using he
     simp only[zgc c2 l e he,he2,Bool.not_false,cond_true]
     exact .inr ⟨_,e,he,rfl,rfl,hm2.short⟩
   ·have he2:(e==0)=false:=by simpa using he
    simp only[he2,Bool.not_false,cond_true,cond_false]
    exact .inr ⟨_,e,he,rfl,rfl,hm2.short⟩
 ·have he2:(e==0)=false:=by simpa using he
  rw[m1,m2]
  dsimp only
  cases b
  all_goals
   simp only[cond_true,cond_false,he2,Bool.not_false]
   obtain ⟨d,l1⟩:=zl2 (n:=_) h hb he
   rw[l1]
   simp only[he2,cond_false]
   exact .inr ⟨_,e,he,rfl,rfl,h.short⟩
theorem zia {c:Circ} {i:Nat} {x:Item} (hx:c.Items[i]?=some x) (kind:Int):qcx (i:Int) kind ⟨c,0⟩=qa1 (i:Int) kind x.Custody.Branch 0 ⟨c,0⟩:=by
 unfold qcx
 simp only[beq_self_eq_true,cond_true,zaj,hx]
 cases qa1 (i:Int) kind x.Custody.Branch 0 ⟨c,0⟩ with
 |none=>rfl
 |some p=>rfl
theorem zgz (c:Circ) (i e0:Int) (h0:e0≠0):qco i ⟨c,e0⟩=some ((),⟨c,e0⟩):=by
 have h:(e0==0)=false:=by simpa using h0
 unfold qco
 simp only[h,Bool.not_false,cond_true]
theorem zage {X:Type} {l:List X} {i:Nat} {x:X} (h:l[i]?=some x):l.set i x=l:=by
 obtain ⟨h1,h2⟩:=List.getElem?_eq_some_iff.1 h
 rw[←h2,List.set_getElem_self]
theorem zadv {l:List Hold} (hs:∀i x,l[i]?=some x→zbx l i (fun y=>decide (x.ID≤y.ID))=false) {o p:Hold} (ho:o∈l) (hp:p∈l) (e:o.ID=p.ID):o=p:=by
 have h1:=zg3 hs ho
 have h2:=zg3 hs hp
 rw[e,h2]at h1
 cases h1
 try rfl
def Put (c d:Circ) (i:Nat) (x:Item):Prop:=(∃u,d.Items=c.Items.set i (zmh u x))∧∃v,qdj c x=some v∧((v=0∧d.Holds=c.Holds)∨∃st u,zfj c.Holds v x.ID st u=(d.Holds,0)∧(st=3→∀o∈c.Holds,o.ID=v→o.Pickup=x.Custody.Branch))
theorem z2z {c:Circ} (h:MidP c) {i:Nat} {x:Item} (hx:c.Items[i]?=some x):SimD (qco (i:Int) ⟨c,0⟩) (qez c x.ID) (fun d=>(MidP d∧Frame c d)∧Put c d i x):=by
 obtain ⟨v,p1,p2,g1,g2⟩:=zafu h hx
 have mv:∀kind branch who:Int,(zcs kind==2)=false→SimD (qa1 (i:Int) kind branch who ⟨c,0⟩) (qal c x.ID kind branch who) (fun d=>(MidP d∧Frame c d)∧d.Holds=c.Holds∧∃u,d.Items=c.Items.set i (zmh u x)):=by
  intro kind branch who hk
  rcases zhd h hx kind branch who with ⟨u,ha,m1,m2,hm2⟩|⟨e,he,m1,m2⟩
  ·exact .inl ⟨_,m1,m2,⟨hm2,zks hx _ (zjb ha hk)⟩,rfl,u,rfl⟩
  ·exact .inr ⟨_,e,he,m1,m2,h.short⟩
 unfold qco qez
 simp -zeta only[beq_self_eq_true,Bool.not_true,cond_false,zy0 h hx,zaj,hx,p1,p2,za0k h.short.holds,z7y h.short.holds,zia hx,za8]
 by_cases hv:v=0
 ·subst hv
  generalize getH c.Holds 0=q at g1 ⊢
  obtain ⟨o,ok⟩:=q
  simp only[beq_self_eq_true,Bool.not_true]at g1
  subst g1
  dsimp only
  simp only[Bool.not_false,Bool.true_and,beq_self_eq_true,cond_true]
  cases x.Branch==x.Custody.Branch with
  |false=>
   simp only[Bool.not_false,cond_true]
   rcases mv 6 x.Branch 0 rfl with ⟨d,m1,m2,hQ,hH,hI⟩|⟨d,e,he,m1,m2,hsd⟩
   ·rw[m1,m2];exact .inl ⟨d,rfl,rfl,hQ,hI,0,p1,.inl ⟨rfl,hH⟩⟩
   ·rw[m1,m2];exact .inr ⟨d,e,he,rfl,rfl,hsd⟩
  |true=>
   simp only[Bool.not_true,cond_false]
   cases x.Custody.State==3 with
   |true=>exact .inl ⟨c,rfl,rfl,⟨h,Frame.refl c⟩,⟨x.Custody,(zage hx).symm⟩,0,p1,.inl ⟨rfl,rfl⟩⟩
   |false=>
    simp only[Bool.not_false,cond_true,cond_false]
    rcases mv 2 x.Custody.Branch 0 rfl with ⟨d,m1,m2,hQ,hH,hI⟩|⟨d,e,he,m1,m2,hsd⟩
    ·rw[m1,m2];exact .inl ⟨d,rfl,rfl,hQ,hI,0,p1,.inl ⟨rfl,hH⟩⟩
    ·rw[m1,m2];exact .inr ⟨d,e,he,rfl,rfl,hsd⟩
 ·have hv2:(v==0)=false:=by simpa using hv
  obtain ⟨o,ho,hoi,hg,hw⟩:=g2 hv
  rw[hg,hv2]
  dsimp only
  simp only[Bool.not_true,Bool.false_and,cond_false]
  cases hpk:o.Pickup==x.Custody.Branch with
  |true=>
   simp only[cond_true]
   rcases z1u h hx o with ⟨d,m1,m2,hQ,hI,st,u,hH⟩|⟨d,e,he,m1,m2,hsd⟩
   ·rw[m1,m2];exact .inl ⟨d,rfl,rfl,hQ,hI,v,p1,.inr ⟨st,u,by rw[←hoi];exact hH,fun _ o2 ho2 hv2=>by rw[zadv h.sorted ho2 ho (hv2.trans hoi.symm)];simpa using hpk⟩⟩
   ·rw[m1,m2];exact .inr ⟨d,e,he,rfl,rfl,hsd⟩
  |false=>
   simp only[cond_false]
   rcases mv 6 o.Pickup o.Patron rfl with ⟨d,m1,m2,⟨hm2,hf⟩,hH,hI⟩|⟨d,e,he,m1,m2,hsd⟩
   ·rw[m1,m2]
    simp only[beq_self_eq_true,Bool.not_true,cond_true,cond_false,zaj4 hm2.short.holds,zakb hm2.short.holds hm2.sorted]
    have ck:=zml (l:=d.Holds) (id:=v) (item:=x.ID) (state:=2) (u:=0)
    generalize hcq:zfj d.Holds v x.ID 2 0=q at ck
    obtain ⟨l,e⟩:=q
    by_cases he:e=0
    ·subst he
     exact .inl ⟨zew d l,rfl,rfl,⟨zq2 hm2 (ck rfl),hf.trans (zfn (ck rfl))⟩,hI,v,p1,.inr ⟨2,0,by rw[←hH];exact hcq,fun h=>absurd h (by decide)⟩⟩
    ·have he2:(e==0)=false:=by simpa using he
     simp only[zgc d l e he,he2,Bool.not_false,cond_true]
     exact .inr ⟨_,e,he,rfl,rfl,hm2.short⟩
   ·have he2:(e==0)=false:=by simpa using he
    rw[m1,m2]
    simp only[he2,cond_false,Bool.not_false,cond_true]
    exact .inr ⟨d,e,he,rfl,rfl,hsd⟩
theorem zwg {c:Circ} (h:MidP c) {i:Nat} {x:Item} (hx:c.Items[i]?=some x):SimD (qco (i:Int) ⟨c,0⟩) (qez c x.ID) (fun d=>MidP d∧Frame c d):=(z2z h hx).mono (fun _ h=>h.1)
end Go.Proofs.YtdahfgialanmpaaGreatDoor
namespace Go.Proofs.YtdahfgialanmpaaGreatDoor
open Ev
open Go (IntKind)
theorem zy1 {c:Circ} {i:Nat} {x:Item} (hx:c.Items[i]?=some x) (m:Move) (u:Custody):(ziq c i x m u).Items[i]?=some (zmh u x):=by
 show (c.Items.set i (zmh u x))[i]?=_
 rw[List.getElem?_set_self (List.getElem?_eq_some_iff.1 hx).1]
theorem zmw {c:Circ} (h:MidP c) (item:Int):(fIdx (fun x=>x.ID==item) c.Items = -1∧qi c item=some (-1)∧c.Items.find? (fun x=>x.ID==item)=none)∨
 ∃(i:Nat) (x:Item),fIdx (fun x=>x.ID==item) c.Items=(i:Int)∧qi c item=some (i:Int)∧c.Items[i]?=some x∧x.ID=item∧c.Items.find? (fun x=>x.ID==item)=some x:=by
 rcases zbv (fun x:Item=>x.ID==item) c.Items with ⟨h1,h2⟩|⟨i,x,h1,h2,h3,h4⟩
 ·exact .inl ⟨h1,by rw[zafy h.short.items,h1],h2⟩
 ·exact .inr ⟨i,x,h1,by rw[zafy h.short.items,h1],h2,by simpa using h3,h4⟩
theorem zpw {c:Circ} (h:MidP c) {item branch:Int}:z2a (qc0 c item branch) (qfm c item branch):=by
 unfold qc0 qfm
 simp -zeta only[qb4,zib h.short]
 rcases zmw h item with ⟨h1,h2,-⟩|⟨i,x,h1,h2,hx,hid,-⟩
 ·rw[h1,h2]
  exact zc2
 ·subst hid
  have d0:decide ((0:Int)≤(i:Int))=true:=by rw[decide_eq_true_eq];omega
  rw[h1,h2]
  simp only[zoy,d0,cond_true,cond_false]
  rcases zhd h hx 1 branch 0 with ⟨u,ha,m1,m2,hm2⟩|⟨e,he,m1,m2⟩
  ·rw[m1,m2]
   simp only[beq_self_eq_true,Bool.not_true,cond_false]
   rcases zwg hm2 (zy1 hx _ u) with ⟨d,q1,q2,hd,_⟩|⟨d,e,he,q1,q2,hsd⟩
   ·rw[q1,show qez _ x.ID=_ from q2]
    exact ⟨d,0,rfl,rfl,hd.short⟩
   ·rw[q1,show qez _ x.ID=_ from q2]
    simp only[zcr d e he]
    exact zc2
  ·have he2:(e==0)=false:=by simpa using he
   rw[m1,m2]
   simp only[zgz c _ e he,zcr c e he,he2,Bool.not_false,cond_true]
   exact zc2
theorem zn9 {c:Circ} (h:MidP c) {item:Int} {b:Bool}:z2a (qed c item b) (qfn c item b):=by
 unfold qed qfn
 simp -zeta only[qb4,zib h.short]
 rcases zmw h item with ⟨h1,h2,-⟩|⟨i,x,h1,h2,hx,hid,-⟩
 ·rw[h1,h2]
  exact zc2
 ·subst hid
  rw[h1,h2]
  simp only[zoy,cond_true,cond_false,zaj,hx,zia hx]
  cases b with
  |true=>
   simp only[cond_true]
   rcases zhd h hx 8 x.Custody.Branch 0 with ⟨u,ha,m1,m2,hm2⟩|⟨e,he,m1,m2⟩
   ·rw[m1,m2]
    exact ⟨_,0,rfl,rfl,hm2.short⟩
   ·rw[m1,m2]
    simp only[zcr c e he]
    exact zc2
  |false=>
   simp only[cond_false]
   rcases zhd h hx 9 x.Branch 0 with ⟨u,ha,m1,m2,hm2⟩|⟨e,he,m1,m2⟩
   ·rw[m1,m2]
    simp only[beq_self_eq_true,Bool.not_true,cond_false]
    rcases zwg hm2 (zy1 hx _ u) with ⟨d,q1,q2,hd,_⟩|⟨d,e,he,q1,q2,hsd⟩
    ·rw[q1,show qez _ x.ID=_ from q2]
     exact ⟨d,0,rfl,rfl,hd.short⟩
    ·rw[q1,show qez _ x.ID=_ from q2]
     simp only[zcr d e he]
     exact zc2
   ·have he2:(e==0)=false:=by simpa using he
    rw[m1,m2]
    simp only[zgz c _ e he,zcr c e he,he2,Bool.not_false,cond_true]
    exact zc2
theorem zh0 (c:Circ) (item branch:Int) (b:Bool):qdn c item branch b=some true:=by
 unfold qdn
 simp only[za0v,zabk]
 cases hb:zlq c&&znx c with
 |false=>rfl
 |true=>
  simp only[Bool.and_eq_true]at hb
  have h:=zarf (zalv hb.1) (fitP hb.2)
  obtain ⟨a,e,q1,q2,q3⟩:=zpw (item:=item) (branch:=branch) h
  obtain ⟨a',e',p1,p2,p3⟩:=zn9 (item:=item) (b:=b) h
  simp -zeta only[Bool.not_true,cond_false,q1,q2,p1,p2,z74 q3,z74 p3,za8]
  simp
end Go.Proofs.YtdahfgialanmpaaGreatDoor
