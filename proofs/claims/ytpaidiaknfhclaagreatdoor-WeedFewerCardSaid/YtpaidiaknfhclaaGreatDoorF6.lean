/- WeedFewer: a part of the proof of the given statement, which is proved without conditions. -/
import Derived.Test.YtpaidiaknfhclaaGreatDoorF5
import Derived.KernelRfl
set_option linter.all false
namespace Go.Proofs.YtpaidiaknfhclaaGreatDoor
open Ev
open Go (IntKind)
def zf3 (c:Circ):Bool:=zb5 c.Cals.x0==0&&(zb5 c.Cals.x1==0&&(zb5 c.Cals.x2==0&&zb5 c.Cals.x3==0))
theorem zx1 {c:Circ} (hs:Short c):zah zhe (0,c,())=some (bif zf3 c then .inl (c,()) else .inr (false,())):=by
 have s0:zhe (0,c,())=bif zb5 c.Cals.x0==0 then some (.inl (1,c,())) else some (.inr (.inr (false,()))):=by
  show (match qx c.Cals.x0 with|some r=>(bif !(r==0) then (some (.inr (.inr (false,()))):Option ((Int×Circ×Unit)⊕((Circ×Unit)⊕(Bool×Unit)))) else some (.inl (1,c,())))|none=>none)=_
  rw[zaci hs.cal0];dsimp only;cases zb5 c.Cals.x0==0<;>rfl
 have s1:zhe (1,c,())=bif zb5 c.Cals.x1==0 then some (.inl (2,c,())) else some (.inr (.inr (false,()))):=by
  show (match qx c.Cals.x1 with|some r=>(bif !(r==0) then (some (.inr (.inr (false,()))):Option ((Int×Circ×Unit)⊕((Circ×Unit)⊕(Bool×Unit)))) else some (.inl (2,c,())))|none=>none)=_
  rw[zaci hs.cal1];dsimp only;cases zb5 c.Cals.x1==0<;>rfl
 have s2:zhe (2,c,())=bif zb5 c.Cals.x2==0 then some (.inl (3,c,())) else some (.inr (.inr (false,()))):=by
  show (match qx c.Cals.x2 with|some r=>(bif !(r==0) then (some (.inr (.inr (false,()))):Option ((Int×Circ×Unit)⊕((Circ×Unit)⊕(Bool×Unit)))) else some (.inl (3,c,())))|none=>none)=_
  rw[zaci hs.cal2];dsimp only;cases zb5 c.Cals.x2==0<;>rfl
 have s3:zhe (3,c,())=bif zb5 c.Cals.x3==0 then some (.inl (4,c,())) else some (.inr (.inr (false,()))):=by
  show (match qx c.Cals.x3 with|some r=>(bif !(r==0) then (some (.inr (.inr (false,()))):Option ((Int×Circ×Unit)⊕((Circ×Unit)⊕(Bool×Unit)))) else some (.inl (4,c,())))|none=>none)=_
  rw[zaci hs.cal3];dsimp only;cases zb5 c.Cals.x3==0<;>rfl
 have s4:zhe (4,c,())=some (.inr (.inl (c,()))):=rfl
 refine zen 5 (by rw[zlz];omega) ?_
 unfold zf3
 simp only[zci,s0,s1,s2,s3,s4]
 cases zb5 c.Cals.x0==0 with
 |false=>rfl
 |true=>
  simp only[cond_true,zci,s1]
  cases zb5 c.Cals.x1==0 with
  |false=>rfl
  |true=>
   simp only[cond_true,zci,s2]
   cases zb5 c.Cals.x2==0 with
   |false=>rfl
   |true=>
    simp only[cond_true,zci,s3]
    cases zb5 c.Cals.x3==0 with
    |false=>rfl
    |true=>simp only[cond_true,zci,s4];rfl
def zd8 (c:Circ) (x:Charge):Bool:=!(!(getP c.Patrons x.Patron).2||decide (c.NextCharge≤x.ID))
theorem zr3 {c:Circ} (hs:Short c):zah zfw (0,c,())=some (bif c.Charges.all (zd8 c) then .inl (c,()) else .inr (false,())):=by
 have h:=za3 (step:=zfw) (fun i=>((i:Int),c,())) c.Charges (fun _=>zd8 c) (.inr (false,())) (.inl (c,())) hs.charges
  (by simp only[zfw,dge,cond_false])
  (fun i x hx=>by
   have hi:=(List.getElem?_eq_some_iff.1 hx).1
   have:=hs.charges
   unfold zd8
   simp -zeta only[zfw,dlt hi,zaq,hx,cond_true,k_or,zp8 hs.patrons,zat (show i<9223372036854775807 by omega)]
   dsimp only
   cases (!(getP c.Patrons x.Patron).2||decide (c.NextCharge≤x.ID))<;>rfl)
 rw[show zah zfw (0,c,())=_ from h,zbu]
def znb (c:Circ):Bool:=!(decide (c.Today<0)||decide (109572<c.Today)||decide (c.NextHold<1)||decide (100000<c.NextHold)||decide (c.NextCharge<1)||decide (100000<c.NextCharge))
def zit (c:Circ):Bool:=!(!(zeh c.Patrons==0)||!(zgk c.Loans==0)||!(zdc c.Holds==0)||!(zd9 c.Charges==0)||!(zfj c.Rules==0))
def zlu (c:Circ):Bool:=znb c&&(zit c&&(zf3 c&&(c.Charges.all (zd8 c)&&(zee c&&(ze9 c&&ze7 c)))))
theorem zau7 {c:Circ} (hs:Short c):qad c=some (zlu c):=by
 unfold qad zlu znb zit
 simp -zeta only[k_or,zb3,zavd hs.patrons hs.name,zavc hs.loans,zaxf hs.holds,zavh hs.charges,zaxe hs.rules]
 dsimp only
 rw[zx1 hs]
 generalize (decide (c.Today<0)||decide (109572<c.Today)||decide (c.NextHold<1)||decide (100000<c.NextHold)||decide (c.NextCharge<1)||decide (100000<c.NextCharge))=b1
 generalize (!(zeh c.Patrons==0)||!(zgk c.Loans==0)||!(zdc c.Holds==0)||!(zd9 c.Charges==0)||!(zfj c.Rules==0))=b2
 cases b1 with
 |true=>rfl
 |false=>
  cases b2 with
  |true=>rfl
  |false=>
   cases zf3 c with
   |false=>rfl
   |true=>
    simp only[cond_false,cond_true,zr3 hs]
    cases c.Charges.all (zd8 c) with
    |false=>rfl
    |true=>
     simp -zeta only[cond_false,cond_true,zaxi hs,zaxh hs,zaxb hs,zb3]
     try dsimp only
     cases zee c<;>cases ze9 c<;>cases ze7 c<;>rfl
def zjy (c:Circ):Bool:=
 !(decide (10<(c.Items.length:Int))||decide (8<(c.Patrons.length:Int))||decide (12<(c.Holds.length:Int))||decide (12<(c.Loans.length:Int))||decide (30<(c.Charges.length:Int))||decide (10<(c.Rules.length:Int))||decide (200<(c.Moves.length:Int)))&&
 (c.Items.all (fun x=>!(decide (300<(x.Call.length:Int))))&&(c.Patrons.all (fun x=>!(decide (300<(x.Name.length:Int))))&&
  (!(decide (20<(c.Cals.x0.Closed.length:Int)))&&(!(decide (20<(c.Cals.x1.Closed.length:Int)))&&(!(decide (20<(c.Cals.x2.Closed.length:Int)))&&!(decide (20<(c.Cals.x3.Closed.length:Int))))))))
theorem zaxc (c:Circ):qa c=some (zjy c):=by
 unfold qa zjy
 simp -zeta only[k_or,zb3]
 dsimp only
 cases hb:(decide (10<(c.Items.length:Int))||decide (8<(c.Patrons.length:Int))||decide (12<(c.Holds.length:Int))||decide (12<(c.Loans.length:Int))||decide (30<(c.Charges.length:Int))||decide (10<(c.Rules.length:Int))||decide (200<(c.Moves.length:Int))) with
 |true=>rfl
 |false=>
  simp only[Bool.or_eq_false_iff,decide_eq_false_iff_not]at hb
  have h1:=za3 (step:=zxz) (fun i=>((i:Int),c,())) c.Items (fun _ x=>!(decide (300<(x.Call.length:Int)))) (.inr (false,())) (.inl (c,())) (by omega)
   (by simp only[zxz,dge,cond_false])
   (fun i x hx=>by
    have hi:=(List.getElem?_eq_some_iff.1 hx).1
    simp only[zxz,dlt hi,zaq,hx,cond_true,zat (show i<9223372036854775807 by omega)]
    cases decide (300<(x.Call.length:Int))<;>rfl)
  have h2:=za3 (step:=zx0) (fun i=>((i:Int),c,())) c.Patrons (fun _ x=>!(decide (300<(x.Name.length:Int)))) (.inr (false,())) (.inl (c,())) (by omega)
   (by simp only[zx0,dge,cond_false])
   (fun i x hx=>by
    have hi:=(List.getElem?_eq_some_iff.1 hx).1
    simp only[zx0,dlt hi,zaq,hx,cond_true,zat (show i<9223372036854775807 by omega)]
    cases decide (300<(x.Name.length:Int))<;>rfl)
  have h3:zah zhd (0,c,())=some (bif (!(decide (20<(c.Cals.x0.Closed.length:Int)))&&(!(decide (20<(c.Cals.x1.Closed.length:Int)))&&(!(decide (20<(c.Cals.x2.Closed.length:Int)))&&!(decide (20<(c.Cals.x3.Closed.length:Int)))))) then .inl () else .inr (false,())):=by
   have s0:zhd (0,c,())=bif decide (20<(c.Cals.x0.Closed.length:Int)) then some (.inr (.inr (false,()))) else some (.inl (1,c,())):=rfl
   have s1:zhd (1,c,())=bif decide (20<(c.Cals.x1.Closed.length:Int)) then some (.inr (.inr (false,()))) else some (.inl (2,c,())):=rfl
   have s2:zhd (2,c,())=bif decide (20<(c.Cals.x2.Closed.length:Int)) then some (.inr (.inr (false,()))) else some (.inl (3,c,())):=rfl
   have s3:zhd (3,c,())=bif decide (20<(c.Cals.x3.Closed.length:Int)) then some (.inr (.inr (false,()))) else some (.inl (4,c,())):=rfl
   have s4:zhd (4,c,())=some (.inr (.inl ())):=rfl
   refine zen 5 (by rw[zlz];omega) ?_
   simp only[zci,s0]
   cases decide (20<(c.Cals.x0.Closed.length:Int)) with
   |true=>rfl
   |false=>
    simp only[cond_false,zci,s1]
    cases decide (20<(c.Cals.x1.Closed.length:Int)) with
    |true=>rfl
    |false=>
     simp only[cond_false,zci,s2]
     cases decide (20<(c.Cals.x2.Closed.length:Int)) with
     |true=>rfl
     |false=>
      simp only[cond_false,zci,s3]
      cases decide (20<(c.Cals.x3.Closed.length:Int)) with
      |true=>rfl
      |false=>simp only[cond_false,zci,s4];rfl
  simp only[cond_false,Bool.not_false,Bool.true_and]
  rw[show zah zxz (0,c,())=_ from h1,zbu]
  cases c.Items.all (fun x=>!(decide (300<(x.Call.length:Int)))) with
  |false=>rfl
  |true=>
   simp only[cond_true,Bool.true_and]
   rw[show zah zx0 (0,c,())=_ from h2,zbu]
   cases c.Patrons.all (fun x=>!(decide (300<(x.Name.length:Int)))) with
   |false=>rfl
   |true=>
    simp only[cond_true,Bool.true_and,h3]
    cases (!(decide (20<(c.Cals.x0.Closed.length:Int)))&&(!(decide (20<(c.Cals.x1.Closed.length:Int)))&&(!(decide (20<(c.Cals.x2.Closed.length:Int)))&&!(decide (20<(c.Cals.x3.Closed.length:Int))))))<;>rfl
structure SmallP (c:Circ):Prop where
 items:c.Items.length≤10
 patrons:c.Patrons.length≤8
 holds:c.Holds.length≤12
 loans:c.Loans.length≤12
 charges:c.Charges.length≤30
 rules:c.Rules.length≤10
 moves:c.Moves.length≤200
 call:∀x∈c.Items,x.Call.length≤300
 name:∀x∈c.Patrons,x.Name.length≤300
 cal0:c.Cals.x0.Closed.length≤20
 cal1:c.Cals.x1.Closed.length≤20
 cal2:c.Cals.x2.Closed.length≤20
 cal3:c.Cals.x3.Closed.length≤20
theorem zahf {c:Circ} (h:zjy c=true):SmallP c:=by
 unfold zjy at h
 simp only[Bool.and_eq_true,Bool.not_eq_true',Bool.or_eq_false_iff,decide_eq_false_iff_not,List.all_eq_true]at h
 obtain ⟨⟨⟨⟨⟨⟨⟨h1,h2⟩,h3⟩,h4⟩,h5⟩,h6⟩,h7⟩,h8,h9,h10,h11,h12,h13⟩:=h
 exact ⟨by omega,by omega,by omega,by omega,by omega,by omega,by omega,fun x hx=>by have:=h8 x hx;omega,fun x hx=>by have:=h9 x hx;omega,by omega,by omega,by omega,by omega⟩
theorem SmallP.short {c:Circ} (h:SmallP c):Short c:=by
 obtain ⟨h1,h2,h3,h4,h5,h6,h7,h8,h9,h10,h11,h12,h13⟩:=h
 exact ⟨by omega,by omega,by omega,by omega,by omega,by omega,by omega,fun x hx=>by have:=h8 x hx;omega,fun x hx=>by have:=h9 x hx;omega,by omega,by omega,by omega,by omega⟩
end Go.Proofs.YtpaidiaknfhclaaGreatDoor
namespace Go.Proofs.YtpaidiaknfhclaaGreatDoor
open Ev
open Go (IntKind)
end Go.Proofs.YtpaidiaknfhclaaGreatDoor
namespace Go.Proofs.YtpaidiaknfhclaaGreatDoor
open Ev
open Go (IntKind)
theorem zame {X:Type} (p:X→Bool) (l:List X):decide (fIdx p l<0)=!(l.any p):=by
 unfold fIdx
 induction l with
 |nil=>rfl
 |cons y l ih=>
  simp only[List.findIdx?_cons,List.any_cons]
  cases hp:p y with
  |true=>rfl
  |false=>
   simp only[Bool.false_eq_true,if_false,Bool.false_or]
   rw[←ih]
   cases l.findIdx? p with
   |none=>rfl
   |some k=>simp only[Option.map_some];rw[decide_eq_decide];omega
theorem zamd {X:Type} (p:X→Bool) (l:List X):decide (0≤fIdx p l)=l.any p:=by
 have h:=zame p l
 cases hb:l.any p with
 |true=>rw[hb]at h;simp at h ⊢;omega
 |false=>rw[hb]at h;simp at h ⊢;omega
theorem zavj {γ:Type} {p:γ→Hold→Option Bool} {g:γ} (q:Hold→Bool) {l:List Hold} (hl:l.length<1000000000) (hp:∀x∈l,p g x=some (q x)):qb p l g=some (fIdx q l):=by
 have h:=zcv (step:=zjg p) (fun i=>(l,g,(l.length:Int),(i:Int),())) l q (fun i _=>(.inr ((i:Int),()):(Unit)⊕(Int×Unit))) (.inl ()) hl
  (by simp only[zjg,dge,cond_false])
  (fun i x hx=>by
   have hi:=(List.getElem?_eq_some_iff.1 hx).1
   simp only[zjg,dlt hi,zaq,hx,cond_true,hp x (List.mem_of_getElem? hx),zat (show i<9223372036854775807 by omega)])
 unfold qb
 rw[show zah (zjg p) (l,g,(l.length:Int),0,())=_ from h]
 have e:=zdn (p:=q) (g:=fun i _=>(.inr ((i:Int),()):(Unit)⊕(Int×Unit))) (d:=.inl ()) (fun r:(Unit)⊕(Int×Unit)=>match r with | .inl (_)=>(-1:Int) | .inr (v,_)=>v) (l:=l) (i:=0)
 dsimp only at e
 rw[←zfh,←e]
 generalize zew q (fun i _=>(.inr ((i:Int),()):(Unit)⊕(Int×Unit))) (.inl ()) 0 l=r
 rcases r with _|⟨v,_⟩<;>rfl
theorem zaob {γ:Type} {p:γ→Hold→Option Bool} {g:γ} (q:Hold→Bool) {l:List Hold} (hl:l.length<1000000000) (hp:∀x∈l,p g x=some (q x)):qbw p l g=some (l.any q):=by
 unfold qbw
 rw[zavj q hl hp]
 dsimp only
 rw[zamd]
theorem zgd (l:List Hold) (i:Nat) (x:Hold):zcq l i x=bif zb6 l i (fun y=>decide (x.ID≤y.ID)) then 7 else zbn x:=by
 unfold zcq
 congr 1
 cases h:zbn x==0 with
 |true=>simp at h;simp[h]
 |false=>simp
def zaxx (q:Hold→Hold→Bool) (l:List Hold):Bool:=zch (fun i x=>(l.take i).all (fun y=>!(q y x))) 0 l
end Go.Proofs.YtpaidiaknfhclaaGreatDoor
namespace Go.Proofs.YtpaidiaknfhclaaGreatDoor
open Ev
open Go (IntKind)
theorem zjq {lo hi n:Int}:rng lo hi n=true↔lo≤n∧n≤hi:=by
 unfold rng
 simp only[Bool.and_eq_true,decide_eq_true_eq]
end Go.Proofs.YtpaidiaknfhclaaGreatDoor
namespace Go.Proofs.YtpaidiaknfhclaaGreatDoor
open Ev
open Go (IntKind)
def zc5 (x:Item):Bool:=rng 1 9999 x.ID&&rng 1 9999 x.Record&&rng 1 4 x.Branch&&rng 1 9 x.Kind&&rng 0 100000000 x.Price&&decide ((x.Call.length:Int)≤200)&&vld x.Call
def zce (c:Circ) (x:Item):Bool:=!(!((zdo x.Branch c.Moves x.ID).2.2==0)||!(zbr (zdo x.Branch c.Moves x.ID).1 x.Custody))
def z33 (c:Circ):Bool:=c.Moves.all (fun m=>(c.Items.find? (fun x=>x.ID==m.Item)).isSome)
def ziq (c:Circ):Bool:=!(decide (64<(c.Items.length:Int))||decide (2000<(c.Moves.length:Int)))&&(zch (fun i x=>!(!(zc5 x)||zb6 c.Items i (fun y=>decide (x.ID≤y.ID)))) 0 c.Items&&(z33 c&&c.Items.all (zce c)))
end Go.Proofs.YtpaidiaknfhclaaGreatDoor
namespace Go.Proofs.YtpaidiaknfhclaaGreatDoor
open Ev
open Go (IntKind)
theorem zqi {X:Type} {key:X→Int} {l:List X} (h:∀i x,l[i]?=some x→zb6 l i (fun y=>decide (key x≤key y))=false):∀(j i:Nat) (x y:X),i<j→l[i]?=some x→l[j]?=some y→key x<key y:=by
 intro j
 induction j with
 |zero=>intro i x y hi;omega
 |succ j ih=>
  intro i x y hi hx hy
  have hj:=(List.getElem?_eq_some_iff.1 hy).1
  have hz:l[j]?=some l[j]:=List.getElem?_eq_getElem (by omega)
  have:=h _ _ hy
  simp only[zb6,hz,decide_eq_false_iff_not]at this
  by_cases e:i=j
  ·subst e
   rw[hz]at hx;cases hx;omega
  ·have:=ih i x l[j] (by omega) hx hz
   omega
theorem zij {X:Type} {f:Nat→X→Int}:∀{l:List X} {k:Nat},zb2 f k l=0→∀i x,l[i]?=some x→f (k+i) x=0:=by
 intro l
 induction l with
 |nil=>intro k _ i x hx;simp at hx
 |cons y l ih=>
  intro k h i x hx
  unfold zb2 at h
  by_cases e:f k y=0
  ·rw[e]at h
   simp only[beq_self_eq_true,if_true]at h
   cases i with
   |zero=>simp at hx;subst hx;exact e
   |succ i=>have:=ih h i x (by simpa using hx);rwa [show k+(i+1)=k+1+i by omega]
  ·have:(f k y==0)=false:=by simpa using e
   rw[this]at h
   exact absurd h e
theorem zc2 {b:Bool} {n m:Int} (h:(bif b then n else m)=0) (hn:n≠0):b=false:=by
 cases b with
 |false=>rfl
 |true=>exact absurd h hn
theorem zgf {l:List Hold} (h:zdc l=0):zb2 (zcq l) 0 l=0:=by
 unfold zdc at h
 rw[zc2 h (by decide)]at h
 simp only[cond_false]at h
 by_cases e:zb2 (zcq l) 0 l=0
 ·exact e
 ·have h2:(zb2 (zcq l) 0 l==0)=false:=by simpa using e
  rw[h2]at h
  exact h
theorem zok {l:List Hold} (h:zdc l=0):∀i x,l[i]?=some x→zb6 l i (fun y=>decide (x.ID≤y.ID))=false:=by
 intro i x hx
 have:=zij (k:=0) (zgf h) i x hx
 rw[Nat.zero_add,zgd]at this
 exact zc2 this (by decide)
theorem zw8 {l:List Hold} (h:zdc l=0) {x:Hold} (hx:x∈l):zbn x=0:=by
 obtain ⟨i,hi⟩:=List.getElem?_of_mem hx
 have:=zij (k:=0) (zgf h) i x hi
 rw[Nat.zero_add,zgd]at this
 rw[zc2 this (by decide)]at this
 exact this
theorem zii {a b:Custody}:zbr a b=true↔a=b:=by
 obtain ⟨a1,a2,a3,a4⟩:=a
 obtain ⟨b1,b2,b3,b4⟩:=b
 unfold zbr
 simp[Bool.and_eq_true]
 try (constructor<;>(intro h;simp_all))
end Go.Proofs.YtpaidiaknfhclaaGreatDoor
namespace Go.Proofs.YtpaidiaknfhclaaGreatDoor
open Ev
open Go (IntKind)
theorem zrq (c:Circ) (i:Nat) (x:Item):zdd c i x=(!(!(zc5 x)||zb6 c.Items i (fun y=>decide (x.ID≤y.ID)))&&zce c x):=by
 unfold zdd zce zc5
 rw[Bool.eq_iff_iff]
 simp only[Bool.and_eq_true,Bool.not_eq_true',Bool.or_eq_false_iff,decide_eq_false_iff_not,Bool.not_eq_false',zjq,decide_eq_true_eq]
 constructor
 ·rintro ⟨⟨h1,h2⟩,h3⟩
  obtain ⟨⟨⟨⟨⟨⟨a1,a2⟩,a3⟩,a4⟩,a5⟩,a6⟩,a7⟩:=h1
  obtain ⟨⟨⟨⟨⟨b1,b2⟩,b3⟩,b4⟩,b5⟩,b6⟩:=h2
  refine ⟨⟨⟨⟨⟨⟨⟨⟨⟨?_,?_⟩,⟨?_,?_⟩⟩,⟨?_,?_⟩⟩,⟨?_,?_⟩⟩,⟨?_,?_⟩⟩,?_⟩,b6⟩,a3⟩,h3⟩<;>omega
 ·rintro ⟨⟨h1,a3⟩,h3⟩
  obtain ⟨⟨⟨⟨⟨⟨⟨a1,a2⟩,⟨a4,a5⟩⟩,⟨a6,a7⟩⟩,⟨a8,a9⟩⟩,⟨b1,b2⟩⟩,b3⟩,b4⟩:=h1
  refine ⟨⟨⟨⟨⟨⟨⟨⟨?_,?_⟩,a3⟩,?_⟩,?_⟩,?_⟩,?_⟩,⟨⟨⟨⟨⟨?_,?_⟩,?_⟩,?_⟩,?_⟩,b4⟩⟩,h3⟩<;>omega
theorem zot (c:Circ):zee c=ziq c:=by
 have key:zch (zdd c) 0 c.Items=(zch (fun i x=>!(!(zc5 x)||zb6 c.Items i (fun y=>decide (x.ID≤y.ID)))) 0 c.Items&&c.Items.all (zce c)):=by
  have gen:∀(l:List Item) (k:Nat),zch (zdd c) k l=(zch (fun i x=>!(!(zc5 x)||zb6 c.Items i (fun y=>decide (x.ID≤y.ID)))) k l&&l.all (zce c)):=by
   intro l
   induction l with
   |nil=>intro k;rfl
   |cons x l ih=>
    intro k
    simp only[zch,List.all_cons]
    rw[ih,zrq]
    generalize (!(!(zc5 x)||zb6 c.Items k (fun y=>decide (x.ID≤y.ID))))=b1
    generalize zch (fun i x=>!(!(zc5 x)||zb6 c.Items i (fun y=>decide (x.ID≤y.ID)))) (k+1) l=b2
    cases b1<;>cases b2<;>cases zce c x<;>cases l.all (zce c)<;>rfl
  exact gen _ _
 unfold zee ziq z33
 rw[key]
 generalize (!(decide (64<(c.Items.length:Int))||decide (2000<(c.Moves.length:Int))))=b1
 generalize zch (fun i x=>!(!(zc5 x)||zb6 c.Items i (fun y=>decide (x.ID≤y.ID)))) 0 c.Items=b2
 generalize c.Moves.all (fun m=>(c.Items.find? (fun x=>x.ID==m.Item)).isSome)=b3
 cases b1<;>cases b2<;>cases b3<;>cases c.Items.all (zce c)<;>rfl
theorem zov {c:Circ} (h:ziq c=true):∀i x,c.Items[i]?=some x→zb6 c.Items i (fun y=>decide (x.ID≤y.ID))=false:=by
 intro i x hx
 unfold ziq at h
 simp only[Bool.and_eq_true]at h
 have:=(zy8.1 h.2.1) i x hx
 rw[Nat.zero_add]at this
 simp only[Bool.not_eq_true',Bool.or_eq_false_iff]at this
 exact this.2
theorem zou {c:Circ} (h:ziq c=true) {x:Item} (hx:x∈c.Items):zce c x=true:=by
 unfold ziq at h
 simp only[Bool.and_eq_true,List.all_eq_true]at h
 exact h.2.2.2 x hx
end Go.Proofs.YtpaidiaknfhclaaGreatDoor
namespace Go.Proofs.YtpaidiaknfhclaaGreatDoor
open Ev
open Go (IntKind)
end Go.Proofs.YtpaidiaknfhclaaGreatDoor
namespace Go.Proofs.YtpaidiaknfhclaaGreatDoor
open Ev
open Go (IntKind)
end Go.Proofs.YtpaidiaknfhclaaGreatDoor
namespace Go.Proofs.YtpaidiaknfhclaaGreatDoor
open Ev
open Go (IntKind)
def owed (p:Int):List Charge→Int
 | []=>0
 |x::l=>(bif x.Patron==p then x.Amount-x.Paid else 0)+owed p l
end Go.Proofs.YtpaidiaknfhclaaGreatDoor
namespace Go.Proofs.YtpaidiaknfhclaaGreatDoor
open Ev
open Go (IntKind)
end Go.Proofs.YtpaidiaknfhclaaGreatDoor
namespace Go.Proofs.YtpaidiaknfhclaaGreatDoor
open Ev
open Go (IntKind)
def calS (c:Circ) (b:Int):Calendar:=bif b==1 then c.Cals.x0 else bif b==2 then c.Cals.x1 else bif b==3 then c.Cals.x2 else c.Cals.x3
end Go.Proofs.YtpaidiaknfhclaaGreatDoor
namespace Go.Proofs.YtpaidiaknfhclaaGreatDoor
open Ev
open Go (IntKind)
end Go.Proofs.YtpaidiaknfhclaaGreatDoor
namespace Go.Proofs.YtpaidiaknfhclaaGreatDoor
open Ev
open Go (IntKind)
structure CalOk (c:Calendar):Prop where
 w1:0≤c.Week
 w2:c.Week≤126
 len:c.Closed.length<1000000000
 inc:incr c.Closed=true
theorem z8g {c:Calendar} (h:(zb5 c==0)=true):CalOk c:=by
 have h:zb5 c=0:=by simpa using h
 unfold zb5 at h
 have h1:=zc2 h (by decide)
 rw[h1]at h
 simp only[cond_false]at h
 have h2:=zc2 h (by decide)
 rw[h2]at h
 simp only[cond_false]at h
 simp only[Bool.or_eq_false_iff,decide_eq_false_iff_not]at h1 h2
 cases h3:c.Closed.all (fun x=>!(decide (x<0)||decide (109572<x))) with
 |false=>rw[h3]at h;cases h
 |true=>
  rw[h3]at h
  cases h4:incr c.Closed with
  |false=>rw[h4]at h;cases h
  |true=>exact ⟨by omega,by omega,by omega,h4⟩
end Go.Proofs.YtpaidiaknfhclaaGreatDoor
namespace Go.Proofs.YtpaidiaknfhclaaGreatDoor
open Ev
open Go (IntKind)
end Go.Proofs.YtpaidiaknfhclaaGreatDoor
namespace Go.Proofs.YtpaidiaknfhclaaGreatDoor
open Ev
open Go (IntKind)
end Go.Proofs.YtpaidiaknfhclaaGreatDoor
namespace Go.Proofs.YtpaidiaknfhclaaGreatDoor
open Ev
open Go (IntKind)
structure FitP (c:Circ):Prop where
 charges:zd9 c.Charges=0
 loans:zgk c.Loans=0
 holds:zdc c.Holds=0
 rules:zfj c.Rules=0
 patrons:zeh c.Patrons=0
 cal0:CalOk c.Cals.x0
 cal1:CalOk c.Cals.x1
 cal2:CalOk c.Cals.x2
 cal3:CalOk c.Cals.x3
 items:ziq c=true
 loanG:∀n∈c.Loans,zgj c n=true
 itemG:∀x∈c.Items,(zrl c.Loans x.ID).2=zqa x.Custody
 holdG:∀h∈c.Holds,zge c h=true
 readyG:∀x∈c.Items,zfc c x=true
 nums:znb c=true
theorem fitP {c:Circ} (h:zlu c=true):FitP c:=by
 unfold zlu at h
 rw[zot]at h
 simp only[Bool.and_eq_true]at h
 obtain ⟨h1,h2,h3,h4,h5,h6,h7⟩:=h
 unfold zit at h2
 simp only[Bool.not_eq_true',Bool.or_eq_false_iff,Bool.not_eq_false',beq_iff_eq]at h2
 unfold zf3 at h3
 simp only[Bool.and_eq_true]at h3
 unfold ze9 at h6
 unfold ze7 at h7
 simp only[Bool.and_eq_true,List.all_eq_true,beq_iff_eq]at h6 h7
 exact ⟨h2.1.2,h2.1.1.1.2,h2.1.1.2,h2.2,h2.1.1.1.1,z8g h3.1,z8g h3.2.1,z8g h3.2.2.1,z8g h3.2.2.2,h5,h6.1,h6.2,h7.1,h7.2,h1⟩
theorem zaht {c:Circ} (h:FitP c) (b:Int):CalOk (calS c b):=by
 unfold calS
 cases b==1 with
 |true=>exact h.cal0
 |false=>
  cases b==2 with
  |true=>exact h.cal1
  |false=>
   cases b==3 with
   |true=>exact h.cal2
   |false=>exact h.cal3
theorem zaoh {c:Circ} (h:FitP c) {r:Rule} (hr:r∈c.Rules):zlv r=true:=by
 have h:=h.rules
 unfold zfj at h
 rw[zc2 h (by decide)]at h
 obtain ⟨i,hi⟩:=List.getElem?_of_mem hr
 have:=zij (k:=0) h i r hi
 rw[Nat.zero_add]at this
 unfold zfy at this
 have:=zc2 this (by decide)
 simpa using this
def zeo (c:Custody):Prop:=rng 1 4 c.Branch=true
theorem zqe {c:Custody} (h:z4l c=true):zeo c:=by
 unfold z4l at h
 unfold zeo
 cases hq:(decide (c.State<1)||decide (12<c.State)||decide (c.Branch<1)||decide (4<c.Branch)) with
 |true=>rw[hq]at h;cases h
 |false=>
  simp only[Bool.or_eq_false_iff,decide_eq_false_iff_not]at hq
  rw[zjq];omega
theorem zno {m:Move} (h:z4m m=true):rng 1 4 m.Branch=true:=by
 unfold z4m at h
 simp only[Bool.and_eq_true,decide_eq_true_eq]at h
 rw[zjq];omega
theorem zl9 {c:Custody} {m:Move} (h:((zcj c m).2==0)=true):zeo (zcj c m).1:=by
 unfold zcj at h ⊢
 cases e1:(!(z4l c)||!(z4m m)) with
 |true=>rw[e1]at h;cases h
 |false=>
  have e0:=e1
  simp only[Bool.or_eq_false_iff,Bool.not_eq_false']at e0
  have b1:=zqe e0.1
  have b2:=zno e0.2
  rw[e1]at h
  simp only[cond_false]at h ⊢
  cases e2:!(zs7 c.State m.Kind) with
  |true=>rw[e2]at h;cases h
  |false=>
   rw[e2]at h
   simp only[cond_false]at h ⊢
   cases e3:(m.Kind==3&&c.State==5&&!(m.Who==c.Who)) with
   |true=>rw[e3]at h;cases h
   |false=>
    rw[e3]at h
    simp only[cond_false]at h ⊢
    cases e4:!(zaoc c m) with
    |true=>rw[e4]at h;cases h
    |false=>
     simp only[cond_false]
     cases (zei m.Kind==2) with
     |true=>exact b2
     |false=>
      simp only[cond_false]
      cases (zei m.Kind==4||(zei m.Kind==5||zei m.Kind==8)) with
      |true=>exact b1
      |false=>
       simp only[cond_false]
       cases e5:(zei m.Kind==6) with
       |true=>exact b1
       |false=>
        simp only[cond_false]
        cases (zei m.Kind==9||zei m.Kind==10) with
        |true=>exact b1
        |false=>exact b1
theorem zkf:∀{l:List Move} {i:Nat} {item:Int} {c d:Custody},zeo c→zcs i l item c=.inl d→zeo d:=by
 intro l
 induction l with
 |nil=>intro i item c d hc h;simp only[zcs]at h;cases h;exact hc
 |cons x l ih=>
  intro i item c d hc h
  simp only[zcs]at h
  cases e:x.Item==item with
  |false=>rw[e]at h;exact ih hc h
  |true=>
   rw[e]at h
   simp only[cond_true]at h
   cases e2:(zcj c x).2==0 with
   |true=>rw[e2]at h;exact ih (zl9 e2) h
   |false=>rw[e2]at h;cases h
theorem zjo {c:Circ} {x:Item} (h:zce c x=true):zeo x.Custody:=by
 unfold zce at h
 simp only[Bool.not_eq_true',Bool.or_eq_false_iff,Bool.not_eq_false',beq_iff_eq]at h
 obtain ⟨h1,h2⟩:=h
 have e:=zii.1 h2
 rw[←e]
 unfold zdo at h1 ⊢
 cases hb:(decide (x.Branch<1)||decide (4<x.Branch)) with
 |true=>rw[hb]at h1;cases h1
 |false=>
  rw[hb]at h1
  simp only[cond_false]at h1 ⊢
  have hb2:zeo (zr4 x.Branch):=by
   simp only[Bool.or_eq_false_iff,decide_eq_false_iff_not]at hb
   show rng 1 4 x.Branch=true
   rw[zjq];omega
  cases hr:zcs 0 c.Moves x.ID (zr4 x.Branch) with
  |inl d=>exact zkf hb2 hr
  |inr p=>
   rw[hr]at h1
   exfalso
   obtain ⟨i,e⟩:=p
   simp only at h1
   have key:∀(l:List Move) (i:Nat) (c:Custody) (p:Int×Int),zcs i l x.ID c=.inr p→p.2≠0:=by
    intro l
    induction l with
    |nil=>intro i c p h;simp only[zcs]at h;cases h
    |cons y l ih=>
     intro i c p h
     simp only[zcs]at h
     cases e:y.Item==x.ID with
     |false=>rw[e]at h;exact ih _ _ _ h
     |true=>
      rw[e]at h
      simp only[cond_true]at h
      cases e2:(zcj c y).2==0 with
      |true=>rw[e2]at h;exact ih _ _ _ h
      |false=>rw[e2]at h;cases h;simpa using e2
   exact key _ _ _ _ hr h1
theorem zw4 {c:Circ} (h:FitP c) {x:Item} (hx:x∈c.Items):rng 1 4 x.Custody.Branch=true:=zjo (zou h.items hx)
end Go.Proofs.YtpaidiaknfhclaaGreatDoor
namespace Go.Proofs.YtpaidiaknfhclaaGreatDoor
open Ev
open Go (IntKind)
end Go.Proofs.YtpaidiaknfhclaaGreatDoor
namespace Go.Proofs.YtpaidiaknfhclaaGreatDoor
open Ev
open Go (IntKind)
end Go.Proofs.YtpaidiaknfhclaaGreatDoor
namespace Go.Proofs.YtpaidiaknfhclaaGreatDoor
open Ev
open Go (IntKind)
end Go.Proofs.YtpaidiaknfhclaaGreatDoor
namespace Go.Proofs.YtpaidiaknfhclaaGreatDoor
open Ev
open Go (IntKind)
section
variable {γ:Type} {p:γ→Hold→Hold→Option Int} {g:γ} {lt:Hold→Hold→Bool}
end
end Go.Proofs.YtpaidiaknfhclaaGreatDoor
namespace Go.Proofs.YtpaidiaknfhclaaGreatDoor
open Ev
open Go (IntKind)
end Go.Proofs.YtpaidiaknfhclaaGreatDoor
namespace Go.Proofs.YtpaidiaknfhclaaGreatDoor
open Ev
open Go (IntKind)
end Go.Proofs.YtpaidiaknfhclaaGreatDoor
namespace Go.Proofs.YtpaidiaknfhclaaGreatDoor
open Ev
open Go (IntKind)
theorem zw7 {c:Circ} (h:FitP c) {o:Hold} (ho:o∈c.Holds):rng 0 9 o.Rank=true∧o.ID≠0:=by
 have:=zw8 h.holds ho
 unfold zbn at this
 have:=zc2 this (by decide)
 simp only[Bool.or_eq_false_iff,decide_eq_false_iff_not]at this
 obtain ⟨⟨hx,h1⟩,h2⟩:=this
 refine ⟨by rw[zjq];omega,?_⟩
 have:=hx.1.1.1.1.1.1.1.1.1.1
 omega
structure MidW (c:Circ):Prop where
 short:Short c
 moves:c.Moves.length≤2000
 holds:c.Holds.length≤64
 loans:c.Loans.length≤64
 few:∀r,(c.Holds.filter (fun o=>o.Record==r)).length<20
end Go.Proofs.YtpaidiaknfhclaaGreatDoor
namespace Go.Proofs.YtpaidiaknfhclaaGreatDoor
open Ev
open Go (IntKind)
end Go.Proofs.YtpaidiaknfhclaaGreatDoor
namespace Go.Proofs.YtpaidiaknfhclaaGreatDoor
open Ev
open Go (IntKind)
end Go.Proofs.YtpaidiaknfhclaaGreatDoor
namespace Go.Proofs.YtpaidiaknfhclaaGreatDoor
open Ev
open Go (IntKind)
end Go.Proofs.YtpaidiaknfhclaaGreatDoor
namespace Go.Proofs.YtpaidiaknfhclaaGreatDoor
open Ev
open Go (IntKind)
end Go.Proofs.YtpaidiaknfhclaaGreatDoor
namespace Go.Proofs.YtpaidiaknfhclaaGreatDoor
open Ev
open Go (IntKind)
end Go.Proofs.YtpaidiaknfhclaaGreatDoor
namespace Go.Proofs.YtpaidiaknfhclaaGreatDoor
open Ev
open Go (IntKind)
end Go.Proofs.YtpaidiaknfhclaaGreatDoor
namespace Go.Proofs.YtpaidiaknfhclaaGreatDoor
open Ev
open Go (IntKind)
end Go.Proofs.YtpaidiaknfhclaaGreatDoor
namespace Go.Proofs.YtpaidiaknfhclaaGreatDoor
open Ev
open Go (IntKind)
end Go.Proofs.YtpaidiaknfhclaaGreatDoor
namespace Go.Proofs.YtpaidiaknfhclaaGreatDoor
open Ev
open Go (IntKind)
end Go.Proofs.YtpaidiaknfhclaaGreatDoor
namespace Go.Proofs.YtpaidiaknfhclaaGreatDoor
open Ev
open Go (IntKind)
structure MidP (c:Circ):Prop where
 short:Short c
 moves:c.Moves.length<10000000
 holdsN:c.Holds.length<1000000
 sorted:∀(i:Nat) (x:Hold),c.Holds[i]?=some x→zb6 c.Holds i (fun y=>decide (x.ID≤y.ID))=false
 rank:∀o∈c.Holds,rng 0 9 o.Rank=true∧o.ID≠0
 few:∀r,(c.Holds.filter (fun o=>o.Record==r)).length<20
 cal:∀b,CalOk (calS c b)
 rules:∀r∈c.Rules,zlv r=true
 branch:∀x∈c.Items,rng 1 4 x.Custody.Branch=true
 ids:∀(i:Nat) (x:Item) (j:Nat) (y:Item),c.Items[i]?=some x→c.Items[j]?=some y→x.ID=y.ID→i=j
 chN:c.Charges.length<1000000
theorem zamo {c:Circ} (hm:SmallP c) (h:FitP c):MidP c:=by
 refine ⟨hm.short,by have:=hm.moves;omega,by have:=hm.holds;omega,zok h.holds,fun o ho=>zw7 h ho,fun r=>?_,zaht h,fun r hr=>zaoh h hr,fun x hx=>zw4 h hx,fun i x j y hx hy e=>?_,by have:=hm.charges;omega⟩
 ·have:=List.length_filter_le (fun o:Hold=>o.Record==r) c.Holds
  have:=hm.holds
  omega
 ·have hs:=zov h.items
  rcases Nat.lt_trichotomy i j with hl|hl|hl
  ·have:=zqi (key:=fun y:Item=>y.ID) hs j i x y hl hx hy;omega
  ·exact hl
  ·have:=zqi (key:=fun y:Item=>y.ID) hs i j y x hl hy hx;omega
end Go.Proofs.YtpaidiaknfhclaaGreatDoor
namespace Go.Proofs.YtpaidiaknfhclaaGreatDoor
open Go Ev
theorem zv3:qeh=some true:=by kernel_rfl
theorem zavq (c:Circ):qe0 c=some (zjy c&&zlu c):=by
 unfold qe0
 rw[zaxc]
 cases h:zjy c with
 |false=>rfl
 |true=>
  simp only[cond_true,zau7 (zahf h).short]
  rfl
def usF (item:Int) (x:Move) (s:Int×Int):Int×Int:=
 bif x.Item==item then (bif x.Kind==3 then (wr .i64 (s.1+1),if s.2<x.Day then x.Day else s.2) else bif x.Kind==1||x.Kind==4 then (s.1,if s.2<x.Day then x.Day else s.2) else s) else s
def usC (c:Circ) (item:Int):Int×Int:=c.Moves.foldl (fun s x=>usF item x s) (0,-1)
theorem zau6 {c:Circ} (hs:c.Moves.length<1000000000) (item:Int):qa9 c item=some (usC c item):=by
 have h:=zf0 (step:=zle) (fun i (s:Int×Int)=>(item,s.1,s.2,c.Moves,(c.Moves.length:Int),(i:Int),())) c.Moves (usF item) (fun s=>(s.1,s.2,())) hs
  (fun s=>by simp only[zle,dge,cond_false])
  (fun i x s hx=>by
   have hi:=(List.getElem?_eq_some_iff.1 hx).1
   simp only[zle,dlt hi,cond_true,zaq,hx,zat (show i<9223372036854775807 by omega),usF]
   cases x.Item==item<;>cases x.Kind==3<;>cases x.Kind==1<;>cases x.Kind==4<;>rfl)
  (0,-1)
 unfold qa9
 rw[show zah zle (item,0,(-1),c.Moves,(c.Moves.length:Int),0,())=_ from h]
 rfl
def cpF (record:Int) (x:Item) (n:Int):Int:=bif x.Record==record&&!(x.Custody.State==12) then wr .i64 (n+1) else n
def cpC (c:Circ) (record:Int):Int:=c.Items.foldl (fun s x=>cpF record x s) 0
theorem zavg {c:Circ} (hs:c.Items.length<1000000000) (record:Int):qav c record=some (cpC c record):=by
 have h:=zf0 (step:=zlm) (fun i (s:Int)=>(record,s,c.Items,(c.Items.length:Int),(i:Int),())) c.Items (cpF record) (fun s=>(s,())) hs
  (fun s=>by simp only[zlm,dge,cond_false])
  (fun i x s hx=>by
   have hi:=(List.getElem?_eq_some_iff.1 hx).1
   simp only[zlm,dlt hi,cond_true,zaq,hx,zat (show i<9223372036854775807 by omega),cpF]
   cases x.Record==record<;>cases x.Custody.State==12<;>rfl)
  0
 unfold qav
 rw[show zah zlm (record,0,c.Items,(c.Items.length:Int),0,())=_ from h]
 rfl
end Go.Proofs.YtpaidiaknfhclaaGreatDoor
namespace Go.Proofs.YtpaidiaknfhclaaGreatDoor
open Go Ev
theorem zrz {R:Int→Int→Prop} (ha:∀a b,R a b→R b a→a=b):∀{l m:List Int},l.Perm m→l.Pairwise R→m.Pairwise R→l=m:=by
 intro l
 induction l with
 |nil=>intro m hp _ _;exact (List.nil_perm.1 hp).symm
 |cons a l ih=>
  intro m hp hl hm
  cases m with
  |nil=>exact absurd hp.length_eq (by simp)
  |cons b m=>
   rw[List.pairwise_cons]at hl hm
   have hab:a=b:=by
    by_cases e:a=b
    ·exact e
    ·have h1:a∈m:=by
      have:=hp.mem_iff.1 (List.mem_cons_self (a:=a) (l:=l))
      rcases List.mem_cons.1 this with h|h
      ·exact absurd h e
      ·exact h
     have h2:b∈l:=by
      have:=hp.mem_iff.2 (List.mem_cons_self (a:=b) (l:=m))
      rcases List.mem_cons.1 this with h|h
      ·exact absurd h.symm e
      ·exact h
     exact ha a b (hl.1 b h2) (hm.1 a h1)
   subst hab
   rw[ih (List.perm_cons a |>.1 hp) hl.2 hm.2]
theorem zrm {X Y:Type} (p:X→Bool) (f:X→Y):∀(l:List X) (acc:List Y),l.foldl (fun s x=>bif p x then s++[f x] else s) acc=acc++(l.filter p).map f:=by
 intro l
 induction l with
 |nil=>intro acc;simp
 |cons x l ih=>
  intro acc
  rw[List.foldl_cons,ih]
  cases hp:p x<;>simp[hp]
def zamp (c:Circ) (x:Item):Bool:=c.Holds.any fun h=>h.Record==x.Record||h.Item==x.ID
def okC (c:Circ) (days loans:Int) (x:Item):Bool:=x.Custody.State==3&&(decide ((usC c x.ID).1≤loans)&&(decide (days<wr .i64 (c.Today-(usC c x.ID).2))&&!zamp c x))
def mkC (c:Circ) (x:Item):Weed_candidate:=⟨x.ID,x.Record,(usC c x.ID).1,(usC c x.ID).2⟩
def zdy (c:Circ) (days loans:Int):List Weed_candidate:=(c.Items.filter (okC c days loans)).map (mkC c)
structure WeedS (c:Circ):Prop where
 items:c.Items.length≤10
 holds:c.Holds.length≤12
 moves:c.Moves.length≤200
theorem zaxu {c:Circ} (h:SmallP c):WeedS c:=⟨h.items,h.holds,h.moves⟩
theorem ze2 {c:Circ} (h:WeedS c) (days loans:Int):(zdy c days loans).length≤10:=by
 unfold zdy
 rw[List.length_map]
 exact Nat.le_trans (List.length_filter_le _ _) h.items
theorem z7x {c:Circ} (h:WeedS c) (x:Item):qbw (fun (g:Unit×Item×Unit) x0=>qcc x0 g.2.1) c.Holds ((),(x,()))=some (zamp c x):=by
 have:=h.holds
 exact zaob (fun h=>h.Record==x.Record||h.Item==x.ID) (by omega) (fun y _=>by
  simp only[qcc]
  cases y.Record==x.Record<;>rfl)
theorem zavv {c:Circ} (h:WeedS c) (days loans:Int):qh c days loans=some (pdqL cfC (zdy c days loans)):=by
 have h1:=h.items
 have h2:=h.moves
 have hw:=zc7 (step:=zx5) (fun i (l:List Weed_candidate)=>l.length≤i) (fun i l=>(days,loans,c.Items,(c.Items.length:Int),(i:Int),c,l,())) c.Items
  (fun _ x l=>.inl (bif okC c days loans x then l++[mkC c x] else l)) (fun l=>(l,())) (by show c.Items.length<18446744073709551616;omega)
  (fun l _=>by simp only[zx5,dge,cond_false])
  (fun i x l hx hl=>by
   have hi:=(List.getElem?_eq_some_iff.1 hx).1
   have hlim:decide (l.length+([mkC c x]:List Weed_candidate).length≤LIM)=true:=by rw[zkk];simp;omega
   refine ⟨?_,fun s' hs'=>?_⟩
   ·simp only[zx5,dlt hi,cond_true,zaq,hx,z7x h,zau6 (show c.Moves.length<1000000000 by omega),zat (show i<9223372036854775807 by omega),okC]
    rw[show (⟨x.ID,x.Record,(usC c x.ID).1,(usC c x.ID).2⟩:Weed_candidate)=mkC c x from rfl,hlim]
    cases x.Custody.State==3<;>cases decide ((usC c x.ID).1≤loans)<;>cases decide (days<wr .i64 (c.Today-(usC c x.ID).2))<;>cases zamp c x<;>rfl
   ·cases hs'
    cases okC c days loans x<;>simp<;>omega)
  [] (by simp)
 unfold qh
 rw[show zah zx5 (days,loans,c.Items,(c.Items.length:Int),0,c,([]:List Weed_candidate),())=_ from hw,zfk,zrm]
 simp only[List.nil_append]
 have hl:=ze2 h days loans
 have e:qda (fun (g:Unit×Unit) x0 x1=>qd7 x0 x1) (zdy c days loans) ((),())=some (pdqL cfC (zdy c days loans)):=by
  show (bif decide ((zdy c days loans).length≤LIM) then some (pdqL cfC (zdy c days loans)) else none)=_
  rw[zkk,decide_eq_true (by omega)]
  rfl
 rw[show (c.Items.filter (okC c days loans)).map (mkC c)=zdy c days loans from rfl,e]
theorem zp6 (L:List Weed_candidate):(pdqL cfC L).Perm L∧(pdqL cfC L).Pairwise (fun a b=>¬cfC b a<0):=by
 have h:=Go.Sort.pdq_sorts (Go.Proofs.ltOf cfC) zqw L.toArray 0 L.toArray.size (Go.Lib.bitLen L.toArray.size) true true (Nat.zero_le _) (Nat.le_refl _) (Or.inl rfl)
 generalize hd:Go.Sort.pdq (Go.Proofs.ltOf cfC) L.toArray 0 L.toArray.size (Go.Lib.bitLen L.toArray.size) true true=d at h
 have hd':pdqL cfC L=d.toList:=by rw[←hd];rfl
 obtain ⟨⟨hs,-,hp⟩,hso⟩:=h
 rw[hd']
 constructor
 ·have e1:d.extract 0 L.toArray.size=d:=by rw[←hs];simp
  have e2:L.toArray.extract 0 L.toArray.size=L.toArray:=by simp
  rw[e1,e2]at hp
  exact hp
 ·rw[List.pairwise_iff_getElem]
  intro i j hi hj hij
  have hj':j<L.toArray.size:=by rw[←hs];simpa using hj
  have:=hso i j (Nat.zero_le _) hij hj'
  unfold Go.Proofs.ltOf at this
  rw[decide_eq_false_iff_not]at this
  have hi2:i<d.size:=by simpa using hi
  have hj2:j<d.size:=by simpa using hj
  rw[getElem!_pos d i hi2,getElem!_pos d j hj2]at this
  simpa using this
theorem zhx (L:List Weed_candidate):(pdqL cfC L).length=L.length:=(zp6 L).1.length_eq
theorem zau8 {c:Circ} (h:WeedS c) (days loans:Int):qai c days loans=some ((pdqL cfC (zdy c days loans)).map (·.id_)):=by
 have hl:=ze2 h days loans
 have hn:=zhx (zdy c days loans)
 unfold qai
 rw[zavv h]
 simp only
 generalize pdqL cfC (zdy c days loans)=v at hn
 have hw:=zc7 (step:=zlg) (fun i (l:List Int)=>l.length≤i) (fun i l=>(v,(v.length:Int),(i:Int),l,())) v
  (fun _ x l=>.inl (l++[x.id_])) (fun l=>(l,())) (by show v.length<18446744073709551616;omega)
  (fun l _=>by simp only[zlg,dge,cond_false])
  (fun i x l hx hl=>by
   have hi:=(List.getElem?_eq_some_iff.1 hx).1
   have hlim:decide (l.length+([x.id_]:List Int).length≤LIM)=true:=by rw[zkk];simp;omega
   refine ⟨?_,fun s' hs'=>?_⟩
   ·simp only[zlg,dlt hi,cond_true,zaq,hx,zat (show i<9223372036854775807 by omega),hlim]
   ·cases hs';simp;omega)
  [] (by simp)
 rw[show zah zlg (v,(v.length:Int),0,([]:List Int),())=_ from hw,zfk]
 have e:∀(l:List Weed_candidate) (acc:List Int),l.foldl (fun s x=>s++[x.id_]) acc=acc++l.map (·.id_):=by
  intro l
  induction l with
  |nil=>intro acc;simp
  |cons x l ih=>intro acc;rw[List.foldl_cons,ih];simp
 rw[e]
 rfl
end Go.Proofs.YtpaidiaknfhclaaGreatDoor
namespace Go.Proofs.YtpaidiaknfhclaaGreatDoor
open Go Ev
def ltB (c:Circ) (a b:Int):Bool:=
 bif !((usC c a).1==(usC c b).1) then decide ((usC c a).1<(usC c b).1) else bif !((usC c a).2==(usC c b).2) then decide ((usC c a).2<(usC c b).2) else decide (a<b)
theorem zi8 (c:Circ) (a b:Int):ltB c a b=true↔(usC c a).1<(usC c b).1∨((usC c a).1=(usC c b).1∧((usC c a).2<(usC c b).2∨((usC c a).2=(usC c b).2∧a<b))):=by
 unfold ltB
 by_cases h1:(usC c a).1=(usC c b).1
 ·by_cases h2:(usC c a).2=(usC c b).2
  ·simp[h1,h2]
  ·simp[h1,h2]
 ·simp[h1]
theorem z3z {c:Circ} {a b:Int} (h:ltB c a b=true):ltB c b a=false:=by
 rw[zi8]at h
 cases e:ltB c b a with
 |false=>rfl
 |true=>rw[zi8]at e;omega
theorem z30 {c:Circ} {x y z:Int} (h1:ltB c x y=true) (h2:ltB c y z=true):ltB c x z=true:=by
 rw[zi8]at *;omega
theorem zanw {c:Circ} {a b:Int} (h1:ltB c a b=false) (h2:ltB c b a=false):a=b:=by
 have n1:¬ltB c a b=true:=by rw[h1];simp
 have n2:¬ltB c b a=true:=by rw[h2];simp
 rw[zi8]at n1 n2
 omega
theorem zas7 (c:Circ) (x y:Item):cfC (mkC c x) (mkC c y)<0↔ltB c x.ID y.ID=true:=by rw[ztm,zi8];rfl
def insR (p:Int→Bool) (id:Int):List Int→List Int
 | []=>[id]
 |x::xs=>bif p x then id::x::xs else x::insR p id xs
theorem zoq (p:Int→Bool) (id:Int):∀l:List Int,(insR p id l).Perm (id::l):=by
 intro l
 induction l with
 |nil=>exact .refl _
 |cons x l ih=>
  unfold insR
  cases p x with
  |true=>exact .refl _
  |false=>exact (List.Perm.cons x ih).trans (List.Perm.swap id x l)
theorem zro (c:Circ) (id:Int):∀l:List Int,l.Pairwise (fun a b=>ltB c b a=false)→(insR (ltB c id) id l).Pairwise (fun a b=>ltB c b a=false):=by
 intro l
 induction l with
 |nil=>intro _;simp[insR]
 |cons x l ih=>
  intro h
  unfold insR
  cases hp:ltB c id x with
  |true=>
   rw[cond_true,List.pairwise_cons]
   refine ⟨fun y hy=>?_,h⟩
   rcases List.mem_cons.1 hy with rfl|hy
   ·exact z3z hp
   ·have:=(List.pairwise_cons.1 h).1 y hy
    cases e:ltB c y id with
    |false=>rfl
    |true=>rw[z30 e hp]at this;cases this
  |false=>
   rw[List.pairwise_cons]at h
   rw[cond_false,List.pairwise_cons]
   refine ⟨fun y hy=>?_,ih h.2⟩
   rcases List.mem_cons.1 ((zoq _ _ l).mem_iff.1 hy) with rfl|hy
   ·exact hp
   ·exact h.1 y hy
theorem zop (c:Circ):∀(l acc:List Int),acc.Pairwise (fun a b=>ltB c b a=false)→
 (l.foldl (fun s id=>insR (ltB c id) id s) acc).Pairwise (fun a b=>ltB c b a=false)∧(l.foldl (fun s id=>insR (ltB c id) id s) acc).Perm (l++acc):=by
 intro l
 induction l with
 |nil=>intro acc h;exact ⟨h,.refl _⟩
 |cons x l ih=>
  intro acc h
  rw[List.foldl_cons]
  obtain ⟨h1,h2⟩:=ih (insR (ltB c x) x acc) (zro c x acc h)
  refine ⟨h1,h2.trans ?_⟩
  exact ((zoq _ _ _).append_left l).trans List.perm_middle
def refC (c:Circ) (days loans:Int):List Int:=((c.Items.filter (okC c days loans)).map (·.ID)).foldl (fun s id=>insR (ltB c id) id s) []
theorem zgu (c:Circ) (days loans:Int):(pdqL cfC (zdy c days loans)).map (·.id_)=refC c days loans:=by
 obtain ⟨p1,p2⟩:=zp6 (zdy c days loans)
 obtain ⟨q1,q2⟩:=zop c ((c.Items.filter (okC c days loans)).map (·.ID)) [] .nil
 refine zrz (R:=fun a b=>ltB c b a=false) (fun a b h1 h2=>zanw h2 h1) ?_ ?_ q1
 ·refine (p1.map _).trans ?_
  rw[List.append_nil]at q2
  refine List.Perm.trans ?_ q2.symm
  unfold zdy
  rw[List.map_map]
  exact .refl _
 ·rw[List.pairwise_map]
  refine List.Pairwise.imp_of_mem (fun {a b} ha hb hab=>?_) p2
  have ha:=p1.mem_iff.1 ha
  have hb:=p1.mem_iff.1 hb
  unfold zdy at ha hb
  obtain ⟨x,-,rfl⟩:=List.mem_map.1 ha
  obtain ⟨y,-,rfl⟩:=List.mem_map.1 hb
  rw[zas7]at hab
  simpa[mkC]using hab
theorem zng {c:Circ} (h:WeedS c) (days loans:Int):(refC c days loans).length≤10:=by
 rw[←zgu,List.length_map,zhx]
 exact ze2 h days loans
theorem zyo {c:Circ} (h:WeedS c) (days loans:Int):qai c days loans=some (refC c days loans):=by rw[zau8 h,zgu]
end Go.Proofs.YtpaidiaknfhclaaGreatDoor
namespace Go.Proofs.YtpaidiaknfhclaaGreatDoor
open Go Ev
theorem zaah (k n:Int) (e:MapI) (he:e.key=k):∀m:List MapI,getM MapI.key n (setM MapI.key k e m)=bif k==n then some e else getM MapI.key n m:=by
 intro m
 induction m with
 |nil=>
  unfold setM getM
  rw[he]
  cases k==n<;>rfl
 |cons x m ih=>
  unfold setM
  cases hx:x.key==k with
  |true=>
   rw[cond_true]
   unfold getM
   rw[he]
   have:x.key=k:=by simpa using hx
   rw[this]
   cases k==n<;>rfl
  |false=>
   rw[cond_false]
   unfold getM
   rw[ih]
   cases hn:x.key==n with
   |true=>
    have h1:x.key=n:=by simpa using hn
    have h2:(k==n)=false:=by
     rw[beq_eq_false_iff_ne]at hx ⊢
     intro q;exact hx (h1.trans q.symm)
    rw[h2];rfl
   |false=>cases k==n<;>rfl
def cnt (T:List Weed_candidate) (r:Int):Int:=((T.filter (fun t=>t.record==r)).length:Int)
theorem z9u (T:List Weed_candidate) (x:Weed_candidate) (r:Int):cnt (T++[x]) r=cnt T r+(bif x.record==r then 1 else 0):=by
 unfold cnt
 rw[List.filter_append,List.length_append]
 cases h:x.record==r<;>simp[h]
theorem zas8 (T:List Weed_candidate) (r:Int):0≤cnt T r∧cnt T r≤T.length:=by
 unfold cnt
 have:=List.length_filter_le (fun t:Weed_candidate=>t.record==r) T
 omega
theorem zatx {c:Circ} (h:c.Items.length<1000000) (r:Int):0≤cpC c r∧cpC c r≤c.Items.length:=by
 unfold cpC
 have key:∀(l:List Item) (n:Int),0≤n→n+l.length<100000000→0≤l.foldl (fun s x=>cpF r x s) n∧l.foldl (fun s x=>cpF r x s) n≤n+l.length:=by
  intro l
  induction l with
  |nil=>intro n h1 h2;simp;omega
  |cons x l ih=>
   intro n h1 h2
   rw[List.foldl_cons]
   have hl:((x::l).length:Int)=l.length+1:=by simp
   have:cpF r x n=n∨cpF r x n=n+1:=by
    unfold cpF
    rw[zdr (by omega) (by omega)]
    cases x.Record==r&&!(x.Custody.State==12)<;>simp
   rcases this with e|e
   ·rw[e];obtain ⟨q1,q2⟩:=ih n h1 (by omega);omega
   ·rw[e];obtain ⟨q1,q2⟩:=ih (n+1) (by omega) (by omega);omega
 have:=key c.Items 0 (by omega) (by omega)
 omega
def zfv (c:Circ) (most:Int) (T:List Weed_candidate) (x:Weed_candidate):List Weed_candidate:=
 bif decide ((T.length:Int)<most)&&decide (1<cpC c x.record-cnt T x.record) then T++[x] else T
def zjc (c:Circ) (days loans most:Int):List Weed_candidate:=(pdqL cfC (zdy c days loans)).foldl (zfv c most) []
theorem zp7 (c:Circ) (most:Int) (T:List Weed_candidate) (x:Weed_candidate):(zfv c most T x).length≤T.length+1:=by
 unfold zfv
 cases decide ((T.length:Int)<most)&&decide (1<cpC c x.record-cnt T x.record)<;>simp
theorem zavk {c:Circ} (h:WeedS c) (days loans most:Int):qba c days loans most=some ((zjc c days loans most).map (·.id_)):=by
 have hi':=h.items
 have hl:=ze2 h days loans
 have hn:=zhx (zdy c days loans)
 unfold qba zjc
 rw[zavv h]
 simp only
 generalize pdqL cfC (zdy c days loans)=v at hn
 have hw:=zc7 (step:=zlo) (fun i (s:List Weed_candidate×List MapI)=>s.1.length≤i∧∀r,zrx MapI.key MapI.val s.2 r=cnt s.1 r)
  (fun i s=>(most,v,(v.length:Int),(i:Int),c,s.1.map (·.id_),s.2,())) v
  (fun _ x s=>.inl (zfv c most s.1 x,bif decide ((s.1.length:Int)<most)&&decide (1<cpC c x.record-cnt s.1 x.record) then setM MapI.key x.record (⟨x.record,cnt s.1 x.record+1⟩:MapI) s.2 else s.2)) (fun s=>(s.1.map (·.id_),())) (by show v.length<18446744073709551616;omega)
  (fun s _=>by simp only[zlo,dge,cond_false])
  (fun i x s hx hs=>by
   have hi:=(List.getElem?_eq_some_iff.1 hx).1
   obtain ⟨T,m⟩:=s
   obtain ⟨s1,s2⟩:=hs
   simp only at s1 s2
   have hlim:decide (T.length+([x.id_]:List Int).length≤LIM)=true:=by rw[zkk];simp;omega
   have hc:=zas8 T x.record
   have hp:=zatx (c:=c) (by omega) x.record
   refine ⟨?_,fun s' hs'=>?_⟩
   ·simp only[zlo,dlt hi,cond_true,zaq,hx,zavg (show c.Items.length<1000000000 by omega),zat (show i<9223372036854775807 by omega),s2,hlim,List.length_map,
     zdr (show -9223372036854775808≤cpC c x.record-cnt T x.record by omega) (by omega),zdr (show -9223372036854775808≤cnt T x.record+1 by omega) (by omega),zfv]
    cases decide ((T.length:Int)<most)<;>cases decide (1<cpC c x.record-cnt T x.record)<;>simp
   ·cases hs'
    simp only
    refine ⟨by have:=zp7 c most T x;omega,fun r=>?_⟩
    unfold zfv
    cases hb:decide ((T.length:Int)<most)&&decide (1<cpC c x.record-cnt T x.record) with
    |false=>rw[cond_false,cond_false];exact s2 r
    |true=>
     rw[cond_true,cond_true,z9u]
     unfold zrx
     rw[zaah x.record r ⟨x.record,cnt T x.record+1⟩ rfl]
     cases hr:x.record==r with
     |true=>
      have:x.record=r:=by simpa using hr
      subst this
      simp
     |false=>
      rw[cond_false,cond_false,Int.add_zero]
      exact s2 r)
  ([],[]) ⟨by simp,fun r=>rfl⟩
 rw[show zah zlo (most,v,(v.length:Int),0,c,([]:List Int),([]:List MapI),())=_ from hw,zfk]
 have e:∀(l:List Weed_candidate) (s:List Weed_candidate×List MapI),(l.foldl (fun (s:List Weed_candidate×List MapI) x=>(zfv c most s.1 x,bif decide ((s.1.length:Int)<most)&&decide (1<cpC c x.record-cnt s.1 x.record) then setM MapI.key x.record (⟨x.record,cnt s.1 x.record+1⟩:MapI) s.2 else s.2)) s).1=l.foldl (zfv c most) s.1:=by
  intro l
  induction l with
  |nil=>intro s;rfl
  |cons x l ih=>intro s;rw[List.foldl_cons,List.foldl_cons,ih]
 rw[e]
theorem z4c {c:Circ} (h:WeedS c) (days loans most:Int):(zjc c days loans most).length≤10:=by
 have hl:=ze2 h days loans
 have hn:=zhx (zdy c days loans)
 unfold zjc
 generalize pdqL cfC (zdy c days loans)=v at hn
 have key:∀(l T:List Weed_candidate),(l.foldl (zfv c most) T).length≤T.length+l.length:=by
  intro l
  induction l with
  |nil=>intro T;simp
  |cons x l ih=>
   intro T
   rw[List.foldl_cons]
   have:=ih (zfv c most T x)
   have:=zp7 c most T x
   simp only[List.length_cons]
   omega
 have:=key v []
 simp at this
 omega
end Go.Proofs.YtpaidiaknfhclaaGreatDoor
namespace Go.Proofs.YtpaidiaknfhclaaGreatDoor
open Go Ev
theorem zacu {a p:Int} {l1 ps:List Int} (h:(p::ps).Sublist (a::l1)):if a=p then ps.Sublist l1 else (p::ps).Sublist l1:=by
 split
 ·rename_i e
  cases h with
  |cons _ h=>exact (List.sublist_cons_self p ps).trans h
  |cons_cons _ h=>exact h
 ·rename_i e
  cases h with
  |cons _ h=>exact h
  |cons_cons _ h=>exact absurd rfl e
theorem zaad (days loans most more:Int) (c:Circ) (all plan:List Int) (ha:all.length≤1000) (hp:plan.length≤1000) (hs:plan.Sublist all) :
 zah zr5 (days,loans,most,more,all,plan,0,0,c,())=some (days,loans,most,more,all,plan,(plan.length:Int),c,()):=by
 have hw:=zc7 (step:=zr5) (fun i (n:Nat)=>n≤plan.length∧(plan.drop n).Sublist (all.drop i)) (fun i n=>(days,loans,most,more,all,plan,(n:Int),(i:Int),c,())) all
  (fun _ x n=>if n<plan.length then .inl (bif x==plan[n]! then n+1 else n) else .inr (days,loans,most,more,all,plan,(plan.length:Int),c,())) (fun n=>(days,loans,most,more,all,plan,(plan.length:Int),c,())) (by show all.length<18446744073709551616;omega)
  (fun n hn=>by
   obtain ⟨h1,h2⟩:=hn
   rw[List.drop_length]at h2
   have h3:=List.sublist_nil.1 h2
   have h4:n=plan.length:=by
    have:=congrArg List.length h3
    simp at this
    omega
   subst h4
   simp only[zr5,dge,cond_false])
  (fun i x n hx hn=>by
   have hi:=(List.getElem?_eq_some_iff.1 hx).1
   obtain ⟨h1,h2⟩:=hn
   by_cases hlt:n<plan.length
   ·have e1:plan[n]?=some plan[n]!:=by simp[hlt]
    rw[if_pos hlt]
    refine ⟨?_,fun s' hs'=>?_⟩
    ·simp only[zr5,dlt hi,cond_true,zaq,hx,dlt hlt,e1,zat (show i<9223372036854775807 by omega),zat (show n<9223372036854775807 by omega)]
     cases x==plan[n]!<;>rfl
    ·cases hs'
     rw[List.drop_eq_getElem_cons hlt,List.drop_eq_getElem_cons hi]at h2
     have hx':all[i]=x:=(List.getElem?_eq_some_iff.1 hx).2
     have hp':plan[n]! = plan[n]:=by simp[hlt]
     have:=zacu h2
     rw[hx',←hp']at this
     by_cases q:x=plan[n]!
     ·rw[if_pos q]at this
      rw[show (x==plan[n]!)=true by simpa using q,cond_true]
      exact ⟨by omega,this⟩
     ·rw[if_neg q,hp',←List.drop_eq_getElem_cons hlt]at this
      rw[show (x==plan[n]!)=false by simpa using q,cond_false]
      exact ⟨h1,this⟩
   ·have h4:n=plan.length:=by omega
    subst h4
    rw[if_neg hlt]
    refine ⟨?_,fun s' hs'=>by cases hs'⟩
    simp only[zr5,dlt hi,dge,cond_true,cond_false])
  0 ⟨Nat.zero_le _,by simpa using hs⟩
 have e:∀(l:List Int) (i n:Nat),zex (fun _ x n=>if n<plan.length then .inl (bif x==plan[n]! then n+1 else n) else .inr (days,loans,most,more,all,plan,(plan.length:Int),c,())) (fun n=>(days,loans,most,more,all,plan,(plan.length:Int),c,())) i l n=(days,loans,most,more,all,plan,(plan.length:Int),c,()):=by
  intro l
  induction l with
  |nil=>intros;rfl
  |cons x l ih=>
   intro i n
   unfold zex
   by_cases h:n<plan.length
   ·rw[if_pos h];exact ih _ _
   ·rw[if_neg h]
 rw[e]at hw
 exact hw
theorem zaae (all l:List Int) (i v v27:Int) (ls:List (List Int)) (x:Int) (ha:all.length≤1000) (hx:getI l i=some x) (hm:x∈all) :
 zah zjj (all,l,i,false,0,v,v27,ls,())=some (all,l,i,true,v,v27,ls,()):=by
 have hw:=zf0 (step:=zjj) (fun k (b:Bool)=>(all,l,i,b,(k:Int),v,v27,ls,())) all (fun y b=>b||y==x) (fun b=>(all,l,i,b,v,v27,ls,())) (by omega)
  (fun b=>by simp only[zjj,dge,cond_false])
  (fun k y b hy=>by
   have hk:=(List.getElem?_eq_some_iff.1 hy).1
   simp only[zjj,dlt hk,cond_true,zaq,hy,hx,zat (show k<9223372036854775807 by omega)]
   cases b<;>rfl)
  false
 have e:∀(l:List Int) (b:Bool),l.foldl (fun b y=>b||y==x) b=(b||l.contains x):=by
  intro l
  induction l with
  |nil=>intro b;simp
  |cons y l ih=>
   intro b
   rw[List.foldl_cons,ih]
   have:(y==x)=(x==y):=by rw[Bool.eq_iff_iff,beq_iff_eq,beq_iff_eq];exact eq_comm
   rw[List.contains_cons,this,Bool.or_assoc]
 rw[show zah zjj (all,l,i,false,0,v,v27,ls,())=_ from hw,e]
 simp[hm]
theorem zoh (all l:List Int) (v v25:Int) (ls:List (List Int)) (ha:all.length≤1000) (hl:l.length≤1000) (hs:∀x∈l,x∈all) :
 zah zgo (all,l,0,v,v25,ls,())=some (.inl (all,v,v25,ls,())):=by
 have hw:=za3 (step:=zgo) (fun i=>(all,l,(i:Int),v,v25,ls,())) l (fun _ _=>true) (.inr (false,())) (.inl (all,v,v25,ls,())) (by omega)
  (by simp only[zgo,dge,cond_false])
  (fun i x hx=>by
   have hi:=(List.getElem?_eq_some_iff.1 hx).1
   simp only[zgo,dlt hi,cond_true,zaae all l (i:Int) v v25 ls x ha (by rw[zaq];exact hx) (hs x (List.mem_of_getElem? hx)),zat (show i<9223372036854775807 by omega),Bool.not_true,cond_false])
 rw[show zah zgo (all,l,0,v,v25,ls,())=_ from hw,zbu,show (l.all fun _=>true)=true by simp]
 rfl
theorem z1w (all a b:List Int) (ha:all.length≤1000) (h1:a.length≤1000) (h2:b.length≤1000) (s1:∀x∈a,x∈all) (s2:∀x∈b,x∈all) :
 zah zlq (all,(([a,b]).length:Int),0,[a,b],())=some (.inl ()):=by
 refine zen 3 (by decide) ?_
 have e0:zlq (all,(([a,b]).length:Int),0,[a,b],())=some (.inl (all,2,1,[a,b],())):=by
  show (match zah zgo (all,a,0,2,0,[a,b],()) with|some (.inl (vall38,v39,v40,l41,_))=>(some (.inl (vall38,v39,wr .i64 (v40+1),l41,())):Option ((List Int×Int×Int×List (List Int)×Unit)⊕(Unit⊕(Bool×Unit))))|some (.inr (v42,_))=>some (.inr (.inr (v42,())))|none=>none)=_
  rw[zoh all a 2 0 [a,b] ha h1 s1]
  rfl
 have e1:zlq (all,2,1,[a,b],())=some (.inl (all,2,2,[a,b],())):=by
  show (match zah zgo (all,b,0,2,1,[a,b],()) with|some (.inl (vall38,v39,v40,l41,_))=>(some (.inl (vall38,v39,wr .i64 (v40+1),l41,())):Option ((List Int×Int×Int×List (List Int)×Unit)⊕(Unit⊕(Bool×Unit))))|some (.inr (v42,_))=>some (.inr (.inr (v42,())))|none=>none)=_
  rw[zoh all b 2 1 [a,b] ha h2 s2]
  rfl
 have e2:zlq (all,2,2,[a,b],())=some (.inr (.inl ())):=rfl
 simp only[zci,e0,e1,e2]
theorem zvu (c:Circ) (days loans:Int) (id:Int):id∈refC c days loans↔∃x∈c.Items,okC c days loans x=true∧x.ID=id:=by
 obtain ⟨-,q2⟩:=zop c ((c.Items.filter (okC c days loans)).map (·.ID)) [] .nil
 rw[List.append_nil]at q2
 unfold refC
 rw[q2.mem_iff,List.mem_map]
 constructor
 ·rintro ⟨x,hx,rfl⟩
  exact ⟨x,(List.mem_filter.1 hx).1,(List.mem_filter.1 hx).2,rfl⟩
 ·rintro ⟨x,h1,h2,rfl⟩
  exact ⟨x,List.mem_filter.2 ⟨h1,h2⟩,rfl⟩
theorem zvq {c:Circ} {d1 d2 l1 l2:Int} {x:Item} (hd:d1≤d2) (hl:l2≤l1) (h:okC c d2 l2 x=true):okC c d1 l1 x=true:=by
 unfold okC at *
 simp only[Bool.and_eq_true,decide_eq_true_eq]at *
 obtain ⟨h1,h2,h3,h4⟩:=h
 exact ⟨h1,by omega,by omega,h4⟩
theorem z4d (c:Circ) (days loans most:Int):((zjc c days loans most).map (·.id_)).Sublist (refC c days loans)∧((zjc c days loans most).length:Int)≤if most<0 then 0 else most:=by
 rw[←zgu]
 unfold zjc
 generalize pdqL cfC (zdy c days loans)=v
 have key:∀(l T pre:List Weed_candidate),T.Sublist pre→((T.length:Int)≤if most<0 then 0 else most)→(l.foldl (zfv c most) T).Sublist (pre++l)∧(((l.foldl (zfv c most) T).length:Int)≤if most<0 then 0 else most):=by
  intro l
  induction l with
  |nil=>intro T pre h1 h2;simpa using ⟨h1,h2⟩
  |cons x l ih=>
   intro T pre h1 h2
   rw[List.foldl_cons]
   have h3:(zfv c most T x).Sublist (pre++[x])∧(((zfv c most T x).length:Int)≤if most<0 then 0 else most):=by
    unfold zfv
    by_cases q:(T.length:Int)<most
    ·rw[decide_eq_true q,Bool.true_and]
     cases decide (1<cpC c x.record-cnt T x.record) with
     |true=>
      refine ⟨h1.append (List.Sublist.refl _),?_⟩
      rw[cond_true,List.length_append]
      have:¬most<0:=by omega
      rw[if_neg this]
      simp;omega
     |false=>exact ⟨h1.trans (List.sublist_append_left _ _),h2⟩
    ·rw[decide_eq_false q]
     exact ⟨h1.trans (List.sublist_append_left _ _),h2⟩
   have:=ih _ _ h3.1 h3.2
   rwa [List.append_assoc]at this
 have:=key v [] [] (List.Sublist.refl _) (by split<;>simp<;>omega)
 exact ⟨by simpa using this.1.map (·.id_),this.2⟩
theorem zkd (c:Circ) (days loans most more:Int) (h4:inK .u8 more):qf c days loans most more=some true:=by
 have hm0:0≤more∧more≤255:=by
  have h:IntKind.u8.min≤more∧more≤IntKind.u8.max:=by simpa[inK,Lit.wf]using h4
  exact h
 unfold qf
 simp only[zavq,zv3]
 cases hb:zjy c&&zlu c with
 |false=>rfl
 |true=>
  simp only[Bool.and_eq_true]at hb
  have hm:=zahf hb.1
  have h:=zaxu hm
  have m:=zamo hm (fitP hb.2)
  by_cases b1:days < -1000000
  ·simp[b1]
  by_cases b2:1000000<days
  ·simp[b1,b2]
  by_cases b3:loans < -1000000
  ·simp[b1,b2,b3]
  by_cases b4:1000000<loans
  ·simp[b1,b2,b3,b4]
  have hl:=z4c h days loans most
  have hr:=zng h days loans
  obtain ⟨p1,p2⟩:=z4d c days loans most
  have hlm:((zjc c days loans most).map (·.id_)).length=(zjc c days loans most).length:=List.length_map _
  have w1:wr .i64 more=more:=zdr (by omega) (by omega)
  have w2:wr .i64 (days+more)=days+more:=zdr (by omega) (by omega)
  have w3:wr .i64 (loans-more)=loans-more:=zdr (by omega) (by omega)
  have hr1:=zng h (days+more) loans
  have hr2:=zng h days (loans-more)
  have s1:∀x∈refC c (days+more) loans,x∈refC c days loans:=fun x hx=>by
   rw[zvu]at hx ⊢
   obtain ⟨y,y1,y2,y3⟩:=hx
   exact ⟨y,y1,zvq (by omega) (Int.le_refl _) y2,y3⟩
  have s2:∀x∈refC c days (loans-more),x∈refC c days loans:=fun x hx=>by
   rw[zvu]at hx ⊢
   obtain ⟨y,y1,y2,y3⟩:=hx
   exact ⟨y,y1,zvq (Int.le_refl _) (by omega) y2,y3⟩
  have hmax:decide ((if most<0 then 0 else most)<(((zjc c days loans most).map (·.id_)).length:Int))=false:=by
   rw[decide_eq_false_iff_not,hlm];omega
  simp only[b1,b2,b3,b4,decide_false,Bool.not_true,cond_false,zyo h,zavk h,zaad days loans most more c _ _ (show (refC c days loans).length≤1000 by omega) (show ((zjc c days loans most).map (·.id_)).length≤1000 by omega) p1,
   beq_self_eq_true,hmax,w1,w2,w3,z1w _ _ _ (show (refC c days loans).length≤1000 by omega) (show (refC c (days+more) loans).length≤1000 by omega) (show (refC c days (loans-more)).length≤1000 by omega) s1 s2]
end Go.Proofs.YtpaidiaknfhclaaGreatDoor
