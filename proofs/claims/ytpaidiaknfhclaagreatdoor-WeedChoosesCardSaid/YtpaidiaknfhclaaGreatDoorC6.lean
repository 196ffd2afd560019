/- WeedChooses: a part of the proof of the given statement, which is proved without conditions. -/
import Derived.Test.YtpaidiaknfhclaaGreatDoorC5
import Derived.KernelRfl
set_option linter.all false
namespace Go.Proofs.YtpaidiaknfhclaaGreatDoor
open Ev
open Go (IntKind)
def zha (c:Circ):Bool:=zcd c.Cals.x0==0&&(zcd c.Cals.x1==0&&(zcd c.Cals.x2==0&&zcd c.Cals.x3==0))
theorem zw6 {c:Circ} (hs:Short c):zah zgx (0,c,())=some (bif zha c then .inl (c,()) else .inr (false,())):=by
 have s0:zgx (0,c,())=bif zcd c.Cals.x0==0 then some (.inl (1,c,())) else some (.inr (.inr (false,()))):=by
  show (match qaa c.Cals.x0 with|some r=>(bif !(r==0) then (some (.inr (.inr (false,()))):Option ((Int×Circ×Unit)⊕((Circ×Unit)⊕(Bool×Unit)))) else some (.inl (1,c,())))|none=>none)=_
  rw[zux hs.cal0];dsimp only;cases zcd c.Cals.x0==0<;>rfl
 have s1:zgx (1,c,())=bif zcd c.Cals.x1==0 then some (.inl (2,c,())) else some (.inr (.inr (false,()))):=by
  show (match qaa c.Cals.x1 with|some r=>(bif !(r==0) then (some (.inr (.inr (false,()))):Option ((Int×Circ×Unit)⊕((Circ×Unit)⊕(Bool×Unit)))) else some (.inl (2,c,())))|none=>none)=_
  rw[zux hs.cal1];dsimp only;cases zcd c.Cals.x1==0<;>rfl
 have s2:zgx (2,c,())=bif zcd c.Cals.x2==0 then some (.inl (3,c,())) else some (.inr (.inr (false,()))):=by
  show (match qaa c.Cals.x2 with|some r=>(bif !(r==0) then (some (.inr (.inr (false,()))):Option ((Int×Circ×Unit)⊕((Circ×Unit)⊕(Bool×Unit)))) else some (.inl (3,c,())))|none=>none)=_
  rw[zux hs.cal2];dsimp only;cases zcd c.Cals.x2==0<;>rfl
 have s3:zgx (3,c,())=bif zcd c.Cals.x3==0 then some (.inl (4,c,())) else some (.inr (.inr (false,()))):=by
  show (match qaa c.Cals.x3 with|some r=>(bif !(r==0) then (some (.inr (.inr (false,()))):Option ((Int×Circ×Unit)⊕((Circ×Unit)⊕(Bool×Unit)))) else some (.inl (4,c,())))|none=>none)=_
  rw[zux hs.cal3];dsimp only;cases zcd c.Cals.x3==0<;>rfl
 have s4:zgx (4,c,())=some (.inr (.inl (c,()))):=rfl
 refine zev 5 (by rw[zlj];omega) ?_
 unfold zha
 simp only[zcl,s0,s1,s2,s3,s4]
 cases zcd c.Cals.x0==0 with
 |false=>rfl
 |true=>
  simp only[cond_true,zcl,s1]
  cases zcd c.Cals.x1==0 with
  |false=>rfl
  |true=>
   simp only[cond_true,zcl,s2]
   cases zcd c.Cals.x2==0 with
   |false=>rfl
   |true=>
    simp only[cond_true,zcl,s3]
    cases zcd c.Cals.x3==0 with
    |false=>rfl
    |true=>simp only[cond_true,zcl,s4];rfl
def zdw (c:Circ) (x:Charge):Bool:=!(!(getP c.Patrons x.Patron).2||decide (c.NextCharge≤x.ID))
theorem zrd {c:Circ} (hs:Short c):zah zfh (0,c,())=some (bif c.Charges.all (zdw c) then .inl (c,()) else .inr (false,())):=by
 have h:=za1 (step:=zfh) (fun i=>((i:Int),c,())) c.Charges (fun _=>zdw c) (.inr (false,())) (.inl (c,())) hs.charges
  (by simp only[zfh,dge,cond_false])
  (fun i x hx=>by
   have hi:=(List.getElem?_eq_some_iff.1 hx).1
   have:=hs.charges
   unfold zdw
   simp -zeta only[zfh,dlt hi,zaq,hx,cond_true,k_or,zpj hs.patrons,zau (show i<9223372036854775807 by omega)]
   dsimp only
   cases (!(getP c.Patrons x.Patron).2||decide (c.NextCharge≤x.ID))<;>rfl)
 rw[show zah zfh (0,c,())=_ from h,zbj]
def zuv (c:Circ):Bool:=!(decide (c.Today<0)||decide (109572<c.Today)||decide (c.NextHold<1)||decide (100000<c.NextHold)||decide (c.NextCharge<1)||decide (100000<c.NextCharge))
def zoa (c:Circ):Bool:=!(!(ze2 c.Patrons==0)||!(zhg c.Loans==0)||!(zhe c.Holds==0)||!(zez c.Charges==0)||!(zho c.Rules==0))
def zu2 (c:Circ):Bool:=zuv c&&(zoa c&&(zha c&&(c.Charges.all (zdw c)&&(zf2 c&&(zf3 c&&zfw c)))))
theorem zauf {c:Circ} (hs:Short c):qae c=some (zu2 c):=by
 unfold qae zu2 zuv zoa
 simp -zeta only[k_or,zb0,zauo hs.patrons hs.name,zaum hs.loans,zawq hs.holds,zaun hs.charges,zaws hs.rules]
 dsimp only
 rw[zw6 hs]
 generalize (decide (c.Today<0)||decide (109572<c.Today)||decide (c.NextHold<1)||decide (100000<c.NextHold)||decide (c.NextCharge<1)||decide (100000<c.NextCharge))=b1
 generalize (!(ze2 c.Patrons==0)||!(zhg c.Loans==0)||!(zhe c.Holds==0)||!(zez c.Charges==0)||!(zho c.Rules==0))=b2
 cases b1 with
 |true=>rfl
 |false=>
  cases b2 with
  |true=>rfl
  |false=>
   cases zha c with
   |false=>rfl
   |true=>
    simp only[cond_false,cond_true,zrd hs]
    cases c.Charges.all (zdw c) with
    |false=>rfl
    |true=>
     simp -zeta only[cond_false,cond_true,zawv hs,zawu hs,zawo hs,zb0]
     try dsimp only
     cases zf2 c<;>cases zf3 c<;>cases zfw c<;>rfl
def zjj (c:Circ):Bool:=
 !(decide (10<(c.Items.length:Int))||decide (8<(c.Patrons.length:Int))||decide (12<(c.Holds.length:Int))||decide (12<(c.Loans.length:Int))||decide (30<(c.Charges.length:Int))||decide (10<(c.Rules.length:Int))||decide (200<(c.Moves.length:Int)))&&
 (c.Items.all (fun x=>!(decide (300<(x.Call.length:Int))))&&(c.Patrons.all (fun x=>!(decide (300<(x.Name.length:Int))))&&
  (!(decide (20<(c.Cals.x0.Closed.length:Int)))&&(!(decide (20<(c.Cals.x1.Closed.length:Int)))&&(!(decide (20<(c.Cals.x2.Closed.length:Int)))&&!(decide (20<(c.Cals.x3.Closed.length:Int))))))))
theorem zawr (c:Circ):qr c=some (zjj c):=by
 unfold qr zjj
 simp -zeta only[k_or,zb0]
 dsimp only
 cases hb:(decide (10<(c.Items.length:Int))||decide (8<(c.Patrons.length:Int))||decide (12<(c.Holds.length:Int))||decide (12<(c.Loans.length:Int))||decide (30<(c.Charges.length:Int))||decide (10<(c.Rules.length:Int))||decide (200<(c.Moves.length:Int))) with
 |true=>rfl
 |false=>
  simp only[Bool.or_eq_false_iff,decide_eq_false_iff_not]at hb
  have h1:=za1 (step:=zxd) (fun i=>((i:Int),c,())) c.Items (fun _ x=>!(decide (300<(x.Call.length:Int)))) (.inr (false,())) (.inl (c,())) (by omega)
   (by simp only[zxd,dge,cond_false])
   (fun i x hx=>by
    have hi:=(List.getElem?_eq_some_iff.1 hx).1
    simp only[zxd,dlt hi,zaq,hx,cond_true,zau (show i<9223372036854775807 by omega)]
    cases decide (300<(x.Call.length:Int))<;>rfl)
  have h2:=za1 (step:=zxe) (fun i=>((i:Int),c,())) c.Patrons (fun _ x=>!(decide (300<(x.Name.length:Int)))) (.inr (false,())) (.inl (c,())) (by omega)
   (by simp only[zxe,dge,cond_false])
   (fun i x hx=>by
    have hi:=(List.getElem?_eq_some_iff.1 hx).1
    simp only[zxe,dlt hi,zaq,hx,cond_true,zau (show i<9223372036854775807 by omega)]
    cases decide (300<(x.Name.length:Int))<;>rfl)
  have h3:zah zgy (0,c,())=some (bif (!(decide (20<(c.Cals.x0.Closed.length:Int)))&&(!(decide (20<(c.Cals.x1.Closed.length:Int)))&&(!(decide (20<(c.Cals.x2.Closed.length:Int)))&&!(decide (20<(c.Cals.x3.Closed.length:Int)))))) then .inl () else .inr (false,())):=by
   have s0:zgy (0,c,())=bif decide (20<(c.Cals.x0.Closed.length:Int)) then some (.inr (.inr (false,()))) else some (.inl (1,c,())):=rfl
   have s1:zgy (1,c,())=bif decide (20<(c.Cals.x1.Closed.length:Int)) then some (.inr (.inr (false,()))) else some (.inl (2,c,())):=rfl
   have s2:zgy (2,c,())=bif decide (20<(c.Cals.x2.Closed.length:Int)) then some (.inr (.inr (false,()))) else some (.inl (3,c,())):=rfl
   have s3:zgy (3,c,())=bif decide (20<(c.Cals.x3.Closed.length:Int)) then some (.inr (.inr (false,()))) else some (.inl (4,c,())):=rfl
   have s4:zgy (4,c,())=some (.inr (.inl ())):=rfl
   refine zev 5 (by rw[zlj];omega) ?_
   simp only[zcl,s0]
   cases decide (20<(c.Cals.x0.Closed.length:Int)) with
   |true=>rfl
   |false=>
    simp only[cond_false,zcl,s1]
    cases decide (20<(c.Cals.x1.Closed.length:Int)) with
    |true=>rfl
    |false=>
     simp only[cond_false,zcl,s2]
     cases decide (20<(c.Cals.x2.Closed.length:Int)) with
     |true=>rfl
     |false=>
      simp only[cond_false,zcl,s3]
      cases decide (20<(c.Cals.x3.Closed.length:Int)) with
      |true=>rfl
      |false=>simp only[cond_false,zcl,s4];rfl
  simp only[cond_false,Bool.not_false,Bool.true_and]
  rw[show zah zxd (0,c,())=_ from h1,zbj]
  cases c.Items.all (fun x=>!(decide (300<(x.Call.length:Int)))) with
  |false=>rfl
  |true=>
   simp only[cond_true,Bool.true_and]
   rw[show zah zxe (0,c,())=_ from h2,zbj]
   cases c.Patrons.all (fun x=>!(decide (300<(x.Name.length:Int)))) with
   |false=>rfl
   |true=>
    simp only[cond_true,Bool.true_and,h3]
    cases (!(decide (20<(c.Cals.x0.Closed.length:Int)))&&(!(decide (20<(c.Cals.x1.Closed.length:Int)))&&(!(decide (20<(c.Cals.x2.Closed.length:Int)))&&!(decide (20<(c.Cals.x3.Closed.length:Int))))))<;>rfl
structure SmallP (c:Circ):Prop where
 items:c.Items.length≤10
 patrons:c.Patrons.length≤8
 holds:c.Holds.length≤12
 loans:c.Loans.length≤12
 charges:c.Charges.length≤30
 rules:c.Rules.length≤10
 moves:c.Moves.length≤200
 call:∀x∈c.Items,x.Call.length≤300
 name:∀x∈c.Patrons,x.Name.length≤300
 cal0:c.Cals.x0.Closed.length≤20
 cal1:c.Cals.x1.Closed.length≤20
 cal2:c.Cals.x2.Closed.length≤20
 cal3:c.Cals.x3.Closed.length≤20
theorem zagj {c:Circ} (h:zjj c=true):SmallP c:=by
 unfold zjj at h
 simp only[Bool.and_eq_true,Bool.not_eq_true',Bool.or_eq_false_iff,decide_eq_false_iff_not,List.all_eq_true]at h
 obtain ⟨⟨⟨⟨⟨⟨⟨h1,h2⟩,h3⟩,h4⟩,h5⟩,h6⟩,h7⟩,h8,h9,h10,h11,h12,h13⟩:=h
 exact ⟨by omega,by omega,by omega,by omega,by omega,by omega,by omega,fun x hx=>by have:=h8 x hx;omega,fun x hx=>by have:=h9 x hx;omega,by omega,by omega,by omega,by omega⟩
theorem SmallP.short {c:Circ} (h:SmallP c):Short c:=by
 obtain ⟨h1,h2,h3,h4,h5,h6,h7,h8,h9,h10,h11,h12,h13⟩:=h
 exact ⟨by omega,by omega,by omega,by omega,by omega,by omega,by omega,fun x hx=>by have:=h8 x hx;omega,fun x hx=>by have:=h9 x hx;omega,by omega,by omega,by omega,by omega⟩
end Go.Proofs.YtpaidiaknfhclaaGreatDoor
namespace Go.Proofs.YtpaidiaknfhclaaGreatDoor
open Ev
open Go (IntKind)
end Go.Proofs.YtpaidiaknfhclaaGreatDoor
namespace Go.Proofs.YtpaidiaknfhclaaGreatDoor
open Ev
open Go (IntKind)
theorem zalk {X:Type} (p:X→Bool) (l:List X):decide (fIdx p l<0)=!(l.any p):=by
 unfold fIdx
 induction l with
 |nil=>rfl
 |cons y l ih=>
  simp only[List.findIdx?_cons,List.any_cons]
  cases hp:p y with
  |true=>rfl
  |false=>
   simp only[Bool.false_eq_true,if_false,Bool.false_or]
   rw[←ih]
   cases l.findIdx? p with
   |none=>rfl
   |some k=>simp only[Option.map_some];rw[decide_eq_decide];omega
theorem zalj {X:Type} (p:X→Bool) (l:List X):decide (0≤fIdx p l)=l.any p:=by
 have h:=zalk p l
 cases hb:l.any p with
 |true=>rw[hb]at h;simp at h ⊢;omega
 |false=>rw[hb]at h;simp at h ⊢;omega
theorem zauj {γ:Type} {p:γ→Hold→Option Bool} {g:γ} (q:Hold→Bool) {l:List Hold} (hl:l.length<1000000000) (hp:∀x∈l,p g x=some (q x)):qb p l g=some (fIdx q l):=by
 have h:=zcp (step:=zi3 p) (fun i=>(l,g,(l.length:Int),(i:Int),())) l q (fun i _=>(.inr ((i:Int),()):(Unit)⊕(Int×Unit))) (.inl ()) hl
  (by simp only[zi3,dge,cond_false])
  (fun i x hx=>by
   have hi:=(List.getElem?_eq_some_iff.1 hx).1
   simp only[zi3,dlt hi,zaq,hx,cond_true,hp x (List.mem_of_getElem? hx),zau (show i<9223372036854775807 by omega)])
 unfold qb
 rw[show zah (zi3 p) (l,g,(l.length:Int),0,())=_ from h]
 have e:=zdd (p:=q) (g:=fun i _=>(.inr ((i:Int),()):(Unit)⊕(Int×Unit))) (d:=.inl ()) (fun r:(Unit)⊕(Int×Unit)=>match r with | .inl (_)=>(-1:Int) | .inr (v,_)=>v) (l:=l) (i:=0)
 dsimp only at e
 rw[←ze0,←e]
 generalize zeg q (fun i _=>(.inr ((i:Int),()):(Unit)⊕(Int×Unit))) (.inl ()) 0 l=r
 rcases r with _|⟨v,_⟩<;>rfl
theorem zanf {γ:Type} {p:γ→Hold→Option Bool} {g:γ} (q:Hold→Bool) {l:List Hold} (hl:l.length<1000000000) (hp:∀x∈l,p g x=some (q x)):qbx p l g=some (l.any q):=by
 unfold qbx
 rw[zauj q hl hp]
 dsimp only
 rw[zalj]
end Go.Proofs.YtpaidiaknfhclaaGreatDoor
namespace Go.Proofs.YtpaidiaknfhclaaGreatDoor
open Go Ev
theorem zva:qfc=some true:=by kernel_rfl
theorem zau4 (c:Circ):qfh c=some (zjj c&&zu2 c):=by
 unfold qfh
 rw[zawr]
 cases h:zjj c with
 |false=>rfl
 |true=>
  simp only[cond_true,zauf (zagj h).short]
  rfl
def usF (item:Int) (x:Move) (s:Int×Int):Int×Int:=
 bif x.Item==item then (bif x.Kind==3 then (wr .i64 (s.1+1),if s.2<x.Day then x.Day else s.2) else bif x.Kind==1||x.Kind==4 then (s.1,if s.2<x.Day then x.Day else s.2) else s) else s
def usC (c:Circ) (item:Int):Int×Int:=c.Moves.foldl (fun s x=>usF item x s) (0,-1)
theorem zaud {c:Circ} (hs:c.Moves.length<1000000000) (item:Int):qa4 c item=some (usC c item):=by
 have h:=zjp (step:=zky) (fun i (s:Int×Int)=>(item,s.1,s.2,c.Moves,(c.Moves.length:Int),(i:Int),())) c.Moves (usF item) (fun s=>(s.1,s.2,())) hs
  (fun s=>by simp only[zky,dge,cond_false])
  (fun i x s hx=>by
   have hi:=(List.getElem?_eq_some_iff.1 hx).1
   simp only[zky,dlt hi,cond_true,zaq,hx,zau (show i<9223372036854775807 by omega),usF]
   cases x.Item==item<;>cases x.Kind==3<;>cases x.Kind==1<;>cases x.Kind==4<;>rfl)
  (0,-1)
 unfold qa4
 rw[show zah zky (item,0,(-1),c.Moves,(c.Moves.length:Int),0,())=_ from h]
 rfl
theorem zae3 {c:Circ} (hs:c.Moves.length<1000000000) (item:Int):qax c item=some (usC c item):=by
 have h:=zjp (step:=zk4) (fun i (s:Int×Int)=>(item,s.1,s.2,(i:Int),c,())) c.Moves (usF item) (fun s=>(s.1,s.2,())) hs
  (fun s=>by simp only[zk4,dge,cond_false])
  (fun i x s hx=>by
   have hi:=(List.getElem?_eq_some_iff.1 hx).1
   simp only[zk4,dlt hi,cond_true,zaq,hx,zau (show i<9223372036854775807 by omega),usF]
   have e:(bif decide (s.2<x.Day) then x.Day else s.2)=if s.2<x.Day then x.Day else s.2:=by by_cases h:s.2<x.Day<;>simp[h]
   rw[←e]
   cases x.Item==item<;>cases x.Kind==3<;>cases x.Kind==1<;>cases x.Kind==4<;>cases decide (s.2<x.Day)<;>rfl)
  (0,-1)
 unfold qax
 rw[show zah zk4 (item,0,(-1),0,c,())=_ from h]
 rfl
end Go.Proofs.YtpaidiaknfhclaaGreatDoor
namespace Go.Proofs.YtpaidiaknfhclaaGreatDoor
open Go Ev
theorem zq8 {R:Int→Int→Prop} (ha:∀a b,R a b→R b a→a=b):∀{l m:List Int},l.Perm m→l.Pairwise R→m.Pairwise R→l=m:=by
 intro l
 induction l with
 |nil=>intro m hp _ _;exact (List.nil_perm.1 hp).symm
 |cons a l ih=>
  intro m hp hl hm
  cases m with
  |nil=>exact absurd hp.length_eq (by simp)
  |cons b m=>
   rw[List.pairwise_cons]at hl hm
   have hab:a=b:=by
    by_cases e:a=b
    ·exact e
    ·have h1:a∈m:=by
      have:=hp.mem_iff.1 (List.mem_cons_self (a:=a) (l:=l))
      rcases List.mem_cons.1 this with h|h
      ·exact absurd h e
      ·exact h
     have h2:b∈l:=by
      have:=hp.mem_iff.2 (List.mem_cons_self (a:=b) (l:=m))
      rcases List.mem_cons.1 this with h|h
      ·exact absurd h.symm e
      ·exact h
     exact ha a b (hl.1 b h2) (hm.1 a h1)
   subst hab
   rw[ih (List.perm_cons a |>.1 hp) hl.2 hm.2]
theorem zqw {X Y:Type} (p:X→Bool) (f:X→Y):∀(l:List X) (acc:List Y),l.foldl (fun s x=>bif p x then s++[f x] else s) acc=acc++(l.filter p).map f:=by
 intro l
 induction l with
 |nil=>intro acc;simp
 |cons x l ih=>
  intro acc
  rw[List.foldl_cons,ih]
  cases hp:p x<;>simp[hp]
theorem zabj {l:List Int} (hl:l.length<1000000000):qaj l l=some true:=by
 have h:=za1 (step:=zk0) (fun i=>(l,l,(i:Int),())) l (fun _ _=>true) (.inr (false,())) (.inl ()) hl
  (by simp only[zk0,dge,cond_false])
  (fun i x hx=>by
   have hi:=(List.getElem?_eq_some_iff.1 hx).1
   simp only[zk0,dlt hi,cond_true,zaq,hx,zau (show i<9223372036854775807 by omega),beq_self_eq_true,Bool.not_true,cond_false])
 unfold qaj
 rw[show zah zk0 (l,l,0,())=_ from h,zbj,show (l.all fun _=>true)=true by simp]
 simp only[beq_self_eq_true,Bool.not_true,cond_false,cond_true]
def zwd (c:Circ) (x:Item):Bool:=c.Holds.any fun h=>h.Record==x.Record||h.Item==x.ID
def okC (c:Circ) (days loans:Int) (x:Item):Bool:=x.Custody.State==3&&(decide ((usC c x.ID).1≤loans)&&(decide (days<wr .i64 (c.Today-(usC c x.ID).2))&&!zwd c x))
def mkC (c:Circ) (x:Item):Weed_candidate:=⟨x.ID,x.Record,(usC c x.ID).1,(usC c x.ID).2⟩
def zfb (c:Circ) (days loans:Int):List Weed_candidate:=(c.Items.filter (okC c days loans)).map (mkC c)
structure WeedS (c:Circ):Prop where
 items:c.Items.length≤10
 holds:c.Holds.length≤12
 moves:c.Moves.length≤200
theorem zaw6 {c:Circ} (h:SmallP c):WeedS c:=⟨h.items,h.holds,h.moves⟩
theorem zhz {c:Circ} (h:WeedS c) (days loans:Int):(zfb c days loans).length≤10:=by
 unfold zfb
 rw[List.length_map]
 exact Nat.le_trans (List.length_filter_le _ _) h.items
theorem z6w {c:Circ} (h:WeedS c) (x:Item):qbx (fun (g:Unit×Item×Unit) x0=>qch x0 g.2.1) c.Holds ((),(x,()))=some (zwd c x):=by
 have:=h.holds
 exact zanf (fun h=>h.Record==x.Record||h.Item==x.ID) (by omega) (fun y _=>by
  simp only[qch]
  cases y.Record==x.Record<;>rfl)
theorem zawp {c:Circ} (h:WeedS c) (days loans:Int):qi c days loans=some (pdqL cfC (zfb c days loans)):=by
 have h1:=h.items
 have h2:=h.moves
 have hw:=zcz (step:=zxa) (fun i (l:List Weed_candidate)=>l.length≤i) (fun i l=>(days,loans,c.Items,(c.Items.length:Int),(i:Int),c,l,())) c.Items
  (fun _ x l=>.inl (bif okC c days loans x then l++[mkC c x] else l)) (fun l=>(l,())) (by show c.Items.length<18446744073709551616;omega)
  (fun l _=>by simp only[zxa,dge,cond_false])
  (fun i x l hx hl=>by
   have hi:=(List.getElem?_eq_some_iff.1 hx).1
   have hlim:decide (l.length+([mkC c x]:List Weed_candidate).length≤LIM)=true:=by rw[zfk];simp;omega
   refine ⟨?_,fun s' hs'=>?_⟩
   ·simp only[zxa,dlt hi,cond_true,zaq,hx,z6w h,zaud (show c.Moves.length<1000000000 by omega),zau (show i<9223372036854775807 by omega),okC]
    rw[show (⟨x.ID,x.Record,(usC c x.ID).1,(usC c x.ID).2⟩:Weed_candidate)=mkC c x from rfl,hlim]
    cases x.Custody.State==3<;>cases decide ((usC c x.ID).1≤loans)<;>cases decide (days<wr .i64 (c.Today-(usC c x.ID).2))<;>cases zwd c x<;>rfl
   ·cases hs'
    cases okC c days loans x<;>simp<;>omega)
  [] (by simp)
 unfold qi
 rw[show zah zxa (days,loans,c.Items,(c.Items.length:Int),0,c,([]:List Weed_candidate),())=_ from hw,zd5,zqw]
 simp only[List.nil_append]
 have hl:=zhz h days loans
 have e:qdd (fun (g:Unit×Unit) x0 x1=>qd5 x0 x1) (zfb c days loans) ((),())=some (pdqL cfC (zfb c days loans)):=by
  show (bif decide ((zfb c days loans).length≤LIM) then some (pdqL cfC (zfb c days loans)) else none)=_
  rw[zfk,decide_eq_true (by omega)]
  rfl
 rw[show (c.Items.filter (okC c days loans)).map (mkC c)=zfb c days loans from rfl,e]
theorem zpi (L:List Weed_candidate):(pdqL cfC L).Perm L∧(pdqL cfC L).Pairwise (fun a b=>¬cfC b a<0):=by
 have h:=Go.Sort.pdq_sorts (Go.Proofs.ltOf cfC) zp6 L.toArray 0 L.toArray.size (Go.Lib.bitLen L.toArray.size) true true (Nat.zero_le _) (Nat.le_refl _) (Or.inl rfl)
 generalize hd:Go.Sort.pdq (Go.Proofs.ltOf cfC) L.toArray 0 L.toArray.size (Go.Lib.bitLen L.toArray.size) true true=d at h
 have hd':pdqL cfC L=d.toList:=by rw[←hd];rfl
 obtain ⟨⟨hs,-,hp⟩,hso⟩:=h
 rw[hd']
 constructor
 ·have e1:d.extract 0 L.toArray.size=d:=by rw[←hs];simp
  have e2:L.toArray.extract 0 L.toArray.size=L.toArray:=by simp
  rw[e1,e2]at hp
  exact hp
 ·rw[List.pairwise_iff_getElem]
  intro i j hi hj hij
  have hj':j<L.toArray.size:=by rw[←hs];simpa using hj
  have:=hso i j (Nat.zero_le _) hij hj'
  unfold Go.Proofs.ltOf at this
  rw[decide_eq_false_iff_not]at this
  have hi2:i<d.size:=by simpa using hi
  have hj2:j<d.size:=by simpa using hj
  rw[getElem!_pos d i hi2,getElem!_pos d j hj2]at this
  simpa using this
theorem zuw (L:List Weed_candidate):(pdqL cfC L).length=L.length:=(zpi L).1.length_eq
theorem zauh {c:Circ} (h:WeedS c) (days loans:Int):qas c days loans=some ((pdqL cfC (zfb c days loans)).map (·.id_)):=by
 have hl:=zhz h days loans
 have hn:=zuw (zfb c days loans)
 unfold qas
 rw[zawp h]
 simp only
 generalize pdqL cfC (zfb c days loans)=v at hn
 have hw:=zcz (step:=zk2) (fun i (l:List Int)=>l.length≤i) (fun i l=>(v,(v.length:Int),(i:Int),l,())) v
  (fun _ x l=>.inl (l++[x.id_])) (fun l=>(l,())) (by show v.length<18446744073709551616;omega)
  (fun l _=>by simp only[zk2,dge,cond_false])
  (fun i x l hx hl=>by
   have hi:=(List.getElem?_eq_some_iff.1 hx).1
   have hlim:decide (l.length+([x.id_]:List Int).length≤LIM)=true:=by rw[zfk];simp;omega
   refine ⟨?_,fun s' hs'=>?_⟩
   ·simp only[zk2,dlt hi,cond_true,zaq,hx,zau (show i<9223372036854775807 by omega),hlim]
   ·cases hs';simp;omega)
  [] (by simp)
 rw[show zah zk2 (v,(v.length:Int),0,([]:List Int),())=_ from hw,zd5]
 have e:∀(l:List Weed_candidate) (acc:List Int),l.foldl (fun s x=>s++[x.id_]) acc=acc++l.map (·.id_):=by
  intro l
  induction l with
  |nil=>intro acc;simp
  |cons x l ih=>intro acc;rw[List.foldl_cons,ih];simp
 rw[e]
 rfl
end Go.Proofs.YtpaidiaknfhclaaGreatDoor
namespace Go.Proofs.YtpaidiaknfhclaaGreatDoor
open Go Ev
def ltB (c:Circ) (a b:Int):Bool:=
 bif !((usC c a).1==(usC c b).1) then decide ((usC c a).1<(usC c b).1) else bif !((usC c a).2==(usC c b).2) then decide ((usC c a).2<(usC c b).2) else decide (a<b)
theorem zix (c:Circ) (a b:Int):ltB c a b=true↔(usC c a).1<(usC c b).1∨((usC c a).1=(usC c b).1∧((usC c a).2<(usC c b).2∨((usC c a).2=(usC c b).2∧a<b))):=by
 unfold ltB
 by_cases h1:(usC c a).1=(usC c b).1
 ·by_cases h2:(usC c a).2=(usC c b).2
  ·simp[h1,h2]
  ·simp[h1,h2]
 ·simp[h1]
theorem z2z {c:Circ} {a b:Int} (h:ltB c a b=true):ltB c b a=false:=by
 rw[zix]at h
 cases e:ltB c b a with
 |false=>rfl
 |true=>rw[zix]at e;omega
theorem z23 {c:Circ} {x y z:Int} (h1:ltB c x y=true) (h2:ltB c y z=true):ltB c x z=true:=by
 rw[zix]at *;omega
theorem zam0 {c:Circ} {a b:Int} (h1:ltB c a b=false) (h2:ltB c b a=false):a=b:=by
 have n1:¬ltB c a b=true:=by rw[h1];simp
 have n2:¬ltB c b a=true:=by rw[h2];simp
 rw[zix]at n1 n2
 omega
theorem zasg (c:Circ) (x y:Item):cfC (mkC c x) (mkC c y)<0↔ltB c x.ID y.ID=true:=by rw[zsq,zix];rfl
theorem zau0 {c:Circ} (h:WeedS c) (a b:Int):qew c a b=some (ltB c a b):=by
 have:=h.moves
 unfold qew ltB
 simp only[zae3 (show c.Moves.length<1000000000 by omega)]
 cases (usC c a).1==(usC c b).1<;>cases (usC c a).2==(usC c b).2<;>rfl
theorem zaue {c:Circ} (h:WeedS c) (x:Item) (days loans:Int):qa6 c x days loans=some (okC c days loans x):=by
 have h1:=h.moves
 have h2:=h.holds
 have hw:=za1 (step:=zkz) (fun i=>(days,loans,(i:Int),c,x,())) c.Holds (fun _ h=>!(h.Record==x.Record||h.Item==x.ID)) (.inr (false,())) (.inl (days,loans,c,x,())) (by omega)
  (by simp only[zkz,dge,cond_false])
  (fun i y hx=>by
   have hi:=(List.getElem?_eq_some_iff.1 hx).1
   simp only[zkz,dlt hi,cond_true,zaq,hx,zau (show i<9223372036854775807 by omega)]
   cases y.Record==x.Record<;>cases y.Item==x.ID<;>rfl)
 have hq:c.Holds.all (fun h=>!(h.Record==x.Record||h.Item==x.ID))=!zwd c x:=by
  unfold zwd
  rw[List.not_any_eq_all_not]
 unfold qa6 okC
 rw[show zah zkz (days,loans,0,c,x,())=_ from hw,zbj,hq]
 cases x.Custody.State==3<;>cases zwd c x<;>simp only[Bool.not_true,Bool.not_false,cond_true,cond_false,Bool.false_and,Bool.true_and,Bool.and_false,Bool.and_true,zae3 (show c.Moves.length<1000000000 by omega)]
 cases decide ((usC c x.ID).1≤loans)<;>rfl
def insR (p:Int→Bool) (id:Int):List Int→List Int
 | []=>[id]
 |x::xs=>bif p x then id::x::xs else x::insR p id xs
theorem zf0 (p:Int→Bool) (id:Int):∀l:List Int,(insR p id l).Perm (id::l):=by
 intro l
 induction l with
 |nil=>exact .refl _
 |cons x l ih=>
  unfold insR
  cases p x with
  |true=>exact .refl _
  |false=>exact (List.Perm.cons x ih).trans (List.Perm.swap id x l)
theorem zqy (c:Circ) (id:Int):∀l:List Int,l.Pairwise (fun a b=>ltB c b a=false)→(insR (ltB c id) id l).Pairwise (fun a b=>ltB c b a=false):=by
 intro l
 induction l with
 |nil=>intro _;simp[insR]
 |cons x l ih=>
  intro h
  unfold insR
  cases hp:ltB c id x with
  |true=>
   rw[cond_true,List.pairwise_cons]
   refine ⟨fun y hy=>?_,h⟩
   rcases List.mem_cons.1 hy with rfl|hy
   ·exact z2z hp
   ·have:=(List.pairwise_cons.1 h).1 y hy
    cases e:ltB c y id with
    |false=>rfl
    |true=>rw[z23 e hp]at this;cases this
  |false=>
   rw[List.pairwise_cons]at h
   rw[cond_false,List.pairwise_cons]
   refine ⟨fun y hy=>?_,ih h.2⟩
   rcases List.mem_cons.1 ((zf0 _ _ l).mem_iff.1 hy) with rfl|hy
   ·exact hp
   ·exact h.1 y hy
theorem z1e (c:Circ):∀(l acc:List Int),acc.Pairwise (fun a b=>ltB c b a=false)→
 (l.foldl (fun s id=>insR (ltB c id) id s) acc).Pairwise (fun a b=>ltB c b a=false)∧(l.foldl (fun s id=>insR (ltB c id) id s) acc).Perm (l++acc):=by
 intro l
 induction l with
 |nil=>intro acc h;exact ⟨h,.refl _⟩
 |cons x l ih=>
  intro acc h
  rw[List.foldl_cons]
  obtain ⟨h1,h2⟩:=ih (insR (ltB c x) x acc) (zqy c x acc h)
  refine ⟨h1,h2.trans ?_⟩
  exact ((zf0 _ _ _).append_left l).trans List.perm_middle
theorem z9j (p:Int→Bool) (id:Int):∀(l acc:List Int),
 (l.foldl (fun (s:Bool×List Int) x=>bif !s.1&&p x then (true,(s.2++[id])++[x]) else (s.1,s.2++[x])) (true,acc))=(true,acc++l)∧
 (bif !(l.foldl (fun (s:Bool×List Int) x=>bif !s.1&&p x then (true,(s.2++[id])++[x]) else (s.1,s.2++[x])) (false,acc)).1 then
  (l.foldl (fun (s:Bool×List Int) x=>bif !s.1&&p x then (true,(s.2++[id])++[x]) else (s.1,s.2++[x])) (false,acc)).2++[id]
  else (l.foldl (fun (s:Bool×List Int) x=>bif !s.1&&p x then (true,(s.2++[id])++[x]) else (s.1,s.2++[x])) (false,acc)).2)=acc++insR p id l:=by
 intro l
 induction l with
 |nil=>intro acc;exact ⟨by simp,rfl⟩
 |cons x l ih=>
  intro acc
  simp only[List.foldl_cons,Bool.not_true,Bool.false_and,cond_false,Bool.not_false,Bool.true_and]
  refine ⟨?_,?_⟩
  ·rw[(ih (acc++[x])).1];simp
  ·unfold insR
   cases hp:p x with
   |true=>simp only[cond_true];rw[(ih (acc++[id]++[x])).1];simp
   |false=>simp only[cond_false];rw[(ih (acc++[x])).2];simp
theorem zank {c:Circ} (h:WeedS c) (days loans:Int) (i:Int) (vid:Int) {vout:List Int} (hv:vout.length≤100) :
 ∃d l,zah zld (days,loans,vout,i,vid,false,0,c,([]:List Int),())=some (days,loans,i,vid,d,c,l,())∧(bif !d then l++[vid] else l)=insR (ltB c vid) vid vout∧l.length≤vout.length+1:=by
 have hw:=zcz (step:=zld) (fun k (s:Bool×List Int)=>(s.1=false→s.2.length≤k)∧s.2.length≤k+1) (fun k s=>(days,loans,vout,i,vid,s.1,(k:Int),c,s.2,())) vout
  (fun _ x s=>.inl (bif !s.1&&ltB c vid x then (true,(s.2++[vid])++[x]) else (s.1,s.2++[x]))) (fun s=>(days,loans,i,vid,s.1,c,s.2,())) (by show vout.length<18446744073709551616;omega)
  (fun s _=>by simp only[zld,dge,cond_false])
  (fun k x s hx hs=>by
   have hk:=(List.getElem?_eq_some_iff.1 hx).1
   obtain ⟨d,l⟩:=s
   simp only at hs
   have l1:decide (l.length+([vid]:List Int).length≤LIM)=true:=by rw[zfk];simp;omega
   have l2:decide ((l++([vid]:List Int)).length+([x]:List Int).length≤LIM)=true:=by rw[zfk];simp;omega
   have l3:decide (l.length+([x]:List Int).length≤LIM)=true:=by rw[zfk];simp;omega
   refine ⟨?_,fun s' hs'=>?_⟩
   ·simp only[zld,dlt hk,cond_true,zaq,hx,zau0 h,zau (show k<9223372036854775807 by omega),l1,l2,l3]
    cases d<;>cases ltB c vid x<;>rfl
   ·cases hs'
    cases d with
    |true=>simp;omega
    |false=>
     have:=hs.1 rfl
     cases ltB c vid x<;>simp<;>omega)
  (false,[]) ⟨fun _=>by simp,by simp⟩
 rw[zd5]at hw
 obtain ⟨q1,q2⟩:=z9j (ltB c vid) vid vout []
 refine ⟨_,_,hw,by simpa using q2,?_⟩
 have hl:=(zf0 (ltB c vid) vid vout).length_eq
 rw[List.nil_append]at q2
 rw[←q2]at hl
 revert hl
 generalize vout.foldl _ _=s
 intro hl
 cases h1:s.1 with
 |true=>rw[h1]at hl;simp at hl;omega
 |false=>rw[h1]at hl;simp at hl;omega
def refC (c:Circ) (days loans:Int):List Int:=((c.Items.filter (okC c days loans)).map (·.ID)).foldl (fun s id=>insR (ltB c id) id s) []
theorem z9i (p:Int→Bool) (id:Int) (l:List Int):(insR p id l).length=l.length+1:=by rw[(zf0 p id l).length_eq];rfl
theorem zawt {c:Circ} (h:WeedS c) (days loans:Int):qx c days loans=some (refC c days loans):=by
 have h1:=h.items
 have hw:=zcz (step:=zxg) (fun i (l:List Int)=>l.length≤i) (fun i l=>(days,loans,l,(i:Int),c,())) c.Items
  (fun _ x l=>.inl (bif okC c days loans x then insR (ltB c x.ID) x.ID l else l)) (fun l=>(l,())) (by show c.Items.length<18446744073709551616;omega)
  (fun l _=>by simp only[zxg,dge,cond_false])
  (fun i x l hx hl=>by
   have hi:=(List.getElem?_eq_some_iff.1 hx).1
   obtain ⟨d,m,e1,e2,e3⟩:=zank h days loans (i:Int) x.ID (vout:=l) (by omega)
   have hlim:decide (m.length+([x.ID]:List Int).length≤LIM)=true:=by rw[zfk];simp;omega
   refine ⟨?_,fun s' hs'=>?_⟩
   ·simp only[zxg,dlt hi,cond_true,zaq,hx,zaue h,zau (show i<9223372036854775807 by omega),e1,hlim,←e2]
    cases okC c days loans x<;>cases d<;>rfl
   ·cases hs'
    cases okC c days loans x
    ·simp;omega
    ·simp[z9i];omega)
  [] (by simp)
 unfold qx
 rw[show zah zxg (days,loans,([]:List Int),0,c,())=_ from hw,zd5]
 have e:∀(l:List Item) (acc:List Int),l.foldl (fun s x=>bif okC c days loans x then insR (ltB c x.ID) x.ID s else s) acc=((l.filter (okC c days loans)).map (·.ID)).foldl (fun s id=>insR (ltB c id) id s) acc:=by
  intro l
  induction l with
  |nil=>intro acc;rfl
  |cons x l ih=>
   intro acc
   rw[List.foldl_cons,ih]
   cases hx:okC c days loans x<;>simp[hx]
 rw[e]
 rfl
theorem zj7 (c:Circ) (days loans:Int):(pdqL cfC (zfb c days loans)).map (·.id_)=refC c days loans:=by
 obtain ⟨p1,p2⟩:=zpi (zfb c days loans)
 obtain ⟨q1,q2⟩:=z1e c ((c.Items.filter (okC c days loans)).map (·.ID)) [] .nil
 refine zq8 (R:=fun a b=>ltB c b a=false) (fun a b h1 h2=>zam0 h2 h1) ?_ ?_ q1
 ·refine (p1.map _).trans ?_
  rw[List.append_nil]at q2
  refine List.Perm.trans ?_ q2.symm
  unfold zfb
  rw[List.map_map]
  exact .refl _
 ·rw[List.pairwise_map]
  refine List.Pairwise.imp_of_mem (fun {a b} ha hb hab=>?_) p2
  have ha:=p1.mem_iff.1 ha
  have hb:=p1.mem_iff.1 hb
  unfold zfb at ha hb
  obtain ⟨x,-,rfl⟩:=List.mem_map.1 ha
  obtain ⟨y,-,rfl⟩:=List.mem_map.1 hb
  rw[zasg]at hab
  simpa[mkC]using hab
theorem zabn {c:Circ} (h:WeedS c) (days loans:Int):(refC c days loans).length≤10:=by
 rw[←zj7,List.length_map,zuw]
 exact zhz h days loans
theorem zxu {c:Circ} (h:WeedS c) (days loans:Int):qas c days loans=some (refC c days loans):=by rw[zauh h,zj7]
theorem zg8 (c:Circ) (days loans:Int):qdf c days loans=some true:=by
 unfold qdf
 simp only[zau4,zva]
 cases hb:zjj c&&zu2 c with
 |false=>rfl
 |true=>
  simp only[Bool.and_eq_true]at hb
  have h:=zaw6 (zagj hb.1)
  have hl:=zabn h days loans
  simp only[zxu h,zawt h,zabj (show (refC c days loans).length<1000000000 by omega)]
  rfl
end Go.Proofs.YtpaidiaknfhclaaGreatDoor
