/- WeedUses: a part of the proof of the given statement, which is proved without conditions. -/
import Derived.Test.YtpaidiaknfhclaaGreatDoorU5
import Derived.KernelRfl
set_option linter.all false
namespace Go.Proofs.YtpaidiaknfhclaaGreatDoor
open Ev
open Go (IntKind)
def zg4 (c:Circ):Bool:=zcd c.Cals.x0==0&&(zcd c.Cals.x1==0&&(zcd c.Cals.x2==0&&zcd c.Cals.x3==0))
theorem zwj {c:Circ} (hs:Short c):zah zgt (0,c,())=some (bif zg4 c then .inl (c,()) else .inr (false,())):=by
 have s0:zgt (0,c,())=bif zcd c.Cals.x0==0 then some (.inl (1,c,())) else some (.inr (.inr (false,()))):=by
  show (match qw c.Cals.x0 with|some r=>(bif !(r==0) then (some (.inr (.inr (false,()))):Option ((Int×Circ×Unit)⊕((Circ×Unit)⊕(Bool×Unit)))) else some (.inl (1,c,())))|none=>none)=_
  rw[zaaf hs.cal0];dsimp only;cases zcd c.Cals.x0==0<;>rfl
 have s1:zgt (1,c,())=bif zcd c.Cals.x1==0 then some (.inl (2,c,())) else some (.inr (.inr (false,()))):=by
  show (match qw c.Cals.x1 with|some r=>(bif !(r==0) then (some (.inr (.inr (false,()))):Option ((Int×Circ×Unit)⊕((Circ×Unit)⊕(Bool×Unit)))) else some (.inl (2,c,())))|none=>none)=_
  rw[zaaf hs.cal1];dsimp only;cases zcd c.Cals.x1==0<;>rfl
 have s2:zgt (2,c,())=bif zcd c.Cals.x2==0 then some (.inl (3,c,())) else some (.inr (.inr (false,()))):=by
  show (match qw c.Cals.x2 with|some r=>(bif !(r==0) then (some (.inr (.inr (false,()))):Option ((Int×Circ×Unit)⊕((Circ×Unit)⊕(Bool×Unit)))) else some (.inl (3,c,())))|none=>none)=_
  rw[zaaf hs.cal2];dsimp only;cases zcd c.Cals.x2==0<;>rfl
 have s3:zgt (3,c,())=bif zcd c.Cals.x3==0 then some (.inl (4,c,())) else some (.inr (.inr (false,()))):=by
  show (match qw c.Cals.x3 with|some r=>(bif !(r==0) then (some (.inr (.inr (false,()))):Option ((Int×Circ×Unit)⊕((Circ×Unit)⊕(Bool×Unit)))) else some (.inl (4,c,())))|none=>none)=_
  rw[zaaf hs.cal3];dsimp only;cases zcd c.Cals.x3==0<;>rfl
 have s4:zgt (4,c,())=some (.inr (.inl (c,()))):=rfl
 refine zeu 5 (by rw[zk2];omega) ?_
 unfold zg4
 simp only[zcl,s0,s1,s2,s3,s4]
 cases zcd c.Cals.x0==0 with
 |false=>rfl
 |true=>
  simp only[cond_true,zcl,s1]
  cases zcd c.Cals.x1==0 with
  |false=>rfl
  |true=>
   simp only[cond_true,zcl,s2]
   cases zcd c.Cals.x2==0 with
   |false=>rfl
   |true=>
    simp only[cond_true,zcl,s3]
    cases zcd c.Cals.x3==0 with
    |false=>rfl
    |true=>simp only[cond_true,zcl,s4];rfl
def zdu (c:Circ) (x:Charge):Bool:=!(!(getP c.Patrons x.Patron).2||decide (c.NextCharge≤x.ID))
theorem zqq {c:Circ} (hs:Short c):zah zfd (0,c,())=some (bif c.Charges.all (zdu c) then .inl (c,()) else .inr (false,())):=by
 have h:=za6 (step:=zfd) (fun i=>((i:Int),c,())) c.Charges (fun _=>zdu c) (.inr (false,())) (.inl (c,())) hs.charges
  (by simp only[zfd,dge,cond_false])
  (fun i x hx=>by
   have hi:=(List.getElem?_eq_some_iff.1 hx).1
   have:=hs.charges
   unfold zdu
   simp -zeta only[zfd,dlt hi,zar,hx,cond_true,k_or,zo2 hs.patrons,zav (show i<9223372036854775807 by omega)]
   dsimp only
   cases (!(getP c.Patrons x.Patron).2||decide (c.NextCharge≤x.ID))<;>rfl)
 rw[show zah zfd (0,c,())=_ from h,zbv]
def zt9 (c:Circ):Bool:=!(decide (c.Today<0)||decide (109572<c.Today)||decide (c.NextHold<1)||decide (100000<c.NextHold)||decide (c.NextCharge<1)||decide (100000<c.NextCharge))
def znu (c:Circ):Bool:=!(!(ze0 c.Patrons==0)||!(zha c.Loans==0)||!(zg8 c.Holds==0)||!(zey c.Charges==0)||!(zhi c.Rules==0))
def zuf (c:Circ):Bool:=zt9 c&&(znu c&&(zg4 c&&(c.Charges.all (zdu c)&&(zfw c&&(zfx c&&zfr c)))))
theorem zas9 {c:Circ} (hs:Short c):qac c=some (zuf c):=by
 unfold qac zuf zt9 znu
 simp -zeta only[k_or,zb0,zatf hs.patrons hs.name,zate hs.loans,zavk hs.holds,zatj hs.charges,zavj hs.rules]
 dsimp only
 rw[zwj hs]
 generalize (decide (c.Today<0)||decide (109572<c.Today)||decide (c.NextHold<1)||decide (100000<c.NextHold)||decide (c.NextCharge<1)||decide (100000<c.NextCharge))=b1
 generalize (!(ze0 c.Patrons==0)||!(zha c.Loans==0)||!(zg8 c.Holds==0)||!(zey c.Charges==0)||!(zhi c.Rules==0))=b2
 cases b1 with
 |true=>rfl
 |false=>
  cases b2 with
  |true=>rfl
  |false=>
   cases zg4 c with
   |false=>rfl
   |true=>
    simp only[cond_false,cond_true,zqq hs]
    cases c.Charges.all (zdu c) with
    |false=>rfl
    |true=>
     simp -zeta only[cond_false,cond_true,zavn hs,zavm hs,zavo hs,zb0]
     try dsimp only
     cases zfw c<;>cases zfx c<;>cases zfr c<;>rfl
def zi7 (c:Circ):Bool:=
 !(decide (10<(c.Items.length:Int))||decide (8<(c.Patrons.length:Int))||decide (12<(c.Holds.length:Int))||decide (12<(c.Loans.length:Int))||decide (30<(c.Charges.length:Int))||decide (10<(c.Rules.length:Int))||decide (200<(c.Moves.length:Int)))&&
 (c.Items.all (fun x=>!(decide (300<(x.Call.length:Int))))&&(c.Patrons.all (fun x=>!(decide (300<(x.Name.length:Int))))&&
  (!(decide (20<(c.Cals.x0.Closed.length:Int)))&&(!(decide (20<(c.Cals.x1.Closed.length:Int)))&&(!(decide (20<(c.Cals.x2.Closed.length:Int)))&&!(decide (20<(c.Cals.x3.Closed.length:Int))))))))
theorem zavh (c:Circ):qa c=some (zi7 c):=by
 unfold qa zi7
 simp -zeta only[k_or,zb0]
 dsimp only
 cases hb:(decide (10<(c.Items.length:Int))||decide (8<(c.Patrons.length:Int))||decide (12<(c.Holds.length:Int))||decide (12<(c.Loans.length:Int))||decide (30<(c.Charges.length:Int))||decide (10<(c.Rules.length:Int))||decide (200<(c.Moves.length:Int))) with
 |true=>rfl
 |false=>
  simp only[Bool.or_eq_false_iff,decide_eq_false_iff_not]at hb
  have h1:=za6 (step:=zwh) (fun i=>((i:Int),c,())) c.Items (fun _ x=>!(decide (300<(x.Call.length:Int)))) (.inr (false,())) (.inl (c,())) (by omega)
   (by simp only[zwh,dge,cond_false])
   (fun i x hx=>by
    have hi:=(List.getElem?_eq_some_iff.1 hx).1
    simp only[zwh,dlt hi,zar,hx,cond_true,zav (show i<9223372036854775807 by omega)]
    cases decide (300<(x.Call.length:Int))<;>rfl)
  have h2:=za6 (step:=zwi) (fun i=>((i:Int),c,())) c.Patrons (fun _ x=>!(decide (300<(x.Name.length:Int)))) (.inr (false,())) (.inl (c,())) (by omega)
   (by simp only[zwi,dge,cond_false])
   (fun i x hx=>by
    have hi:=(List.getElem?_eq_some_iff.1 hx).1
    simp only[zwi,dlt hi,zar,hx,cond_true,zav (show i<9223372036854775807 by omega)]
    cases decide (300<(x.Name.length:Int))<;>rfl)
  have h3:zah zgs (0,c,())=some (bif (!(decide (20<(c.Cals.x0.Closed.length:Int)))&&(!(decide (20<(c.Cals.x1.Closed.length:Int)))&&(!(decide (20<(c.Cals.x2.Closed.length:Int)))&&!(decide (20<(c.Cals.x3.Closed.length:Int)))))) then .inl () else .inr (false,())):=by
   have s0:zgs (0,c,())=bif decide (20<(c.Cals.x0.Closed.length:Int)) then some (.inr (.inr (false,()))) else some (.inl (1,c,())):=rfl
   have s1:zgs (1,c,())=bif decide (20<(c.Cals.x1.Closed.length:Int)) then some (.inr (.inr (false,()))) else some (.inl (2,c,())):=rfl
   have s2:zgs (2,c,())=bif decide (20<(c.Cals.x2.Closed.length:Int)) then some (.inr (.inr (false,()))) else some (.inl (3,c,())):=rfl
   have s3:zgs (3,c,())=bif decide (20<(c.Cals.x3.Closed.length:Int)) then some (.inr (.inr (false,()))) else some (.inl (4,c,())):=rfl
   have s4:zgs (4,c,())=some (.inr (.inl ())):=rfl
   refine zeu 5 (by rw[zk2];omega) ?_
   simp only[zcl,s0]
   cases decide (20<(c.Cals.x0.Closed.length:Int)) with
   |true=>rfl
   |false=>
    simp only[cond_false,zcl,s1]
    cases decide (20<(c.Cals.x1.Closed.length:Int)) with
    |true=>rfl
    |false=>
     simp only[cond_false,zcl,s2]
     cases decide (20<(c.Cals.x2.Closed.length:Int)) with
     |true=>rfl
     |false=>
      simp only[cond_false,zcl,s3]
      cases decide (20<(c.Cals.x3.Closed.length:Int)) with
      |true=>rfl
      |false=>simp only[cond_false,zcl,s4];rfl
  simp only[cond_false,Bool.not_false,Bool.true_and]
  rw[show zah zwh (0,c,())=_ from h1,zbv]
  cases c.Items.all (fun x=>!(decide (300<(x.Call.length:Int)))) with
  |false=>rfl
  |true=>
   simp only[cond_true,Bool.true_and]
   rw[show zah zwi (0,c,())=_ from h2,zbv]
   cases c.Patrons.all (fun x=>!(decide (300<(x.Name.length:Int)))) with
   |false=>rfl
   |true=>
    simp only[cond_true,Bool.true_and,h3]
    cases (!(decide (20<(c.Cals.x0.Closed.length:Int)))&&(!(decide (20<(c.Cals.x1.Closed.length:Int)))&&(!(decide (20<(c.Cals.x2.Closed.length:Int)))&&!(decide (20<(c.Cals.x3.Closed.length:Int))))))<;>rfl
structure SmallP (c:Circ):Prop where
 items:c.Items.length≤10
 patrons:c.Patrons.length≤8
 holds:c.Holds.length≤12
 loans:c.Loans.length≤12
 charges:c.Charges.length≤30
 rules:c.Rules.length≤10
 moves:c.Moves.length≤200
 call:∀x∈c.Items,x.Call.length≤300
 name:∀x∈c.Patrons,x.Name.length≤300
 cal0:c.Cals.x0.Closed.length≤20
 cal1:c.Cals.x1.Closed.length≤20
 cal2:c.Cals.x2.Closed.length≤20
 cal3:c.Cals.x3.Closed.length≤20
theorem zafi {c:Circ} (h:zi7 c=true):SmallP c:=by
 unfold zi7 at h
 simp only[Bool.and_eq_true,Bool.not_eq_true',Bool.or_eq_false_iff,decide_eq_false_iff_not,List.all_eq_true]at h
 obtain ⟨⟨⟨⟨⟨⟨⟨h1,h2⟩,h3⟩,h4⟩,h5⟩,h6⟩,h7⟩,h8,h9,h10,h11,h12,h13⟩:=h
 exact ⟨by omega,by omega,by omega,by omega,by omega,by omega,by omega,fun x hx=>by have:=h8 x hx;omega,fun x hx=>by have:=h9 x hx;omega,by omega,by omega,by omega,by omega⟩
theorem SmallP.short {c:Circ} (h:SmallP c):Short c:=by
 obtain ⟨h1,h2,h3,h4,h5,h6,h7,h8,h9,h10,h11,h12,h13⟩:=h
 exact ⟨by omega,by omega,by omega,by omega,by omega,by omega,by omega,fun x hx=>by have:=h8 x hx;omega,fun x hx=>by have:=h9 x hx;omega,by omega,by omega,by omega,by omega⟩
end Go.Proofs.YtpaidiaknfhclaaGreatDoor
namespace Go.Proofs.YtpaidiaknfhclaaGreatDoor
open Ev
open Go (IntKind)
end Go.Proofs.YtpaidiaknfhclaaGreatDoor
namespace Go.Proofs.YtpaidiaknfhclaaGreatDoor
open Go Ev
theorem zun:qe0=some true:=by kernel_rfl
theorem zatz (c:Circ):qfg c=some (zi7 c&&zuf c):=by
 unfold qfg
 rw[zavh]
 cases h:zi7 c with
 |false=>rfl
 |true=>
  simp only[cond_true,zas9 (zafi h).short]
  rfl
def usF (item:Int) (x:Move) (s:Int×Int):Int×Int:=
 bif x.Item==item then (bif x.Kind==3 then (wr .i64 (s.1+1),if s.2<x.Day then x.Day else s.2) else bif x.Kind==1||x.Kind==4 then (s.1,if s.2<x.Day then x.Day else s.2) else s) else s
def usC (c:Circ) (item:Int):Int×Int:=c.Moves.foldl (fun s x=>usF item x s) (0,-1)
theorem zath {c:Circ} (hs:c.Moves.length<1000000000) (item:Int):qar c item=some (usC c item):=by
 have h:=zec (step:=zkp) (fun i (s:Int×Int)=>(item,s.1,s.2,c.Moves,(c.Moves.length:Int),(i:Int),())) c.Moves (usF item) (fun s=>(s.1,s.2,())) hs
  (fun s=>by simp only[zkp,dge,cond_false])
  (fun i x s hx=>by
   have hi:=(List.getElem?_eq_some_iff.1 hx).1
   simp only[zkp,dlt hi,cond_true,zar,hx,zav (show i<9223372036854775807 by omega),usF]
   cases x.Item==item<;>cases x.Kind==3<;>cases x.Kind==1<;>cases x.Kind==4<;>rfl)
  (0,-1)
 unfold qar
 rw[show zah zkp (item,0,(-1),c.Moves,(c.Moves.length:Int),0,())=_ from h]
 rfl
theorem zatn {c:Circ} (hs:c.Moves.length<1000000000) (item:Int):qbr c item=some (usC c item):=by
 have h:=zec (step:=zkt) (fun i (s:Int×Int)=>(item,s.1,s.2,(i:Int),c,())) c.Moves (usF item) (fun s=>(s.1,s.2,())) hs
  (fun s=>by simp only[zkt,dge,cond_false])
  (fun i x s hx=>by
   have hi:=(List.getElem?_eq_some_iff.1 hx).1
   simp only[zkt,dlt hi,cond_true,zar,hx,zav (show i<9223372036854775807 by omega),usF]
   have e:(bif decide (s.2<x.Day) then x.Day else s.2)=if s.2<x.Day then x.Day else s.2:=by by_cases h:s.2<x.Day<;>simp[h]
   rw[←e]
   cases x.Item==item<;>cases x.Kind==3<;>cases x.Kind==1<;>cases x.Kind==4<;>cases decide (s.2<x.Day)<;>rfl)
  (0,-1)
 unfold qbr
 rw[show zah zkt (item,0,(-1),0,c,())=_ from h]
 rfl
def cpF (record:Int) (x:Item) (n:Int):Int:=bif x.Record==record&&!(x.Custody.State==12) then wr .i64 (n+1) else n
def cpC (c:Circ) (record:Int):Int:=c.Items.foldl (fun s x=>cpF record x s) 0
theorem zatd {c:Circ} (hs:c.Items.length<1000000000) (record:Int):qak c record=some (cpC c record):=by
 have h:=zec (step:=zkn) (fun i (s:Int)=>(record,s,c.Items,(c.Items.length:Int),(i:Int),())) c.Items (cpF record) (fun s=>(s,())) hs
  (fun s=>by simp only[zkn,dge,cond_false])
  (fun i x s hx=>by
   have hi:=(List.getElem?_eq_some_iff.1 hx).1
   simp only[zkn,dlt hi,cond_true,zar,hx,zav (show i<9223372036854775807 by omega),cpF]
   cases x.Record==record<;>cases x.Custody.State==12<;>rfl)
  0
 unfold qak
 rw[show zah zkn (record,0,c.Items,(c.Items.length:Int),0,())=_ from h]
 rfl
theorem zatm {c:Circ} (hs:c.Items.length<1000000000) (record:Int):qbo c record=some (cpC c record):=by
 have h:=zec (step:=zks) (fun i (s:Int)=>(record,s,(i:Int),c,())) c.Items (cpF record) (fun s=>(s,())) hs
  (fun s=>by simp only[zks,dge,cond_false])
  (fun i x s hx=>by
   have hi:=(List.getElem?_eq_some_iff.1 hx).1
   simp only[zks,dlt hi,cond_true,zar,hx,zav (show i<9223372036854775807 by omega),cpF]
   cases x.Record==record<;>cases x.Custody.State==12<;>rfl)
  0
 unfold qbo
 rw[show zah zks (record,0,0,c,())=_ from h]
 rfl
theorem zmf (c:Circ) (item record:Int):qde c item record=some true:=by
 unfold qde
 simp only[zatz,zun]
 cases hb:zi7 c&&zuf c with
 |false=>rfl
 |true=>
  simp only[Bool.and_eq_true]at hb
  have hm:=zafi hb.1
  have hi:=hm.items
  have hv:=hm.moves
  simp only[zath (show c.Moves.length<1000000000 by omega),zatn (show c.Moves.length<1000000000 by omega),zatd (show c.Items.length<1000000000 by omega),zatm (show c.Items.length<1000000000 by omega)]
  simp
end Go.Proofs.YtpaidiaknfhclaaGreatDoor
