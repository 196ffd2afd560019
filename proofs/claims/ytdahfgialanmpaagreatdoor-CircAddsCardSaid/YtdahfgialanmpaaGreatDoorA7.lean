/- CircAdds: a part of the proof of the given statement, which is proved without conditions. -/
import Derived.Test.YtdahfgialanmpaaGreatDoorA6
import Derived.KernelRfl
set_option linter.all false
namespace Go.Proofs.YtdahfgialanmpaaGreatDoor
open Ev
open Go (IntKind)
def rng (lo hi n:Int):Bool:=decide (lo≤n)&&decide (n≤hi)
theorem qe4_eq (n:Int):qe4 n=some (rng 0 109572 n):=by
 unfold qe4
 simp -zeta only[k_or,k_and]
 rfl
theorem qdo_eq (n:Int):qdo n=some (rng 0 109572 n):=by
 unfold qdo
 simp -zeta only[k_or,k_and]
 rfl
theorem qdl_eq (n:Int):qdl n=some (rng 1 9999 n):=by
 unfold qdl
 simp -zeta only[k_or,k_and]
 rfl
theorem qb3_eq (n lo hi:Int):qb3 n lo hi=some (rng lo hi n):=by
 unfold qb3
 simp -zeta only[k_or,k_and]
 rfl
def chargeErr (l:List Charge) (i:Nat) (x:Charge):Int:=
 bif prevB l i (fun y=>decide (x.ID≤y.ID)) then 7
 else bif decide (x.ID<1)||decide (99999<x.ID)||decide (x.Patron<1)||decide (9999<x.Patron)||decide (x.Item<1)||decide (9999<x.Item)||!(rng 0 109572 x.Day) then 2
 else bif decide (x.Kind<1)||decide (3<x.Kind) then 1
 else bif decide (x.Amount<1)||decide (100000000<x.Amount)||decide (x.Paid<0)||decide (x.Amount≤x.Paid) then 2 else 0
def chargesErr (l:List Charge):Int:=bif decide (128<(l.length:Int)) then 13 else errAt (chargeErr l) 0 l
theorem qbc_L4_run {l:List Charge} (hl:l.length<1000000000):whileO qbc_L4 (l,0,())=some (if errAt (chargeErr l) 0 l==0 then .inl () else .inr (errAt (chargeErr l) 0 l,())):=by
 have h:=whileO_err (step:=qbc_L4) (fun i=>(l,(i:Int),())) l (chargeErr l) (.inl ()) (fun e=>.inr (e,())) hl
  (by simp only[qbc_L4,dge,cond_false])
  (fun i x hx=>by
   have hi:=(List.getElem?_eq_some_iff.1 hx).1
   have hxm:=List.mem_of_getElem? hx
   unfold chargeErr
   simp only[errOut_cond]
   rcases i with _|j
   ·simp -zeta only[qbc_L4,dlt hi,getI_nat,hx,k_or,k_and,dpos0,cond_false,cond_true,prevB,wr_succ (show 0<9223372036854775807 by omega),qe4_eq]
    rfl
   ·have hj:l[j]?=some l[j]:=List.getElem?_eq_getElem (by omega)
    simp -zeta only[qbc_L4,dlt hi,getI_nat,hx,k_or,k_and,dpos,wr_pred (show j<1000000000 by omega),hj,cond_false,cond_true,prevB,wr_succ (show j+1<9223372036854775807 by omega),qe4_eq]
    rfl)
 exact h
theorem qbc_eq {l:List Charge} (hl:l.length<1000000000):qbc l=some (chargesErr l):=by
 unfold qbc chargesErr
 rw[qbc_L4_run hl]
 generalize errAt (chargeErr l) 0 l=e
 cases decide (128<(l.length:Int)) with
 |true=>rfl
 |false=>
  by_cases h:e=0
  ·subst h;rfl
  ·have h2:(e==0)=false:=by simpa using h
   simp only[h2,Bool.false_eq_true,if_false,cond_false]
def patronErr (l:List Patron) (i:Nat) (x:Patron):Int:=
 bif decide (x.ID<1)||decide (9999<x.ID) then 2
 else bif prevB l i (fun y=>decide (x.ID≤y.ID)) then 7
 else bif decide (x.Kind<1)||decide (9<x.Kind)||decide (x.Branch<1)||decide (4<x.Branch) then 1
 else bif decide (x.Until<0)||decide (109572<x.Until) then 2
 else bif x.Name==[]||!(vld x.Name)||!(cln x.Name==x.Name) then 3
 else bif decide (200<(x.Name.length:Int)) then 4 else 0
def patronsErr (l:List Patron):Int:=bif decide (32<(l.length:Int)) then 13 else errAt (patronErr l) 0 l
theorem qao_L4_run {l:List Patron} (hl:l.length<1000000000) (hn:∀x∈l,x.Name.length<10000000):whileO qao_L4 (l,0,())=some (if errAt (patronErr l) 0 l==0 then .inl () else .inr (errAt (patronErr l) 0 l,())):=by
 have h:=whileO_err (step:=qao_L4) (fun i=>(l,(i:Int),())) l (patronErr l) (.inl ()) (fun e=>.inr (e,())) hl
  (by simp only[qao_L4,dge,cond_false])
  (fun i x hx=>by
   have hi:=(List.getElem?_eq_some_iff.1 hx).1
   have hxm:=List.mem_of_getElem? hx
   have hv:=qau_eq (s:=x.Name) (by have:=hn x hxm;omega)
   have hc:=qbp_eq (s:=x.Name) (by have:=hn x hxm;omega)
   unfold patronErr
   simp only[errOut_cond]
   rcases i with _|j
   ·simp -zeta only[qao_L4,dlt hi,getI_nat,hx,k_or,k_and,dpos0,cond_false,cond_true,prevB,wr_succ (show 0<9223372036854775807 by omega),hv,hc]
    rfl
   ·have hj:l[j]?=some l[j]:=List.getElem?_eq_getElem (by omega)
    simp -zeta only[qao_L4,dlt hi,getI_nat,hx,k_or,k_and,dpos,wr_pred (show j<1000000000 by omega),hj,cond_false,cond_true,prevB,wr_succ (show j+1<9223372036854775807 by omega),hv,hc]
    rfl)
 exact h
theorem qao_eq {l:List Patron} (hl:l.length<1000000000) (hn:∀x∈l,x.Name.length<10000000):qao l=some (patronsErr l):=by
 unfold qao patronsErr
 rw[qao_L4_run hl hn]
 generalize errAt (patronErr l) 0 l=e
 cases decide (32<(l.length:Int)) with
 |true=>rfl
 |false=>
  by_cases h:e=0
  ·subst h;rfl
  ·have h2:(e==0)=false:=by simpa using h
   simp only[h2,Bool.false_eq_true,if_false,cond_false]
def loanErr (l:List Loan) (i:Nat) (x:Loan):Int:=
 bif prevB l i (fun y=>decide (x.Item≤y.Item)) then 7
 else bif decide (x.Item<1)||decide (9999<x.Item)||decide (x.Patron<1)||decide (9999<x.Patron)||decide (x.Out<0)||decide (109572<x.Out)||decide (x.Due<0)||decide (109572<x.Due)||decide (x.Due<x.Out)||decide (x.Renewals<0)||decide (10<x.Renewals) then 2 else 0
def loansErr (l:List Loan):Int:=bif decide (64<(l.length:Int)) then 13 else errAt (loanErr l) 0 l
theorem qbb_L4_run {l:List Loan} (hl:l.length<1000000000):whileO qbb_L4 (l,0,())=some (if errAt (loanErr l) 0 l==0 then .inl () else .inr (errAt (loanErr l) 0 l,())):=by
 have h:=whileO_err (step:=qbb_L4) (fun i=>(l,(i:Int),())) l (loanErr l) (.inl ()) (fun e=>.inr (e,())) hl
  (by simp only[qbb_L4,dge,cond_false])
  (fun i x hx=>by
   have hi:=(List.getElem?_eq_some_iff.1 hx).1
   have hxm:=List.mem_of_getElem? hx
   unfold loanErr
   simp only[errOut_cond]
   rcases i with _|j
   ·simp -zeta only[qbb_L4,dlt hi,getI_nat,hx,k_or,k_and,dpos0,cond_false,cond_true,prevB,wr_succ (show 0<9223372036854775807 by omega)]
    rfl
   ·have hj:l[j]?=some l[j]:=List.getElem?_eq_getElem (by omega)
    simp -zeta only[qbb_L4,dlt hi,getI_nat,hx,k_or,k_and,dpos,wr_pred (show j<1000000000 by omega),hj,cond_false,cond_true,prevB,wr_succ (show j+1<9223372036854775807 by omega)]
    rfl)
 exact h
theorem qbb_eq {l:List Loan} (hl:l.length<1000000000):qbb l=some (loansErr l):=by
 unfold qbb loansErr
 rw[qbb_L4_run hl]
 generalize errAt (loanErr l) 0 l=e
 cases decide (64<(l.length:Int)) with
 |true=>rfl
 |false=>
  by_cases h:e=0
  ·subst h;rfl
  ·have h2:(e==0)=false:=by simpa using h
   simp only[h2,Bool.false_eq_true,if_false,cond_false]
def holdShape (h:Hold):Int:=
 bif decide (h.ID<1)||decide (99999<h.ID)||!(rng 1 9999 h.Patron)||!(rng 1 9999 h.Record)||!(h.Item==0)&&!(rng 1 9999 h.Item)||decide (h.Pickup<1)||decide (4<h.Pickup)||!(rng 0 109572 h.Placed)||!(h.Got==0)&&!(rng 1 9999 h.Got)||!(rng 0 109572 h.Until)||!(rng 0 109572 h.Asleep)||decide (h.Rank<0)||decide (9<h.Rank) then 2
 else bif decide (h.State<1)||decide (3<h.State) then 1
 else bif !((decide (0<h.Got))==(!(h.State==1)))||!((decide (0<h.Until))==(h.State==3)) then 12 else 0
theorem qep_eq (h:Hold):qep h=some (holdShape h):=by
 unfold qep holdShape
 simp -zeta only[k_or,k_and,qdl_eq,qdo_eq,←k_some]
 rfl
def holdErr (l:List Hold) (i:Nat) (x:Hold):Int:=
 bif prevB l i (fun y=>decide (x.ID≤y.ID)) then 7 else bif !(holdShape x==0) then holdShape x else 0
theorem qg_L4_run {l:List Hold} (hl:l.length<1000000000):whileO qg_L4 (l,0,())=some (if errAt (holdErr l) 0 l==0 then .inl (l,()) else .inr (errAt (holdErr l) 0 l,())):=by
 have h:=whileO_err (step:=qg_L4) (fun i=>(l,(i:Int),())) l (holdErr l) (.inl (l,())) (fun e=>.inr (e,())) hl
  (by simp only[qg_L4,dge,cond_false])
  (fun i x hx=>by
   have hi:=(List.getElem?_eq_some_iff.1 hx).1
   have hxm:=List.mem_of_getElem? hx
   have hs:∀(a:List Hold×Int×Unit) (g:Int→((List Hold×Unit)⊕(Int×Unit))),(bif !(holdShape x==0) then errOut a g (holdShape x) else errOut a g 0)=bif !(holdShape x==0) then some (.inr (g (holdShape x))) else some (.inl a):=fun a g=>by
    unfold errOut
    cases holdShape x==0<;>rfl
   unfold holdErr
   simp only[errOut_cond,hs]
   rcases i with _|j
   ·simp -zeta only[qg_L4,dlt hi,getI_nat,hx,k_or,k_and,dpos0,cond_false,cond_true,prevB,wr_succ (show 0<9223372036854775807 by omega),qep_eq]
    rfl
   ·have hj:l[j]?=some l[j]:=List.getElem?_eq_getElem (by omega)
    simp -zeta only[qg_L4,dlt hi,getI_nat,hx,k_or,k_and,dpos,wr_pred (show j<1000000000 by omega),hj,cond_false,cond_true,prevB,wr_succ (show j+1<9223372036854775807 by omega),qep_eq]
    rfl)
 exact h
def holdClash (x y:Hold):Bool:=x.Patron==y.Patron&&x.Record==y.Record||decide (0<x.Got)&&x.Got==y.Got
theorem qg_L15_run {l:List Hold} {i:Nat} {x:Hold} (hl:l.length<1000000000) (hx:l[i]?=some x):whileO qg_L15 (l,(i:Int),0,())=some (bif (l.take i).all (fun y=>!(holdClash x y)) then .inl (l,(i:Int),()) else .inr (7,())):=by
 have hi:=(List.getElem?_eq_some_iff.1 hx).1
 have h:=whileO_all (step:=qg_L15) (fun k=>(l,(i:Int),(k:Int),())) (l.take i) (fun _ y=>!(holdClash x y)) (.inr (7,())) (.inl (l,(i:Int),())) (by rw[List.length_take];omega)
  (by rw[List.length_take,Nat.min_eq_left (by omega)];simp only[qg_L15,dge,cond_false])
  (fun k y hy=>by
   have hk:=(List.getElem?_eq_some_iff.1 hy).1
   rw[List.length_take]at hk
   have hy2:l[k]?=some y:=by rw[←hy,List.getElem?_take_of_lt (by omega)]
   simp -zeta only[qg_L15,dlt (show k<i by omega),getI_nat,hx,hy2,k_or,k_and,cond_true,wr_succ (show k<9223372036854775807 by omega)]
   dsimp only
   unfold holdClash
   cases (x.Patron==y.Patron&&x.Record==y.Record||decide (0<x.Got)&&x.Got==y.Got)<;>rfl)
 rw[show whileO qg_L15 (l,(i:Int),0,())=_ from h,allAt_all]
def holdsApart (l:List Hold):Bool:=allAt (fun i x=>(l.take i).all (fun y=>!(holdClash x y))) 0 l
theorem qg_L12_run {l:List Hold} (hl:l.length<1000000000):whileO qg_L12 (l,0,())=some (bif holdsApart l then .inl () else .inr (7,())):=by
 have h:=whileO_all (step:=qg_L12) (fun i=>(l,(i:Int),())) l (fun i x=>(l.take i).all (fun y=>!(holdClash x y))) (.inr (7,())) (.inl ()) hl
  (by simp only[qg_L12,dge,cond_false])
  (fun i x hx=>by
   have hi:=(List.getElem?_eq_some_iff.1 hx).1
   simp only[qg_L12,dlt hi,cond_true,qg_L15_run hl hx]
   cases (l.take i).all (fun y=>!(holdClash x y)) with
   |true=>simp only[cond_true,wr_succ (show i<9223372036854775807 by omega)]
   |false=>rfl)
 exact h
def holdsErr (l:List Hold):Int:=bif decide (64<(l.length:Int)) then 13 else bif errAt (holdErr l) 0 l==0 then (bif holdsApart l then 0 else 7) else errAt (holdErr l) 0 l
theorem qg_eq {l:List Hold} (hl:l.length<1000000000):qg l=some (holdsErr l):=by
 unfold qg holdsErr
 rw[qg_L4_run hl]
 cases decide (64<(l.length:Int)) with
 |true=>rfl
 |false=>
  by_cases h:errAt (holdErr l) 0 l=0
  ·simp only[h,beq_self_eq_true,if_true,cond_false,cond_true,qg_L12_run hl]
   cases holdsApart l<;>rfl
  ·have:(errAt (holdErr l) 0 l==0)=false:=by simpa using h
   simp only[this,Bool.false_eq_true,if_false,cond_false]
def ruleOk (r:Rule):Bool:=rng 0 9 r.Patron&&rng 0 9 r.Item&&rng 0 4 r.Branch&&(rng 0 365 r.Days&&rng 0 10 r.Renewals&&rng 0 99 r.Loans)&&(rng 0 1000 r.Fine&&rng 0 30 r.Grace&&rng 0 100000000 r.MaxFine)&&rng 1 60 r.Shelf&&rng 1 60 r.Recall&&rng 0 109572 r.Fixed&&rng 0 9 r.Rank
theorem qd4_eq (r:Rule):qd4 r=some (ruleOk r):=by
 unfold qd4 ruleOk
 simp -zeta only[k_or,k_and,qb3_eq]
 rfl
def ruleSame (x y:Rule):Bool:=x.Patron==y.Patron&&x.Item==y.Item&&x.Branch==y.Branch
def ruleErr (l:List Rule) (i:Nat) (x:Rule):Int:=bif !(ruleOk x) then 2 else bif (l.take i).all (fun y=>!(ruleSame y x)) then 0 else 7
theorem qh_L9_run {l:List Rule} {i:Nat} {x:Rule} (hl:l.length<1000000000) (hx:l[i]?=some x):whileO qh_L9 (l,(i:Int),0,())=some (bif (l.take i).all (fun y=>!(ruleSame y x)) then .inl (l,(i:Int),()) else .inr (7,())):=by
 have hi:=(List.getElem?_eq_some_iff.1 hx).1
 have h:=whileO_all (step:=qh_L9) (fun k=>(l,(i:Int),(k:Int),())) (l.take i) (fun _ y=>!(ruleSame y x)) (.inr (7,())) (.inl (l,(i:Int),())) (by rw[List.length_take];omega)
  (by rw[List.length_take,Nat.min_eq_left (by omega)];simp only[qh_L9,dge,cond_false])
  (fun k y hy=>by
   have hk:=(List.getElem?_eq_some_iff.1 hy).1
   rw[List.length_take]at hk
   have hy2:l[k]?=some y:=by rw[←hy,List.getElem?_take_of_lt (by omega)]
   simp -zeta only[qh_L9,dlt (show k<i by omega),getI_nat,hx,hy2,k_or,k_and,cond_true,wr_succ (show k<9223372036854775807 by omega)]
   dsimp only
   unfold ruleSame
   cases (y.Patron==x.Patron&&y.Item==x.Item&&y.Branch==x.Branch)<;>rfl)
 rw[show whileO qh_L9 (l,(i:Int),0,())=_ from h,allAt_all]
theorem qh_L4_run {l:List Rule} (hl:l.length<1000000000):whileO qh_L4 (l,0,())=some (if errAt (ruleErr l) 0 l==0 then .inl () else .inr (errAt (ruleErr l) 0 l,())):=by
 have h:=whileO_err (step:=qh_L4) (fun i=>(l,(i:Int),())) l (ruleErr l) (.inl ()) (fun e=>.inr (e,())) hl
  (by simp only[qh_L4,dge,cond_false])
  (fun i x hx=>by
   have hi:=(List.getElem?_eq_some_iff.1 hx).1
   unfold ruleErr
   simp only[errOut_cond,qh_L4,dlt hi,getI_nat,hx,cond_true,qd4_eq,qh_L9_run hl hx]
   cases ruleOk x with
   |false=>rfl
   |true=>
    simp only[Bool.not_true,cond_false]
    cases (l.take i).all (fun y=>!(ruleSame y x)) with
    |true=>simp only[cond_true,wr_succ (show i<9223372036854775807 by omega)];rfl
    |false=>rfl)
 exact h
def rulesErr (l:List Rule):Int:=bif decide (32<(l.length:Int)) then 13 else errAt (ruleErr l) 0 l
theorem qh_eq {l:List Rule} (hl:l.length<1000000000):qh l=some (rulesErr l):=by
 unfold qh rulesErr
 rw[qh_L4_run hl]
 generalize errAt (ruleErr l) 0 l=e
 cases decide (32<(l.length:Int)) with
 |true=>rfl
 |false=>
  by_cases h:e=0
  ·subst h;rfl
  ·have h2:(e==0)=false:=by simpa using h
   simp only[h2,Bool.false_eq_true,if_false,cond_false]
def incr (l:List Int):Bool:=allAt (fun i x=>!(prevB l i (fun y=>decide (x≤y)))) 0 l
theorem allAt_shift {X:Type} {p:Nat→X→Bool}:∀{l:List X} {i:Nat},allAt p (i+1) l=allAt (fun i=>p (i+1)) i l:=by
 intro l
 induction l with
 |nil=>intros;rfl
 |cons x l ih=>intro i;simp only[allAt];rw[ih]
theorem incr_tail (l:List Int):incr l=allAt (fun i x=>!(prevB l (i+1) (fun y=>decide (x≤y)))) 0 l.tail:=by
 cases l with
 |nil=>rfl
 |cons x l=>
  unfold incr
  simp only[allAt,List.tail_cons]
  rw[allAt_shift]
  rfl
def calErr (c:Calendar):Int:=
 bif decide (c.Week<0)||decide (126<c.Week) then 1
 else bif decide (64<(c.Closed.length:Int)) then 13
 else bif c.Closed.all (fun x=>!(decide (x<0)||decide (109572<x))) then (bif incr c.Closed then 0 else 7) else 2
theorem qu_L6_run {c:Calendar} (hl:c.Closed.length<1000000000):whileO qu_L6 (0,c,())=some (bif c.Closed.all (fun x=>!(decide (x<0)||decide (109572<x))) then .inl (c,()) else .inr (2,())):=by
 have h:=whileO_all (step:=qu_L6) (fun i=>((i:Int),c,())) c.Closed (fun _ x=>!(decide (x<0)||decide (109572<x))) (.inr (2,())) (.inl (c,())) hl
  (by simp only[qu_L6,dge,cond_false])
  (fun i x hx=>by
   have hi:=(List.getElem?_eq_some_iff.1 hx).1
   simp -zeta only[qu_L6,dlt hi,getI_nat,hx,k_or,k_and,cond_true,wr_succ (show i<9223372036854775807 by omega)]
   cases (decide (x<0)||decide (109572<x))<;>rfl)
 rw[show whileO qu_L6 (0,c,())=_ from h,allAt_all]
theorem qu_L11_run {c:Calendar} (hl:c.Closed.length<1000000000):whileO qu_L11 (1,c,())=some (bif incr c.Closed then .inl () else .inr (7,())):=by
 have h:=whileO_all (step:=qu_L11) (fun i=>(((i+1:Nat):Int),c,())) c.Closed.tail (fun i x=>!(prevB c.Closed (i+1) (fun y=>decide (x≤y)))) (.inr (7,())) (.inl ()) (by rw[List.length_tail];omega)
  (by
   rw[List.length_tail]
   have:decide (((c.Closed.length-1+1:Nat):Int)<(c.Closed.length:Int))=false:=by rw[decide_eq_false_iff_not];omega
   simp only[qu_L11,this,cond_false])
  (fun i x hx=>by
   rw[List.getElem?_tail]at hx
   have hi:=(List.getElem?_eq_some_iff.1 hx).1
   have hj:c.Closed[i]?=some c.Closed[i]:=List.getElem?_eq_getElem (by omega)
   simp -zeta only[qu_L11,dlt hi,getI_nat,hx,cond_true,wr_pred (show i<1000000000 by omega),hj,prevB,wr_succ (show i+1<9223372036854775807 by omega)]
   cases decide (x≤c.Closed[i])<;>rfl)
 rw[show whileO qu_L11 (1,c,())=_ from h,incr_tail]
theorem qu_eq {c:Calendar} (hl:c.Closed.length<1000000000):qu c=some (calErr c):=by
 unfold qu calErr
 simp -zeta only[k_or]
 dsimp only
 rw[qu_L6_run hl]
 cases (decide (c.Week<0)||decide (126<c.Week)) with
 |true=>rfl
 |false=>
  cases decide (64<(c.Closed.length:Int)) with
  |true=>rfl
  |false=>
   cases c.Closed.all (fun x=>!(decide (x<0)||decide (109572<x))) with
   |false=>rfl
   |true=>
    simp only[cond_false,cond_true,qu_L11_run hl]
    cases incr c.Closed<;>rfl
end Go.Proofs.YtdahfgialanmpaaGreatDoor
namespace Go.Proofs.YtdahfgialanmpaaGreatDoor
open Ev
open Go (IntKind)
def qd7_s (state:Int):Bool:=(state==4||state==5||state==8||state==9||state==10)
theorem qd7_eq (state:Int):qd7 state=some (qd7_s state):=by
 unfold qd7
 try simp -zeta only[k_or,k_and,k_or2,k_some,cond_true,cond_false]
 try dsimp only
 try simp only[k_some]
 try rfl
def qer_s (c:Custody):Bool:=(bif decide (c.State<1)||decide (12<c.State)||decide (c.Branch<1)||decide (4<c.Branch) then false
 else
  bif c.State==6 then
   decide (0≤c.Who)&&decide (c.Who≤9999)&&decide (1≤c.To)&&decide (c.To≤4)&&!c.To==c.Branch
  else
   bif !c.To==0 then false
   else bif qd7_s c.State then decide (1≤c.Who)&&decide (c.Who≤9999) else c.Who==0)
theorem qer_eq (c:Custody):qer c=some (qer_s c):=by
 unfold qer
 try simp -zeta only[k_or,k_and,k_or2,k_some,cond_true,cond_false,qd7_eq]
 try dsimp only
 try simp only[k_some]
 try rfl
def qej_s (m:Move):Bool:=(decide (0≤m.Day)&&decide (m.Day≤109572)&&decide (1≤m.Item)&&decide (m.Item≤9999)&&
 decide (1≤m.Kind)&&
 decide (m.Kind≤15)&&
 decide (1≤m.Branch)&&
 decide (m.Branch≤4)&&
 decide (0≤m.Who)&&
 decide (m.Who≤9999))
theorem qej_eq (m:Move):qej m=some (qej_s m):=by
 unfold qej
 try simp -zeta only[k_or,k_and,k_or2,k_some,cond_true,cond_false,qd7_eq,qer_eq]
 try dsimp only
 try simp only[k_some]
 try rfl
def qek_s (kind:Int):(List Int):=(bif kind==1 then [1]
 else
  bif kind==2 then [2,5]
  else
   bif kind==3 then [3,5]
   else
    bif kind==4 then [4,8,9,10]
    else
     bif kind==5||kind==8 then [2,3]
     else
      bif kind==6 then [2,3,5]
      else
       bif kind==7 then [6]
       else
        bif kind==9 then [7]
        else
         bif kind==10 then [3]
         else
          bif kind==11 then [4]
          else
           bif kind==12 then [4,9]
           else
            bif kind==13 then [2,3,5,6,7]
            else bif kind==14 then [11] else bif kind==15 then [1,2,3,11,10] else [])
theorem qek_eq (kind:Int):qek kind=some (qek_s kind):=by
 unfold qek
 try simp -zeta only[k_or,k_and,k_or2,k_some,cond_true,cond_false,qd7_eq,qer_eq,qej_eq]
 try dsimp only
 try simp only[k_some]
 try rfl
def qeq_s (kind:Int):Int:=(bif kind==1||(kind==4||(kind==7||(kind==9||kind==14))) then 2
 else
  bif kind==2 then 3
  else
   bif kind==3 then 4
   else
    bif kind==5 then 5
    else
     bif kind==6 then 6
     else
      bif kind==8 then 7
      else
       bif kind==10 then 8
       else bif kind==11 then 9 else bif kind==12 then 10 else bif kind==13 then 11 else 12)
theorem qeq_eq (kind:Int):qeq kind=some (qeq_s kind):=by
 unfold qeq
 try simp -zeta only[k_or,k_and,k_or2,k_some,cond_true,cond_false,qd7_eq,qer_eq,qej_eq,qek_eq]
 try dsimp only
 try simp only[k_some]
 try rfl
def qez_s (c:Custody) (m:Move):Bool:=(bif m.Kind==1||(m.Kind==4||(m.Kind==9||m.Kind==14)) then m.Who==0
 else
  bif m.Kind==7 then m.Who==0&&m.Branch==c.To
  else
   bif m.Kind==6 then !m.Branch==c.Branch
   else
    bif m.Kind==3||(m.Kind==5||m.Kind==10) then m.Branch==c.Branch&&decide (1≤m.Who)
    else m.Branch==c.Branch&&m.Who==0)
theorem qez_eq (c:Custody) (m:Move):qez c m=some (qez_s c m):=by
 unfold qez
 try simp -zeta only[k_or,k_and,k_or2,k_some,cond_true,cond_false,qd7_eq,qer_eq,qej_eq,qek_eq,qeq_eq]
 try dsimp only
 try simp only[k_some]
 try rfl
def qdk_s (branch:Int):Custody:={State:=1,Branch:=branch,Who:=0,To:=0}
theorem qdk_eq (branch:Int):qdk branch=some (qdk_s branch):=by
 unfold qdk
 try simp -zeta only[k_or,k_and,k_or2,k_some,cond_true,cond_false,qd7_eq,qer_eq,qej_eq,qek_eq,qeq_eq,qez_eq]
 try dsimp only
 try simp only[k_some]
 try rfl
def qdq_s (u:Custody):Bool:=(u.State==4||u.State==9||u.State==10)
theorem qdq_eq (u:Custody):qdq u=some (qdq_s u):=by
 unfold qdq
 try simp -zeta only[k_or,k_and,k_or2,k_some,cond_true,cond_false,qd7_eq,qer_eq,qej_eq,qek_eq,qeq_eq,qez_eq,qdk_eq]
 try dsimp only
 try simp only[k_some]
 try rfl
end Go.Proofs.YtdahfgialanmpaaGreatDoor
namespace Go.Proofs.YtdahfgialanmpaaGreatDoor
open Ev
open Go (IntKind)
theorem hasX {X:Type} {p:X→Bool}:∀{l:List X} {i:Nat},findG p (fun _ _=>true) false i l=l.any p:=by
 intro l
 induction l with
 |nil=>intros;rfl
 |cons x l ih=>intro i;simp only[findG,List.any_cons];cases p x with|true=>rfl|false=>rw[cond_false,ih,Bool.false_or]
def allows (state kind:Int):Bool:=(qek_s kind).any (fun x=>x==state)
theorem cond_len {X:Type} {b:Bool} {x y:List X} {n:Nat} (hx:x.length<n) (hy:y.length<n):(bif b then x else y).length<n:=by cases b<;>assumption
theorem states_len (kind:Int):(qek_s kind).length<10:=by
 unfold qek_s
 repeat' first|apply cond_len|decide
theorem qa8_eq (state kind:Int):qa8 state kind=some (allows state kind):=by
 unfold qa8 allows
 rw[qek_eq]
 have hl:=states_len kind
 generalize qek_s kind=l at hl ⊢
 have h:=whileO_find (step:=qa8_L3) (fun i=>(state,l,(i:Int),())) l (fun x=>x==state) (fun _ _=>(.inr (true,()):Unit⊕(Bool×Unit))) (.inl ()) (by omega)
  (by simp only[qa8_L3,dge,cond_false])
  (fun i x hx=>by
   have hi:=(List.getElem?_eq_some_iff.1 hx).1
   simp only[qa8_L3,dlt hi,getI_nat,hx,cond_true,wr_succ (show i<9223372036854775807 by omega)])
 dsimp only
 rw[show whileO qa8_L3 (state,l,0,())=_ from h,←hasX (i:=0)]
 have key:∀(l:List Int) (i:Nat),(match some (findG (fun x=>x==state) (fun _ _=>(.inr (true,()):Unit⊕(Bool×Unit))) (.inl ()) i l) with|some (.inl _)=>some false|some (.inr (v,_))=>some v|none=>none)=some (findG (fun x=>x==state) (fun _ _=>true) false i l):=by
  intro l
  induction l with
  |nil=>intro i;rfl
  |cons x l ih=>intro i;simp only[findG];cases x==state with|true=>rfl|false=>exact ih _
 exact key l 0
def applyS (c:Custody) (m:Move):Custody×Int:=
 bif !(qer_s c)||!(qej_s m) then (⟨0,0,0,0⟩,1)
 else bif !(allows c.State m.Kind) then (⟨0,0,0,0⟩,12)
 else bif m.Kind==3&&c.State==5&&!(m.Who==c.Who) then (⟨0,0,0,0⟩,16)
 else bif !(qez_s c m) then (⟨0,0,0,0⟩,1)
 else bif qeq_s m.Kind==2 then (⟨qeq_s m.Kind,m.Branch,0,0⟩,0)
 else bif qeq_s m.Kind==4||(qeq_s m.Kind==5||qeq_s m.Kind==8) then (⟨qeq_s m.Kind,c.Branch,m.Who,0⟩,0)
 else bif qeq_s m.Kind==6 then (⟨qeq_s m.Kind,c.Branch,m.Who,m.Branch⟩,0)
 else bif qeq_s m.Kind==9||qeq_s m.Kind==10 then (⟨qeq_s m.Kind,c.Branch,c.Who,0⟩,0)
 else (⟨qeq_s m.Kind,c.Branch,0,0⟩,0)
theorem qes_eq (c:Custody) (m:Move):qes c m=some (applyS c m):=by
 unfold qes applyS
 simp -zeta only[k_or,k_and,k_or2,qer_eq,qej_eq,qa8_eq,qez_eq,qeq_eq]
 dsimp only
 simp only[k_some]
def replayF:Nat→List Move→Int→Custody→(Custody⊕(Int×Int))
 |_,[],_,c=>.inl c
 |i,x::l,item,c=>bif x.Item==item then (bif (applyS c x).2==0 then replayF (i+1) l item (applyS c x).1 else .inr ((i:Int),(applyS c x).2)) else replayF (i+1) l item c
def replayS (branch:Int) (l:List Move) (item:Int):Custody×Int×Int:=
 bif decide (branch<1)||decide (4<branch) then (⟨0,0,0,0⟩,-1,1)
 else match replayF 0 l item (qdk_s branch) with
  |.inl c=>(c,-1,0)
  |.inr (i,e)=>(⟨0,0,0,0⟩,i,e)
theorem scan_replay {β:Type} (item:Int) (fin:Custody→β) (out:Int×Int→β):∀(l:List Move) (i:Nat) (c:Custody),
 scanT (fun i x c=>bif x.Item==item then (bif (applyS c x).2==0 then .inl (applyS c x).1 else .inr (out ((i:Int),(applyS c x).2))) else .inl c) fin i l c=(match replayF i l item c with | .inl c=>fin c | .inr p=>out p):=by
 intro l
 induction l with
 |nil=>intros;rfl
 |cons x l ih=>
  intro i c
  simp only[scanT,replayF]
  cases x.Item==item with
  |false=>exact ih _ _
  |true=>
   simp only[cond_true]
   cases (applyS c x).2==0 with
   |true=>exact ih _ _
   |false=>rfl
theorem qba_eq {branch:Int} {l:List Move} {item:Int} (hl:l.length<1000000000):qba branch l item=some (replayS branch l item):=by
 unfold qba replayS
 simp -zeta only[k_or,qdk_eq]
 dsimp only
 have h:=whileO_scan (step:=qba_L5) (fun i c=>(l,item,(i:Int),(⟨0,0,0,0⟩:Custody),c,())) l
  (fun i x c=>bif x.Item==item then (bif (applyS c x).2==0 then .inl (applyS c x).1 else .inr (.inr ((i:Int),(applyS c x).2,(⟨0,0,0,0⟩:Custody),()))) else .inl c)
  (fun c=>.inl (⟨0,0,0,0⟩,c,())) (by show l.length<18446744073709551616;omega) (fun c=>by simp only[qba_L5,dge,cond_false])
  (fun i x c hx=>by
   have hi:=(List.getElem?_eq_some_iff.1 hx).1
   simp only[qba_L5,dlt hi,getI_nat,hx,cond_true,qes_eq,wr_succ (show i<9223372036854775807 by omega)]
   cases x.Item==item with
   |false=>rfl
   |true=>
    simp only[Bool.not_true,cond_false,cond_true]
    obtain ⟨d,e⟩:=applyS c x
    cases he:e==0 with
    |true=>rfl
    |false=>rfl) (qdk_s branch)
 rw[scan_replay item (fun c=>(.inl (⟨0,0,0,0⟩,c,()):(Custody×Custody×Unit)⊕(Int×Int×Custody×Unit))) (fun p=>.inr (p.1,p.2,(⟨0,0,0,0⟩:Custody),()))]at h
 rw[show whileO qba_L5 (l,item,0,(⟨0,0,0,0⟩:Custody),qdk_s branch,())=_ from h]
 cases (decide (branch<1)||decide (4<branch)) with
 |true=>rfl
 |false=>
  simp only[cond_false]
  cases replayF 0 l item (qdk_s branch) with
  |inl c=>rfl
  |inr p=>rfl
end Go.Proofs.YtdahfgialanmpaaGreatDoor
namespace Go.Proofs.YtdahfgialanmpaaGreatDoor
open Ev
open Go (IntKind)
theorem fIdx_cases {X:Type} (p:X→Bool) (l:List X):(fIdx p l = -1∧l.find? p=none)∨∃(i:Nat) (x:X),fIdx p l=(i:Int)∧l[i]?=some x∧p x=true∧l.find? p=some x:=by
 unfold fIdx
 induction l with
 |nil=>exact .inl ⟨rfl,rfl⟩
 |cons y l ih=>
  simp only[List.findIdx?_cons,List.find?_cons]
  cases hp:p y with
  |true=>exact .inr ⟨0,y,rfl,rfl,hp,rfl⟩
  |false=>
   simp only[Bool.false_eq_true,if_false]
   rcases ih with ⟨h1,h2⟩|⟨i,x,h1,h2,h3,h4⟩
   ·left
    refine ⟨?_,h2⟩
    cases hf:l.findIdx? p with
    |none=>rfl
    |some k=>rw[hf]at h1;simp only at h1;omega
   ·right
    refine ⟨i+1,x,?_,by simpa using h2,h3,h4⟩
    cases hf:l.findIdx? p with
    |none=>rw[hf]at h1;simp only at h1;omega
    |some k=>rw[hf]at h1;simp only[Option.map_some]at h1 ⊢;omega
theorem dneg1:decide ((-1:Int)<0)=true:=rfl
theorem dnat0 {i:Nat}:decide ((i:Int)<0)=false:=by rw[decide_eq_false_iff_not];omega
def getP (l:List Patron) (id:Int):Patron×Bool:=match l.find? (fun p=>p.ID==id) with|some p=>(p,true)|none=>(⟨0,0,0,0,false,[]⟩,false)
def findL (l:List Loan) (item:Int):Loan×Bool:=match l.find? (fun n=>n.Item==item) with|some n=>(n,true)|none=>(⟨0,0,0,0,0,false⟩,false)
def noHold:Hold:=⟨0,0,0,0,0,0,0,0,0,0,0⟩
def caughtS (c:Circ) (item:Int):Hold×Bool:=match c.Holds.find? (fun h=>h.Got==item) with|some h=>(h,true)|none=>(noHold,false)
theorem qag_eq {c:Circ} {item:Int} (hl:c.Items.length<1000000000):qag c item=some (fIdx (fun x=>x.ID==item) c.Items):=by
 unfold qag
 have h:=whileO_find (step:=qag_L2) (fun i=>(item,(i:Int),c,())) c.Items (fun x=>x.ID==item) (fun i _=>(.inr ((i:Int),()):Unit⊕(Int×Unit))) (.inl ()) hl
  (by simp only[qag_L2,dge,cond_false])
  (fun i x hx=>by
   have hi:=(List.getElem?_eq_some_iff.1 hx).1
   simp only[qag_L2,dlt hi,getI_nat,hx,cond_true,wr_succ (show i<9223372036854775807 by omega)])
 rw[show whileO qag_L2 (item,0,c,())=_ from h,←findG_fIdx]
 have:=findG_map (p:=fun x:Item=>x.ID==item) (g:=fun i _=>(.inr ((i:Int),()):Unit⊕(Int×Unit))) (d:=.inl ()) (fun z=>match (some z:Option (Unit⊕(Int×Unit))) with|some (.inl _)=>some (-1)|some (.inr (v,_))=>some v|none=>none) (l:=c.Items) (i:=0)
 exact this.trans ((findG_map (p:=fun x:Item=>x.ID==item) (g:=fun i _=>(i:Int)) (d:=-1) (fun z=>some z) (l:=c.Items) (i:=0)).symm)
theorem qag_cases {c:Circ} {item:Int} (hl:c.Items.length<1000000000):(qag c item=some (-1)∧c.Items.find? (fun x=>x.ID==item)=none)∨
 ∃(i:Nat) (x:Item),qag c item=some (i:Int)∧c.Items[i]?=some x∧x.ID=item∧c.Items.find? (fun x=>x.ID==item)=some x:=by
 rw[qag_eq hl]
 rcases fIdx_cases (fun x:Item=>x.ID==item) c.Items with ⟨h1,h2⟩|⟨i,x,h1,h2,h3,h4⟩
 ·exact .inl ⟨by rw[h1],h2⟩
 ·exact .inr ⟨i,x,by rw[h1],h2,by simpa using h3,h4⟩
theorem qaw_eq {l:List Patron} {id:Int} (hl:l.length<1000000000):qaw l id=some (fIdx (fun x=>x.ID==id) l):=by
 unfold qaw
 have h:=whileO_find (step:=qaw_L2) (fun i=>(l,id,(i:Int),())) l (fun x=>x.ID==id) (fun i _=>(.inr ((i:Int),()):Unit⊕(Int×Unit))) (.inl ()) hl
  (by simp only[qaw_L2,dge,cond_false])
  (fun i x hx=>by
   have hi:=(List.getElem?_eq_some_iff.1 hx).1
   simp only[qaw_L2,dlt hi,getI_nat,hx,cond_true,wr_succ (show i<9223372036854775807 by omega)])
 rw[show whileO qaw_L2 (l,id,0,())=_ from h,←findG_fIdx]
 have:=findG_map (p:=fun x:Patron=>x.ID==id) (g:=fun i _=>(.inr ((i:Int),()):Unit⊕(Int×Unit))) (d:=.inl ()) (fun z=>match (some z:Option (Unit⊕(Int×Unit))) with|some (.inl _)=>some (-1)|some (.inr (v,_))=>some v|none=>none) (l:=l) (i:=0)
 exact this.trans ((findG_map (p:=fun x:Patron=>x.ID==id) (g:=fun i _=>(i:Int)) (d:=-1) (fun z=>some z) (l:=l) (i:=0)).symm)
theorem qcr_eq {l:List Patron} {id:Int} (hl:l.length<1000000000):qcr l id=some (getP l id):=by
 unfold qcr getP
 rw[qaw_eq hl]
 rcases fIdx_cases (fun x:Patron=>x.ID==id) l with ⟨h1,h2⟩|⟨i,x,h1,h2,h3,h4⟩
 ·simp only[h1,h2,dneg1,cond_true]
 ·simp only[h1,h4,dnat0,cond_false,getI_nat,h2]
theorem qbf_eq {l:List Loan} {id:Int} (hl:l.length<1000000000):qbf l id=some (fIdx (fun x=>x.Item==id) l):=by
 unfold qbf
 have h:=whileO_find (step:=qbf_L2) (fun i=>(l,id,(i:Int),())) l (fun x=>x.Item==id) (fun i _=>(.inr ((i:Int),()):Unit⊕(Int×Unit))) (.inl ()) hl
  (by simp only[qbf_L2,dge,cond_false])
  (fun i x hx=>by
   have hi:=(List.getElem?_eq_some_iff.1 hx).1
   simp only[qbf_L2,dlt hi,getI_nat,hx,cond_true,wr_succ (show i<9223372036854775807 by omega)])
 rw[show whileO qbf_L2 (l,id,0,())=_ from h,←findG_fIdx]
 have:=findG_map (p:=fun x:Loan=>x.Item==id) (g:=fun i _=>(.inr ((i:Int),()):Unit⊕(Int×Unit))) (d:=.inl ()) (fun z=>match (some z:Option (Unit⊕(Int×Unit))) with|some (.inl _)=>some (-1)|some (.inr (v,_))=>some v|none=>none) (l:=l) (i:=0)
 exact this.trans ((findG_map (p:=fun x:Loan=>x.Item==id) (g:=fun i _=>(i:Int)) (d:=-1) (fun z=>some z) (l:=l) (i:=0)).symm)
theorem qey_eq {l:List Loan} {id:Int} (hl:l.length<1000000000):qey l id=some (findL l id):=by
 unfold qey findL
 rw[qbf_eq hl]
 rcases fIdx_cases (fun x:Loan=>x.Item==id) l with ⟨h1,h2⟩|⟨i,x,h1,h2,h3,h4⟩
 ·simp only[h1,h2,dneg1,cond_true]
 ·simp only[h1,h4,dnat0,cond_false,getI_nat,h2]
theorem qa9_eq {c:Circ} {item:Int} (hl:c.Holds.length<1000000000):qa9 c item=some (caughtS c item):=by
 unfold qa9 caughtS
 have h:=whileO_find (step:=qa9_L2) (fun i=>(item,(i:Int),c,noHold,())) c.Holds (fun x=>x.Got==item) (fun _ x=>(.inr (true,x,()):(Hold×Unit)⊕(Bool×Hold×Unit))) (.inl (noHold,())) hl
  (by simp only[qa9_L2,dge,cond_false])
  (fun i x hx=>by
   have hi:=(List.getElem?_eq_some_iff.1 hx).1
   simp only[qa9_L2,dlt hi,getI_nat,hx,cond_true,wr_succ (show i<9223372036854775807 by omega)])
 rw[show whileO qa9_L2 (item,0,c,(⟨0,0,0,0,0,0,0,0,0,0,0⟩:Hold),())=_ from h,findG_find]
 cases c.Holds.find? (fun x=>x.Got==item)<;>rfl
def itemGood (c:Circ) (i:Nat) (x:Item):Bool:=
 !(decide (x.ID<1)||decide (9999<x.ID)||prevB c.Items i (fun y=>decide (x.ID≤y.ID))||decide (x.Record<1)||decide (9999<x.Record)||decide (x.Branch<1)||decide (4<x.Branch))&&
 !(decide (x.Kind<1)||decide (9<x.Kind)||decide (x.Price<0)||decide (100000000<x.Price)||decide (200<(x.Call.length:Int))||!(vld x.Call))&&
 !(!((replayS x.Branch c.Moves x.ID).2.2==0)||!(eqT_Custody (replayS x.Branch c.Moves x.ID).1 x.Custody))
def itemsGood (c:Circ):Bool:=!(decide (64<(c.Items.length:Int))||decide (2000<(c.Moves.length:Int)))&&(allAt (itemGood c) 0 c.Items&&c.Moves.all (fun m=>(c.Items.find? (fun x=>x.ID==m.Item)).isSome))
structure Short (c:Circ):Prop where
 items:c.Items.length<1000000000
 patrons:c.Patrons.length<1000000000
 loans:c.Loans.length<1000000000
 holds:c.Holds.length<1000000000
 charges:c.Charges.length<1000000000
 rules:c.Rules.length<1000000000
 moves:c.Moves.length<1000000000
 call:∀x∈c.Items,x.Call.length<10000000
 name:∀x∈c.Patrons,x.Name.length<10000000
 cal0:c.Cals.x0.Closed.length<1000000000
 cal1:c.Cals.x1.Closed.length<1000000000
 cal2:c.Cals.x2.Closed.length<1000000000
 cal3:c.Cals.x3.Closed.length<1000000000
theorem qx_L4_run {c:Circ} (hs:Short c):whileO qx_L4 (0,c,())=some (bif allAt (itemGood c) 0 c.Items then .inl (c,()) else .inr (false,())):=by
 have h:=whileO_all (step:=qx_L4) (fun i=>((i:Int),c,())) c.Items (itemGood c) (.inr (false,())) (.inl (c,())) hs.items
  (by simp only[qx_L4,dge,cond_false])
  (fun i x hx=>by
   have hi:=(List.getElem?_eq_some_iff.1 hx).1
   have hm:=List.mem_of_getElem? hx
   have hv:=qau_eq (s:=x.Call) (by have:=hs.call x hm;omega)
   have hr:=qba_eq (branch:=x.Branch) (item:=x.ID) hs.moves
   unfold itemGood
   rcases i with _|j
   ·simp -zeta only[qx_L4,dlt hi,getI_nat,hx,k_or,k_and,dpos0,cond_false,cond_true,prevB,wr_succ (show 0<9223372036854775807 by omega),hv,hr]
    dsimp only
    generalize (decide (x.ID<1)||decide (9999<x.ID)||false||decide (x.Record<1)||decide (9999<x.Record)||decide (x.Branch<1)||decide (4<x.Branch))=b1
    generalize (decide (x.Kind<1)||decide (9<x.Kind)||decide (x.Price<0)||decide (100000000<x.Price)||decide (200<(x.Call.length:Int))||!(vld x.Call))=b2
    generalize (!((replayS x.Branch c.Moves x.ID).2.2==0)||!(eqT_Custody (replayS x.Branch c.Moves x.ID).1 x.Custody))=b3
    cases b1<;>cases b2<;>cases b3<;>rfl
   ·have hj:c.Items[j]?=some c.Items[j]:=List.getElem?_eq_getElem (by omega)
    have:=hs.items
    simp -zeta only[qx_L4,dlt hi,getI_nat,hx,k_or,k_and,dpos,wr_pred (show j<1000000000 by omega),hj,cond_false,cond_true,Bool.true_and,prevB,wr_succ (show j+1<9223372036854775807 by omega),hv,hr]
    dsimp only
    generalize (decide (x.ID<1)||decide (9999<x.ID)||decide (x.ID≤c.Items[j].ID)||decide (x.Record<1)||decide (9999<x.Record)||decide (x.Branch<1)||decide (4<x.Branch))=b1
    generalize (decide (x.Kind<1)||decide (9<x.Kind)||decide (x.Price<0)||decide (100000000<x.Price)||decide (200<(x.Call.length:Int))||!(vld x.Call))=b2
    generalize (!((replayS x.Branch c.Moves x.ID).2.2==0)||!(eqT_Custody (replayS x.Branch c.Moves x.ID).1 x.Custody))=b3
    cases b1<;>cases b2<;>cases b3<;>rfl)
 exact h
theorem qx_L15_run {c:Circ} (hs:Short c):whileO qx_L15 (0,c,())=some (bif c.Moves.all (fun m=>(c.Items.find? (fun x=>x.ID==m.Item)).isSome) then .inl () else .inr (false,())):=by
 have h:=whileO_all (step:=qx_L15) (fun i=>((i:Int),c,())) c.Moves (fun _ m=>(c.Items.find? (fun x=>x.ID==m.Item)).isSome) (.inr (false,())) (.inl ()) hs.moves
  (by simp only[qx_L15,dge,cond_false])
  (fun i x hx=>by
   have hi:=(List.getElem?_eq_some_iff.1 hx).1
   have:=hs.moves
   simp only[qx_L15,dlt hi,getI_nat,hx,cond_true,wr_succ (show i<9223372036854775807 by omega)]
   rcases qag_cases (item:=x.Item) hs.items with ⟨h1,h2⟩|⟨k,y,h1,h2,h3,h4⟩
   ·simp only[h1,h2,dneg1,cond_true,Option.isSome_none,cond_false]
   ·simp only[h1,h4,dnat0,cond_false,Option.isSome_some,cond_true])
 rw[show whileO qx_L15 (0,c,())=_ from h,allAt_all]
theorem qx_eq {c:Circ} (hs:Short c):qx c=some (itemsGood c):=by
 unfold qx itemsGood
 simp -zeta only[k_or]
 dsimp only
 rw[qx_L4_run hs]
 cases (decide (64<(c.Items.length:Int))||decide (2000<(c.Moves.length:Int))) with
 |true=>rfl
 |false=>
  cases allAt (itemGood c) 0 c.Items with
  |false=>rfl
  |true=>
   simp only[cond_false,cond_true,qx_L15_run hs]
   cases c.Moves.all (fun m=>(c.Items.find? (fun x=>x.ID==m.Item)).isSome)<;>rfl
def loanGood (c:Circ) (n:Loan):Bool:=match c.Items.find? (fun x=>x.ID==n.Item) with
 |some x=>!(!(getP c.Patrons n.Patron).2||!(qdq_s x.Custody)||!(x.Custody.Who==n.Patron))
 |none=>false
def loansGood (c:Circ):Bool:=c.Loans.all (loanGood c)&&c.Items.all (fun x=>(findL c.Loans x.ID).2==qdq_s x.Custody)
theorem qw_eq {c:Circ} (hs:Short c):qw c=some (loansGood c):=by
 have h1:=whileO_all (step:=qw_L2) (fun i=>((i:Int),c,())) c.Loans (fun _=>loanGood c) (.inr (false,())) (.inl (c,())) hs.loans
  (by simp only[qw_L2,dge,cond_false])
  (fun i x hx=>by
   have hi:=(List.getElem?_eq_some_iff.1 hx).1
   have:=hs.loans
   unfold loanGood
   rcases qag_cases (item:=x.Item) hs.items with ⟨h1,h2⟩|⟨k,y,h1,h2,h3,h4⟩
   ·simp -zeta only[qw_L2,dlt hi,getI_nat,hx,cond_true,k_or,qcr_eq hs.patrons,h1,h2,dneg1,Bool.true_or]
    rfl
   ·simp -zeta only[qw_L2,dlt hi,getI_nat,hx,cond_true,k_or,qcr_eq hs.patrons,h1,h2,h4,dnat0,Bool.false_or,qdq_eq,wr_succ (show i<9223372036854775807 by omega)]
    dsimp only
    cases (!(getP c.Patrons x.Patron).2||!(qdq_s y.Custody)||!(y.Custody.Who==x.Patron))<;>rfl)
 have h2:=whileO_all (step:=qw_L10) (fun i=>((i:Int),c,())) c.Items (fun _ x=>(findL c.Loans x.ID).2==qdq_s x.Custody) (.inr (false,())) (.inl ()) hs.items
  (by simp only[qw_L10,dge,cond_false])
  (fun i x hx=>by
   have hi:=(List.getElem?_eq_some_iff.1 hx).1
   have:=hs.items
   simp only[qw_L10,dlt hi,getI_nat,hx,cond_true,qey_eq hs.loans,qdq_eq,wr_succ (show i<9223372036854775807 by omega)]
   cases (findL c.Loans x.ID).2==qdq_s x.Custody<;>rfl)
 unfold qw loansGood
 rw[show whileO qw_L2 (0,c,())=_ from h1,allAt_all]
 cases c.Loans.all (loanGood c) with
 |false=>rfl
 |true=>
  simp only[cond_true]
  rw[show whileO qw_L10 (0,c,())=_ from h2,allAt_all]
  cases c.Items.all (fun x=>(findL c.Loans x.ID).2==qdq_s x.Custody)<;>rfl
def holdGood (c:Circ) (h:Hold):Bool:=
 !(!(getP c.Patrons h.Patron).2||decide (c.NextHold≤h.ID))&&(h.State==1||(match c.Items.find? (fun x=>x.ID==h.Got) with
  |some x=>!(!(x.Record==h.Record))&&!(h.State==3&&(!(x.Custody.State==5)||!(x.Custody.Branch==h.Pickup)||!(x.Custody.Who==h.Patron)))&&
   !(h.State==2&&(!(x.Custody.State==6)||!(x.Custody.To==h.Pickup)||!(x.Custody.Who==h.Patron)))
  |none=>false))
def readyGood (c:Circ) (x:Item):Bool:=!(x.Custody.State==5)||!(!(caughtS c x.ID).2||!((caughtS c x.ID).1.State==3))
def holdsGood (c:Circ):Bool:=c.Holds.all (holdGood c)&&c.Items.all (readyGood c)
theorem qy_eq {c:Circ} (hs:Short c):qy c=some (holdsGood c):=by
 have h1:=whileO_all (step:=qy_L2) (fun i=>((i:Int),c,())) c.Holds (fun _=>holdGood c) (.inr (false,())) (.inl (c,())) hs.holds
  (by simp only[qy_L2,dge,cond_false])
  (fun i x hx=>by
   have hi:=(List.getElem?_eq_some_iff.1 hx).1
   have:=hs.holds
   unfold holdGood
   rcases qag_cases (item:=x.Got) hs.items with ⟨h1,h2⟩|⟨k,y,h1,h2,h3,h4⟩
   ·simp -zeta only[qy_L2,dlt hi,getI_nat,hx,cond_true,k_or,qcr_eq hs.patrons,h1,h2,dneg1,wr_succ (show i<9223372036854775807 by omega)]
    dsimp only
    cases (!(getP c.Patrons x.Patron).2||decide (c.NextHold≤x.ID)) with
    |true=>rfl
    |false=>cases x.State==1<;>rfl
   ·simp -zeta only[qy_L2,dlt hi,getI_nat,hx,cond_true,k_or,k_and,qcr_eq hs.patrons,h1,h2,h4,dnat0,cond_false,wr_succ (show i<9223372036854775807 by omega)]
    dsimp only
    generalize (!(getP c.Patrons x.Patron).2||decide (c.NextHold≤x.ID))=b1
    generalize (x.State==1)=b2
    generalize (!(y.Record==x.Record))=b3
    generalize (!(y.Custody.State==5)||!(y.Custody.Branch==x.Pickup)||!(y.Custody.Who==x.Patron))=b4
    generalize (!(y.Custody.State==6)||!(y.Custody.To==x.Pickup)||!(y.Custody.Who==x.Patron))=b5
    generalize (x.State==3)=b6
    generalize (x.State==2)=b7
    cases b1<;>cases b2<;>cases b3<;>cases b4<;>cases b5<;>cases b6<;>cases b7<;>rfl)
 have h2:=whileO_all (step:=qy_L18) (fun i=>((i:Int),c,())) c.Items (fun _=>readyGood c) (.inr (false,())) (.inl ()) hs.items
  (by simp only[qy_L18,dge,cond_false])
  (fun i x hx=>by
   have hi:=(List.getElem?_eq_some_iff.1 hx).1
   have:=hs.items
   unfold readyGood
   simp -zeta only[qy_L18,dlt hi,getI_nat,hx,cond_true,k_or,qa9_eq hs.holds,wr_succ (show i<9223372036854775807 by omega)]
   dsimp only
   cases x.Custody.State==5 with
   |false=>rfl
   |true=>
    generalize (!(caughtS c x.ID).2||!((caughtS c x.ID).1.State==3))=b
    cases b<;>rfl)
 unfold qy holdsGood
 rw[show whileO qy_L2 (0,c,())=_ from h1,allAt_all]
 cases c.Holds.all (holdGood c) with
 |false=>rfl
 |true=>
  simp only[cond_true]
  rw[show whileO qy_L18 (0,c,())=_ from h2,allAt_all]
  cases c.Items.all (readyGood c)<;>rfl
end Go.Proofs.YtdahfgialanmpaaGreatDoor
namespace Go.Proofs.YtdahfgialanmpaaGreatDoor
open Ev
open Go (IntKind)
def calsGood (c:Circ):Bool:=calErr c.Cals.x0==0&&(calErr c.Cals.x1==0&&(calErr c.Cals.x2==0&&calErr c.Cals.x3==0))
theorem qs_L6_run {c:Circ} (hs:Short c):whileO qs_L6 (0,c,())=some (bif calsGood c then .inl (c,()) else .inr (false,())):=by
 have s0:qs_L6 (0,c,())=bif calErr c.Cals.x0==0 then some (.inl (1,c,())) else some (.inr (.inr (false,()))):=by
  show (match qu c.Cals.x0 with|some r=>(bif !(r==0) then (some (.inr (.inr (false,()))):Option ((Int×Circ×Unit)⊕((Circ×Unit)⊕(Bool×Unit)))) else some (.inl (1,c,())))|none=>none)=_
  rw[qu_eq hs.cal0];dsimp only;cases calErr c.Cals.x0==0<;>rfl
 have s1:qs_L6 (1,c,())=bif calErr c.Cals.x1==0 then some (.inl (2,c,())) else some (.inr (.inr (false,()))):=by
  show (match qu c.Cals.x1 with|some r=>(bif !(r==0) then (some (.inr (.inr (false,()))):Option ((Int×Circ×Unit)⊕((Circ×Unit)⊕(Bool×Unit)))) else some (.inl (2,c,())))|none=>none)=_
  rw[qu_eq hs.cal1];dsimp only;cases calErr c.Cals.x1==0<;>rfl
 have s2:qs_L6 (2,c,())=bif calErr c.Cals.x2==0 then some (.inl (3,c,())) else some (.inr (.inr (false,()))):=by
  show (match qu c.Cals.x2 with|some r=>(bif !(r==0) then (some (.inr (.inr (false,()))):Option ((Int×Circ×Unit)⊕((Circ×Unit)⊕(Bool×Unit)))) else some (.inl (3,c,())))|none=>none)=_
  rw[qu_eq hs.cal2];dsimp only;cases calErr c.Cals.x2==0<;>rfl
 have s3:qs_L6 (3,c,())=bif calErr c.Cals.x3==0 then some (.inl (4,c,())) else some (.inr (.inr (false,()))):=by
  show (match qu c.Cals.x3 with|some r=>(bif !(r==0) then (some (.inr (.inr (false,()))):Option ((Int×Circ×Unit)⊕((Circ×Unit)⊕(Bool×Unit)))) else some (.inl (4,c,())))|none=>none)=_
  rw[qu_eq hs.cal3];dsimp only;cases calErr c.Cals.x3==0<;>rfl
 have s4:qs_L6 (4,c,())=some (.inr (.inl (c,()))):=rfl
 refine whileO_of 5 (by rw[FUEL_eq];omega) ?_
 unfold calsGood
 simp only[iterN,s0,s1,s2,s3,s4]
 cases calErr c.Cals.x0==0 with
 |false=>rfl
 |true=>
  simp only[cond_true,iterN,s1]
  cases calErr c.Cals.x1==0 with
  |false=>rfl
  |true=>
   simp only[cond_true,iterN,s2]
   cases calErr c.Cals.x2==0 with
   |false=>rfl
   |true=>
    simp only[cond_true,iterN,s3]
    cases calErr c.Cals.x3==0 with
    |false=>rfl
    |true=>simp only[cond_true,iterN,s4];rfl
def chargeGood (c:Circ) (x:Charge):Bool:=!(!(getP c.Patrons x.Patron).2||decide (c.NextCharge≤x.ID))
theorem qs_L11_run {c:Circ} (hs:Short c):whileO qs_L11 (0,c,())=some (bif c.Charges.all (chargeGood c) then .inl (c,()) else .inr (false,())):=by
 have h:=whileO_all (step:=qs_L11) (fun i=>((i:Int),c,())) c.Charges (fun _=>chargeGood c) (.inr (false,())) (.inl (c,())) hs.charges
  (by simp only[qs_L11,dge,cond_false])
  (fun i x hx=>by
   have hi:=(List.getElem?_eq_some_iff.1 hx).1
   have:=hs.charges
   unfold chargeGood
   simp -zeta only[qs_L11,dlt hi,getI_nat,hx,cond_true,k_or,qcr_eq hs.patrons,wr_succ (show i<9223372036854775807 by omega)]
   dsimp only
   cases (!(getP c.Patrons x.Patron).2||decide (c.NextCharge≤x.ID))<;>rfl)
 rw[show whileO qs_L11 (0,c,())=_ from h,allAt_all]
def numsGood (c:Circ):Bool:=!(decide (c.Today<0)||decide (109572<c.Today)||decide (c.NextHold<1)||decide (100000<c.NextHold)||decide (c.NextCharge<1)||decide (100000<c.NextCharge))
def listsGood (c:Circ):Bool:=!(!(patronsErr c.Patrons==0)||!(loansErr c.Loans==0)||!(holdsErr c.Holds==0)||!(chargesErr c.Charges==0)||!(rulesErr c.Rules==0))
def rightB (c:Circ):Bool:=numsGood c&&(listsGood c&&(calsGood c&&(c.Charges.all (chargeGood c)&&(itemsGood c&&(loansGood c&&holdsGood c)))))
theorem qs_eq {c:Circ} (hs:Short c):qs c=some (rightB c):=by
 unfold qs rightB numsGood listsGood
 simp -zeta only[k_or,k_and,qao_eq hs.patrons hs.name,qbb_eq hs.loans,qg_eq hs.holds,qbc_eq hs.charges,qh_eq hs.rules]
 dsimp only
 rw[qs_L6_run hs]
 generalize (decide (c.Today<0)||decide (109572<c.Today)||decide (c.NextHold<1)||decide (100000<c.NextHold)||decide (c.NextCharge<1)||decide (100000<c.NextCharge))=b1
 generalize (!(patronsErr c.Patrons==0)||!(loansErr c.Loans==0)||!(holdsErr c.Holds==0)||!(chargesErr c.Charges==0)||!(rulesErr c.Rules==0))=b2
 cases b1 with
 |true=>rfl
 |false=>
  cases b2 with
  |true=>rfl
  |false=>
   cases calsGood c with
   |false=>rfl
   |true=>
    simp only[cond_false,cond_true,qs_L11_run hs]
    cases c.Charges.all (chargeGood c) with
    |false=>rfl
    |true=>
     simp -zeta only[cond_false,cond_true,qx_eq hs,qw_eq hs,qy_eq hs,k_and]
     try dsimp only
     cases itemsGood c<;>cases loansGood c<;>cases holdsGood c<;>rfl
def smallB (c:Circ):Bool:=
 !(decide (10<(c.Items.length:Int))||decide (8<(c.Patrons.length:Int))||decide (12<(c.Holds.length:Int))||decide (12<(c.Loans.length:Int))||decide (30<(c.Charges.length:Int))||decide (10<(c.Rules.length:Int))||decide (200<(c.Moves.length:Int)))&&
 (c.Items.all (fun x=>!(decide (300<(x.Call.length:Int))))&&(c.Patrons.all (fun x=>!(decide (300<(x.Name.length:Int))))&&
  (!(decide (20<(c.Cals.x0.Closed.length:Int)))&&(!(decide (20<(c.Cals.x1.Closed.length:Int)))&&(!(decide (20<(c.Cals.x2.Closed.length:Int)))&&!(decide (20<(c.Cals.x3.Closed.length:Int))))))))
theorem qk_eq (c:Circ):qk c=some (smallB c):=by
 unfold qk smallB
 simp -zeta only[k_or,k_and]
 dsimp only
 cases hb:(decide (10<(c.Items.length:Int))||decide (8<(c.Patrons.length:Int))||decide (12<(c.Holds.length:Int))||decide (12<(c.Loans.length:Int))||decide (30<(c.Charges.length:Int))||decide (10<(c.Rules.length:Int))||decide (200<(c.Moves.length:Int))) with
 |true=>rfl
 |false=>
  simp only[Bool.or_eq_false_iff,decide_eq_false_iff_not]at hb
  have h1:=whileO_all (step:=qk_L4) (fun i=>((i:Int),c,())) c.Items (fun _ x=>!(decide (300<(x.Call.length:Int)))) (.inr (false,())) (.inl (c,())) (by omega)
   (by simp only[qk_L4,dge,cond_false])
   (fun i x hx=>by
    have hi:=(List.getElem?_eq_some_iff.1 hx).1
    simp only[qk_L4,dlt hi,getI_nat,hx,cond_true,wr_succ (show i<9223372036854775807 by omega)]
    cases decide (300<(x.Call.length:Int))<;>rfl)
  have h2:=whileO_all (step:=qk_L9) (fun i=>((i:Int),c,())) c.Patrons (fun _ x=>!(decide (300<(x.Name.length:Int)))) (.inr (false,())) (.inl (c,())) (by omega)
   (by simp only[qk_L9,dge,cond_false])
   (fun i x hx=>by
    have hi:=(List.getElem?_eq_some_iff.1 hx).1
    simp only[qk_L9,dlt hi,getI_nat,hx,cond_true,wr_succ (show i<9223372036854775807 by omega)]
    cases decide (300<(x.Name.length:Int))<;>rfl)
  have h3:whileO qk_L14 (0,c,())=some (bif (!(decide (20<(c.Cals.x0.Closed.length:Int)))&&(!(decide (20<(c.Cals.x1.Closed.length:Int)))&&(!(decide (20<(c.Cals.x2.Closed.length:Int)))&&!(decide (20<(c.Cals.x3.Closed.length:Int)))))) then .inl () else .inr (false,())):=by
   have s0:qk_L14 (0,c,())=bif decide (20<(c.Cals.x0.Closed.length:Int)) then some (.inr (.inr (false,()))) else some (.inl (1,c,())):=rfl
   have s1:qk_L14 (1,c,())=bif decide (20<(c.Cals.x1.Closed.length:Int)) then some (.inr (.inr (false,()))) else some (.inl (2,c,())):=rfl
   have s2:qk_L14 (2,c,())=bif decide (20<(c.Cals.x2.Closed.length:Int)) then some (.inr (.inr (false,()))) else some (.inl (3,c,())):=rfl
   have s3:qk_L14 (3,c,())=bif decide (20<(c.Cals.x3.Closed.length:Int)) then some (.inr (.inr (false,()))) else some (.inl (4,c,())):=rfl
   have s4:qk_L14 (4,c,())=some (.inr (.inl ())):=rfl
   refine whileO_of 5 (by rw[FUEL_eq];omega) ?_
   simp only[iterN,s0]
   cases decide (20<(c.Cals.x0.Closed.length:Int)) with
   |true=>rfl
   |false=>
    simp only[cond_false,iterN,s1]
    cases decide (20<(c.Cals.x1.Closed.length:Int)) with
    |true=>rfl
    |false=>
     simp only[cond_false,iterN,s2]
     cases decide (20<(c.Cals.x2.Closed.length:Int)) with
     |true=>rfl
     |false=>
      simp only[cond_false,iterN,s3]
      cases decide (20<(c.Cals.x3.Closed.length:Int)) with
      |true=>rfl
      |false=>simp only[cond_false,iterN,s4];rfl
  simp only[cond_false,Bool.not_false,Bool.true_and]
  rw[show whileO qk_L4 (0,c,())=_ from h1,allAt_all]
  cases c.Items.all (fun x=>!(decide (300<(x.Call.length:Int)))) with
  |false=>rfl
  |true=>
   simp only[cond_true,Bool.true_and]
   rw[show whileO qk_L9 (0,c,())=_ from h2,allAt_all]
   cases c.Patrons.all (fun x=>!(decide (300<(x.Name.length:Int)))) with
   |false=>rfl
   |true=>
    simp only[cond_true,Bool.true_and,h3]
    cases (!(decide (20<(c.Cals.x0.Closed.length:Int)))&&(!(decide (20<(c.Cals.x1.Closed.length:Int)))&&(!(decide (20<(c.Cals.x2.Closed.length:Int)))&&!(decide (20<(c.Cals.x3.Closed.length:Int))))))<;>rfl
structure SmallP (c:Circ):Prop where
 items:c.Items.length≤10
 patrons:c.Patrons.length≤8
 holds:c.Holds.length≤12
 loans:c.Loans.length≤12
 charges:c.Charges.length≤30
 rules:c.Rules.length≤10
 moves:c.Moves.length≤200
 call:∀x∈c.Items,x.Call.length≤300
 name:∀x∈c.Patrons,x.Name.length≤300
 cal0:c.Cals.x0.Closed.length≤20
 cal1:c.Cals.x1.Closed.length≤20
 cal2:c.Cals.x2.Closed.length≤20
 cal3:c.Cals.x3.Closed.length≤20
theorem smallP {c:Circ} (h:smallB c=true):SmallP c:=by
 unfold smallB at h
 simp only[Bool.and_eq_true,Bool.not_eq_true',Bool.or_eq_false_iff,decide_eq_false_iff_not,List.all_eq_true]at h
 obtain ⟨⟨⟨⟨⟨⟨⟨h1,h2⟩,h3⟩,h4⟩,h5⟩,h6⟩,h7⟩,h8,h9,h10,h11,h12,h13⟩:=h
 exact ⟨by omega,by omega,by omega,by omega,by omega,by omega,by omega,fun x hx=>by have:=h8 x hx;omega,fun x hx=>by have:=h9 x hx;omega,by omega,by omega,by omega,by omega⟩
theorem SmallP.short {c:Circ} (h:SmallP c):Short c:=by
 obtain ⟨h1,h2,h3,h4,h5,h6,h7,h8,h9,h10,h11,h12,h13⟩:=h
 exact ⟨by omega,by omega,by omega,by omega,by omega,by omega,by omega,fun x hx=>by have:=h8 x hx;omega,fun x hx=>by have:=h9 x hx;omega,by omega,by omega,by omega,by omega⟩
theorem qev_eq (c:Circ):qev c=some (smallB c&&rightB c):=by
 unfold qev
 rw[qk_eq]
 cases h:smallB c with
 |false=>rfl
 |true=>
  simp only[cond_true,qs_eq (smallP h).short]
  rfl
end Go.Proofs.YtdahfgialanmpaaGreatDoor
namespace Go.Proofs.YtdahfgialanmpaaGreatDoor
open Ev
open Go (IntKind)
theorem alive_eq:qdu=some true:=by kernel_rfl
theorem ql_eq {γ0:Type} {p:γ0→Patron→Option Bool} {q:Patron→Bool} {s:List Patron} {g:γ0} (hs:s.length<1000000000) (hp:∀x∈s,p g x=some (q x)):ql p s g=some (fIdx q s):=by
 have h:=whileO_find (step:=ql_L2 p) (fun i=>(s,g,(s.length:Int),(i:Int),())) s q (fun i _=>(.inr ((i:Int),()):Unit⊕(Int×Unit))) (.inl ()) hs
  (by simp only[ql_L2,dge,cond_false])
  (fun i x hx=>by
   have hi:=(List.getElem?_eq_some_iff.1 hx).1
   simp only[ql_L2,dlt hi,cond_true,getI_nat,hx,hp x (List.mem_of_getElem? hx),wr_succ (show i<9223372036854775807 by omega)])
 unfold ql
 rw[show whileO (ql_L2 p) (s,g,(s.length:Int),0,())=_ from h,←findG_fIdx]
 have:=findG_map (p:=q) (g:=fun i _=>(.inr ((i:Int),()):Unit⊕(Int×Unit))) (d:=.inl ()) (fun z=>match (some z:Option (Unit⊕(Int×Unit))) with|some (.inl _)=>some (-1)|some (.inr (v,_))=>some v|none=>none) (l:=s) (i:=0)
 exact this.trans ((findG_map (p:=q) (g:=fun i _=>(i:Int)) (d:=-1) (fun z=>some z) (l:=s) (i:=0)).symm)
theorem qb4_eq {l:List Patron} {id:Int} (hl:l.length<1000000000):qb4 l id=some (getP l id):=by
 unfold qb4 qah getP
 rw[ql_eq (q:=fun x=>x.ID==id) hl (fun x _=>rfl)]
 rcases fIdx_cases (fun x:Patron=>x.ID==id) l with ⟨h1,h2⟩|⟨i,x,h1,h2,h3,h4⟩
 ·simp only[h1,h2,dneg1,cond_true]
 ·simp only[h1,h4,dnat0,cond_false,getI_nat,h2]
end Go.Proofs.YtdahfgialanmpaaGreatDoor
namespace Go.Proofs.YtdahfgialanmpaaGreatDoor
open Ev
open Go (IntKind)
theorem not_rng (lo hi n:Int):(!(rng lo hi n))=(decide (n<lo)||decide (hi<n)):=by
 unfold rng
 by_cases h1:n<lo
 ·have:¬lo≤n:=by omega
  simp[h1,this]
 ·have:lo≤n:=by omega
  by_cases h2:hi<n
  ·have:¬n≤hi:=by omega
   simp[*]
  ·have:n≤hi:=by omega
   simp[*]
theorem fIdx_lt {X:Type} (p:X→Bool) (l:List X):decide (fIdx p l<0)=!(l.any p):=by
 unfold fIdx
 induction l with
 |nil=>rfl
 |cons y l ih=>
  simp only[List.findIdx?_cons,List.any_cons]
  cases hp:p y with
  |true=>rfl
  |false=>
   simp only[Bool.false_eq_true,if_false,Bool.false_or]
   rw[←ih]
   cases l.findIdx? p with
   |none=>rfl
   |some k=>simp only[Option.map_some];rw[decide_eq_decide];omega
theorem fIdx_le {X:Type} (p:X→Bool) (l:List X):decide (0≤fIdx p l)=l.any p:=by
 have h:=fIdx_lt p l
 cases hb:l.any p with
 |true=>rw[hb]at h;simp at h ⊢;omega
 |false=>rw[hb]at h;simp at h ⊢;omega
theorem qa0_any {γ:Type} {p:γ→Int→Option Bool} {g:γ} (q:Int→Bool) {l:List Int} (hl:l.length<1000000000) (hp:∀x∈l,p g x=some (q x)):qa0 p l g=some (fIdx q l):=by
 have h:=whileO_find (step:=qa0_L2 p) (fun i=>(l,g,(l.length:Int),(i:Int),())) l q (fun i _=>(.inr ((i:Int),()):(Unit)⊕(Int×Unit))) (.inl ()) hl
  (by simp only[qa0_L2,dge,cond_false])
  (fun i x hx=>by
   have hi:=(List.getElem?_eq_some_iff.1 hx).1
   simp only[qa0_L2,dlt hi,getI_nat,hx,cond_true,hp x (List.mem_of_getElem? hx),wr_succ (show i<9223372036854775807 by omega)])
 unfold qa0
 rw[show whileO (qa0_L2 p) (l,g,(l.length:Int),0,())=_ from h]
 have e:=findG_map (p:=q) (g:=fun i _=>(.inr ((i:Int),()):(Unit)⊕(Int×Unit))) (d:=.inl ()) (fun r:(Unit)⊕(Int×Unit)=>match r with | .inl (_)=>(-1:Int) | .inr (v,_)=>v) (l:=l) (i:=0)
 dsimp only at e
 rw[←findG_fIdx,←e]
 generalize findG q (fun i _=>(.inr ((i:Int),()):(Unit)⊕(Int×Unit))) (.inl ()) 0 l=r
 rcases r with _|⟨v,_⟩<;>rfl
theorem qdy_any {γ:Type} {p:γ→Int→Option Bool} {g:γ} (q:Int→Bool) {l:List Int} (hl:l.length<1000000000) (hp:∀x∈l,p g x=some (q x)):qdy p l g=some (l.any q):=by
 unfold qdy
 rw[qa0_any q hl hp]
 dsimp only
 rw[fIdx_le]
theorem qaz_any {γ:Type} {p:γ→Rule→Option Bool} {g:γ} (q:Rule→Bool) {l:List Rule} (hl:l.length<1000000000) (hp:∀x∈l,p g x=some (q x)):qaz p l g=some (fIdx q l):=by
 have h:=whileO_find (step:=qaz_L2 p) (fun i=>(l,g,(l.length:Int),(i:Int),())) l q (fun i _=>(.inr ((i:Int),()):(Unit)⊕(Int×Unit))) (.inl ()) hl
  (by simp only[qaz_L2,dge,cond_false])
  (fun i x hx=>by
   have hi:=(List.getElem?_eq_some_iff.1 hx).1
   simp only[qaz_L2,dlt hi,getI_nat,hx,cond_true,hp x (List.mem_of_getElem? hx),wr_succ (show i<9223372036854775807 by omega)])
 unfold qaz
 rw[show whileO (qaz_L2 p) (l,g,(l.length:Int),0,())=_ from h]
 have e:=findG_map (p:=q) (g:=fun i _=>(.inr ((i:Int),()):(Unit)⊕(Int×Unit))) (d:=.inl ()) (fun r:(Unit)⊕(Int×Unit)=>match r with | .inl (_)=>(-1:Int) | .inr (v,_)=>v) (l:=l) (i:=0)
 dsimp only at e
 rw[←findG_fIdx,←e]
 generalize findG q (fun i _=>(.inr ((i:Int),()):(Unit)⊕(Int×Unit))) (.inl ()) 0 l=r
 rcases r with _|⟨v,_⟩<;>rfl
theorem qdx_any {γ:Type} {p:γ→Rule→Option Bool} {g:γ} (q:Rule→Bool) {l:List Rule} (hl:l.length<1000000000) (hp:∀x∈l,p g x=some (q x)):qdx p l g=some (l.any q):=by
 unfold qdx
 rw[qaz_any q hl hp]
 dsimp only
 rw[fIdx_le]
theorem ql_any {γ:Type} {p:γ→Patron→Option Bool} {g:γ} (q:Patron→Bool) {l:List Patron} (hl:l.length<1000000000) (hp:∀x∈l,p g x=some (q x)):ql p l g=some (fIdx q l):=by
 have h:=whileO_find (step:=ql_L2 p) (fun i=>(l,g,(l.length:Int),(i:Int),())) l q (fun i _=>(.inr ((i:Int),()):(Unit)⊕(Int×Unit))) (.inl ()) hl
  (by simp only[ql_L2,dge,cond_false])
  (fun i x hx=>by
   have hi:=(List.getElem?_eq_some_iff.1 hx).1
   simp only[ql_L2,dlt hi,getI_nat,hx,cond_true,hp x (List.mem_of_getElem? hx),wr_succ (show i<9223372036854775807 by omega)])
 unfold ql
 rw[show whileO (ql_L2 p) (l,g,(l.length:Int),0,())=_ from h]
 have e:=findG_map (p:=q) (g:=fun i _=>(.inr ((i:Int),()):(Unit)⊕(Int×Unit))) (d:=.inl ()) (fun r:(Unit)⊕(Int×Unit)=>match r with | .inl (_)=>(-1:Int) | .inr (v,_)=>v) (l:=l) (i:=0)
 dsimp only at e
 rw[←findG_fIdx,←e]
 generalize findG q (fun i _=>(.inr ((i:Int),()):(Unit)⊕(Int×Unit))) (.inl ()) 0 l=r
 rcases r with _|⟨v,_⟩<;>rfl
theorem qm_any {γ:Type} {p:γ→Loan→Option Bool} {g:γ} (q:Loan→Bool) {l:List Loan} (hl:l.length<1000000000) (hp:∀x∈l,p g x=some (q x)):qm p l g=some (fIdx q l):=by
 have h:=whileO_find (step:=qm_L2 p) (fun i=>(l,g,(l.length:Int),(i:Int),())) l q (fun i _=>(.inr ((i:Int),()):(Unit)⊕(Int×Unit))) (.inl ()) hl
  (by simp only[qm_L2,dge,cond_false])
  (fun i x hx=>by
   have hi:=(List.getElem?_eq_some_iff.1 hx).1
   simp only[qm_L2,dlt hi,getI_nat,hx,cond_true,hp x (List.mem_of_getElem? hx),wr_succ (show i<9223372036854775807 by omega)])
 unfold qm
 rw[show whileO (qm_L2 p) (l,g,(l.length:Int),0,())=_ from h]
 have e:=findG_map (p:=q) (g:=fun i _=>(.inr ((i:Int),()):(Unit)⊕(Int×Unit))) (d:=.inl ()) (fun r:(Unit)⊕(Int×Unit)=>match r with | .inl (_)=>(-1:Int) | .inr (v,_)=>v) (l:=l) (i:=0)
 dsimp only at e
 rw[←findG_fIdx,←e]
 generalize findG q (fun i _=>(.inr ((i:Int),()):(Unit)⊕(Int×Unit))) (.inl ()) 0 l=r
 rcases r with _|⟨v,_⟩<;>rfl
theorem qd_any {γ:Type} {p:γ→Item→Option Bool} {g:γ} (q:Item→Bool) {l:List Item} (hl:l.length<1000000000) (hp:∀x∈l,p g x=some (q x)):qd p l g=some (fIdx q l):=by
 have h:=whileO_find (step:=qd_L2 p) (fun i=>(l,g,(l.length:Int),(i:Int),())) l q (fun i _=>(.inr ((i:Int),()):(Unit)⊕(Int×Unit))) (.inl ()) hl
  (by simp only[qd_L2,dge,cond_false])
  (fun i x hx=>by
   have hi:=(List.getElem?_eq_some_iff.1 hx).1
   simp only[qd_L2,dlt hi,getI_nat,hx,cond_true,hp x (List.mem_of_getElem? hx),wr_succ (show i<9223372036854775807 by omega)])
 unfold qd
 rw[show whileO (qd_L2 p) (l,g,(l.length:Int),0,())=_ from h]
 have e:=findG_map (p:=q) (g:=fun i _=>(.inr ((i:Int),()):(Unit)⊕(Int×Unit))) (d:=.inl ()) (fun r:(Unit)⊕(Int×Unit)=>match r with | .inl (_)=>(-1:Int) | .inr (v,_)=>v) (l:=l) (i:=0)
 dsimp only at e
 rw[←findG_fIdx,←e]
 generalize findG q (fun i _=>(.inr ((i:Int),()):(Unit)⊕(Int×Unit))) (.inl ()) 0 l=r
 rcases r with _|⟨v,_⟩<;>rfl
theorem qa_any {γ:Type} {p:γ→Hold→Option Bool} {g:γ} (q:Hold→Bool) {l:List Hold} (hl:l.length<1000000000) (hp:∀x∈l,p g x=some (q x)):qa p l g=some (fIdx q l):=by
 have h:=whileO_find (step:=qa_L2 p) (fun i=>(l,g,(l.length:Int),(i:Int),())) l q (fun i _=>(.inr ((i:Int),()):(Unit)⊕(Int×Unit))) (.inl ()) hl
  (by simp only[qa_L2,dge,cond_false])
  (fun i x hx=>by
   have hi:=(List.getElem?_eq_some_iff.1 hx).1
   simp only[qa_L2,dlt hi,getI_nat,hx,cond_true,hp x (List.mem_of_getElem? hx),wr_succ (show i<9223372036854775807 by omega)])
 unfold qa
 rw[show whileO (qa_L2 p) (l,g,(l.length:Int),0,())=_ from h]
 have e:=findG_map (p:=q) (g:=fun i _=>(.inr ((i:Int),()):(Unit)⊕(Int×Unit))) (d:=.inl ()) (fun r:(Unit)⊕(Int×Unit)=>match r with | .inl (_)=>(-1:Int) | .inr (v,_)=>v) (l:=l) (i:=0)
 dsimp only at e
 rw[←findG_fIdx,←e]
 generalize findG q (fun i _=>(.inr ((i:Int),()):(Unit)⊕(Int×Unit))) (.inl ()) 0 l=r
 rcases r with _|⟨v,_⟩<;>rfl
theorem qb0_eq (n lo hi:Int):qb0 n lo hi=some (rng lo hi n):=by
 unfold qb0
 simp -zeta only[k_or,k_and]
 rfl
theorem qbz_eq (n lo hi:Int):qbz n lo hi=some (rng lo hi n):=by
 unfold qbz
 simp -zeta only[k_or,k_and]
 rfl
theorem qbw_eq (n lo hi:Int):qbw n lo hi=some (rng lo hi n):=by
 unfold qbw
 simp -zeta only[k_or,k_and]
 rfl
theorem qdw_eq (n:Int):qdw n=some (rng 1 9999 n):=by
 unfold qdw
 simp -zeta only[k_or,k_and]
 rfl
theorem qc3_eq (n:Int):qc3 n=some (rng 0 109572 n):=by
 unfold qc3
 simp -zeta only[k_or,k_and]
 rfl
theorem qc2_eq (n:Int):qc2 n=some (rng 0 109572 n):=by
 unfold qc2
 simp -zeta only[k_or,k_and]
 rfl
theorem qdt_eq (n:Int):qdt n=some (rng 1 9999 n):=by
 unfold qdt
 simp -zeta only[k_or,k_and]
 rfl
theorem qch_eq (n:Int):qch n=some (rng 0 109572 n):=by
 unfold qch
 simp -zeta only[k_or,k_and]
 rfl
theorem qdn_eq (n:Int):qdn n=some (rng 0 109572 n):=by
 unfold qdn
 rw[qbz_eq]
def chargeShape (x:Charge):Int:=
 bif decide (x.ID<1)||decide (99999<x.ID)||decide (x.Patron<1)||decide (9999<x.Patron)||decide (x.Item<1)||decide (9999<x.Item)||!(rng 0 109572 x.Day) then 2
 else bif decide (x.Kind<1)||decide (3<x.Kind) then 1
 else bif decide (x.Amount<1)||decide (100000000<x.Amount)||decide (x.Paid<0)||decide (x.Amount≤x.Paid) then 2 else 0
theorem qay_eq (x:Charge):qay x=some (chargeShape x):=by
 unfold qay chargeShape
 simp -zeta only[k_or,k_and,qc2_eq,qdt_eq,not_rng 1 9999,Bool.or_assoc]
 dsimp only
 simp only[k_some,Bool.or_assoc]
theorem errOut_shape {α β:Type} (a:α) (g:Int→β) (e:Int):(bif !(e==0) then some (.inr (g e)) else some (.inl a):Option (α⊕β))=errOut a g e:=by
 unfold errOut
 cases e==0<;>rfl
theorem chargeErr_shape (l:List Charge) (i:Nat) (x:Charge):chargeErr l i x=bif prevB l i (fun y=>decide (x.ID≤y.ID)) then 7 else chargeShape x:=rfl
theorem qat_L4_run {l:List Charge} (hl:l.length<1000000000):whileO qat_L4 (l,l,(l.length:Int),0,())=some (if errAt (chargeErr l) 0 l==0 then .inl () else .inr (errAt (chargeErr l) 0 l,())):=by
 have h:=whileO_err (step:=qat_L4) (fun i=>(l,l,(l.length:Int),(i:Int),())) l (chargeErr l) (.inl ()) (fun e=>.inr (e,())) hl
  (by simp only[qat_L4,dge,cond_false])
  (fun i x hx=>by
   have hi:=(List.getElem?_eq_some_iff.1 hx).1
   have hxm:=List.mem_of_getElem? hx
   rw[chargeErr_shape,errOut_cond,←errOut_shape _ _ (chargeShape x)]
   rcases i with _|j
   ·simp -zeta only[qat_L4,dlt hi,getI_nat,hx,k_or,k_and,dpos0,cond_false,cond_true,prevB,wr_succ (show 0<9223372036854775807 by omega),qay_eq]
    rfl
   ·have hj:l[j]?=some l[j]:=List.getElem?_eq_getElem (by omega)
    simp -zeta only[qat_L4,dlt hi,getI_nat,hx,k_or,k_and,dpos,wr_pred (show j<1000000000 by omega),hj,cond_false,cond_true,prevB,wr_succ (show j+1<9223372036854775807 by omega),qay_eq]
    rfl)
 exact h
theorem qat_eq {l:List Charge} (hl:l.length<1000000000):qat l=some (chargesErr l):=by
 unfold qat chargesErr
 rw[qat_L4_run hl]
 generalize errAt (chargeErr l) 0 l=e
 cases decide (128<(l.length:Int)) with
 |true=>rfl
 |false=>
  by_cases h:e=0
  ·subst h;rfl
  ·have h2:(e==0)=false:=by simpa using h
   simp only[h2,Bool.false_eq_true,if_false,cond_false]
theorem qas_L4_run {l:List Loan} (hl:l.length<1000000000):whileO qas_L4 (l,l,(l.length:Int),0,())=some (if errAt (loanErr l) 0 l==0 then .inl () else .inr (errAt (loanErr l) 0 l,())):=by
 have h:=whileO_err (step:=qas_L4) (fun i=>(l,l,(l.length:Int),(i:Int),())) l (loanErr l) (.inl ()) (fun e=>.inr (e,())) hl
  (by simp only[qas_L4,dge,cond_false])
  (fun i x hx=>by
   have hi:=(List.getElem?_eq_some_iff.1 hx).1
   have hxm:=List.mem_of_getElem? hx
   unfold loanErr
   simp only[errOut_cond]
   rcases i with _|j
   ·simp -zeta only[qas_L4,dlt hi,getI_nat,hx,k_or,k_and,dpos0,cond_false,cond_true,prevB,wr_succ (show 0<9223372036854775807 by omega),qdw_eq,qc3_eq,not_rng,Bool.or_assoc]
    simp only[Bool.or_assoc]
    rfl
   ·have hj:l[j]?=some l[j]:=List.getElem?_eq_getElem (by omega)
    simp -zeta only[qas_L4,dlt hi,getI_nat,hx,k_or,k_and,dpos,wr_pred (show j<1000000000 by omega),hj,cond_false,cond_true,prevB,wr_succ (show j+1<9223372036854775807 by omega),qdw_eq,qc3_eq,not_rng,Bool.or_assoc]
    simp only[Bool.or_assoc]
    rfl)
 exact h
theorem qas_eq {l:List Loan} (hl:l.length<1000000000):qas l=some (loansErr l):=by
 unfold qas loansErr
 rw[qas_L4_run hl]
 generalize errAt (loanErr l) 0 l=e
 cases decide (64<(l.length:Int)) with
 |true=>rfl
 |false=>
  by_cases h:e=0
  ·subst h;rfl
  ·have h2:(e==0)=false:=by simpa using h
   simp only[h2,Bool.false_eq_true,if_false,cond_false]
def patronShape (x:Patron):Int:=
 bif decide (x.Kind<1)||decide (9<x.Kind)||decide (x.Branch<1)||decide (4<x.Branch) then 1
 else bif decide (x.Until<0)||decide (109572<x.Until) then 2
 else bif x.Name==[]||!(vld x.Name)||!(cln x.Name==x.Name) then 3
 else bif decide (200<(x.Name.length:Int)) then 4 else 0
theorem qa7_eq {x:Patron} (h:x.Name.length<10000000):qa7 x=some (patronShape x):=by
 have hV:qe7 x.Name=some (vld x.Name):=by
  have:decide (x.Name.length≤LIM)=true:=by rw[decide_eq_true_eq];unfold LIM;omega
  unfold qe7;rw[this];rfl
 have hC:vld x.Name=true→qfe x.Name=some (cln x.Name):=fun hv=>by
  have:decide (x.Name.length≤LIM)=true:=by rw[decide_eq_true_eq];unfold LIM;omega
  unfold qfe;rw[this,hv];rfl
 unfold qa7 patronShape
 simp -zeta only[k_or,k_and,hV]
 cases hv:vld x.Name with
 |true=>
  rw[hC hv]
  simp -zeta only[k_or,k_and,Bool.not_true,Bool.or_false]
  dsimp only
  simp only[k_some]
 |false=>
  simp -zeta only[k_or,k_and,Bool.not_false,Bool.or_true,Bool.true_or,cond_true]
  dsimp only
  simp only[k_some,cond_true]
def lastID (l:List Patron):Nat→Int
 |0=>0
 |j+1=>match l[j]? with|some y=>y.ID|none=>0
theorem patronErr_shape (l:List Patron) (i:Nat) (x:Patron):patronErr l i x=bif decide (x.ID<1)||decide (9999<x.ID) then 2 else bif prevB l i (fun y=>decide (x.ID≤y.ID)) then 7 else patronShape x:=rfl
theorem patronErr_last (l:List Patron) (i:Nat) (x:Patron) (hi:i≤l.length):patronErr l i x=bif decide (x.ID<1)||decide (9999<x.ID) then 2 else bif decide (x.ID≤lastID l i) then 7 else patronShape x:=by
 rw[patronErr_shape]
 cases hb:(decide (x.ID<1)||decide (9999<x.ID)) with
 |true=>rfl
 |false=>
  rw[Bool.or_eq_false_iff,decide_eq_false_iff_not,decide_eq_false_iff_not]at hb
  cases i with
  |zero=>
   have:decide (x.ID≤lastID l 0)=false:=by rw[decide_eq_false_iff_not];show ¬x.ID≤0;omega
   rw[this];rfl
  |succ j=>
   have hj:l[j]?=some l[j]:=List.getElem?_eq_getElem (by omega)
   simp only[prevB,lastID,hj]
theorem qap_L5_run {l:List Patron} (hl:l.length<1000000000) (hn:∀x∈l,x.Name.length<10000000):whileO qap_L5 (0,l,(l.length:Int),0,())=some (if errAt (patronErr l) 0 l==0 then .inl () else .inr (errAt (patronErr l) 0 l,())):=by
 have h:=whileO_err (step:=qap_L5) (fun i=>(lastID l i,l,(l.length:Int),(i:Int),())) l (patronErr l) (.inl ()) (fun e=>.inr (e,())) hl
  (by simp only[qap_L5,dge,cond_false])
  (fun i x hx=>by
   have hi:=(List.getElem?_eq_some_iff.1 hx).1
   have hxm:=List.mem_of_getElem? hx
   rw[patronErr_last l i x (by omega),errOut_cond,errOut_cond,←errOut_shape _ _ (patronShape x)]
   simp -zeta only[qap_L5,dlt hi,getI_nat,hx,k_or,k_and,cond_false,cond_true,qa7_eq (hn x hxm),wr_succ (show i<9223372036854775807 by omega)]
   simp only[lastID,hx]
   rfl)
 exact h
theorem qap_eq {l:List Patron} (hl:l.length<1000000000) (hn:∀x∈l,x.Name.length<10000000):qap l=some (patronsErr l):=by
 unfold qap patronsErr
 rw[qap_L5_run hl hn]
 generalize errAt (patronErr l) 0 l=e
 cases decide (32<(l.length:Int)) with
 |true=>rfl
 |false=>
  by_cases h:e=0
  ·subst h;rfl
  ·have h2:(e==0)=false:=by simpa using h
   simp only[h2,Bool.false_eq_true,if_false,cond_false]
theorem rng0 (n:Int):(!(rng 0 9999 n))=(!(n==0)&&!(rng 1 9999 n)):=by
 rw[not_rng,not_rng]
 by_cases h:n=0
 ·subst h;rfl
 ·have h2:(n==0)=false:=by simpa using h
  rw[h2]
  have:decide (n<0)=decide (n<1):=by rw[decide_eq_decide];omega
  rw[this];rfl
theorem cond_twice {α:Type} (a b:Bool) (x y:α):(bif a then x else bif b then x else y)=bif a||b then x else y:=by cases a<;>rfl
theorem qem_eq (x:Hold):qem x=some (holdShape x):=by
 unfold qem holdShape
 simp -zeta only[k_or,k_and,qdn_eq,qbz_eq]
 dsimp only
 simp only[k_some,rng0,not_rng 1 99999,not_rng 1 4,not_rng 0 9,not_rng 1 3,cond_twice,Bool.or_assoc]
theorem holdErr_shape (l:List Hold) (i:Nat) (x:Hold):holdErr l i x=bif prevB l i (fun y=>decide (x.ID≤y.ID)) then 7 else holdShape x:=by
 unfold holdErr
 congr 1
 cases h:holdShape x==0 with
 |true=>simp at h;simp[h]
 |false=>simp
theorem qf_L4_run {l:List Hold} (hl:l.length<1000000000):whileO qf_L4 (l,l,(l.length:Int),0,())=some (if errAt (holdErr l) 0 l==0 then .inl (l,()) else .inr (errAt (holdErr l) 0 l,())):=by
 have h:=whileO_err (step:=qf_L4) (fun i=>(l,l,(l.length:Int),(i:Int),())) l (holdErr l) (.inl (l,())) (fun e=>.inr (e,())) hl
  (by simp only[qf_L4,dge,cond_false])
  (fun i x hx=>by
   have hi:=(List.getElem?_eq_some_iff.1 hx).1
   have hxm:=List.mem_of_getElem? hx
   rw[holdErr_shape,errOut_cond,←errOut_shape _ _ (holdShape x)]
   rcases i with _|j
   ·simp -zeta only[qf_L4,dlt hi,getI_nat,hx,k_or,k_and,dpos0,cond_false,cond_true,prevB,wr_succ (show 0<9223372036854775807 by omega),qem_eq]
    rfl
   ·have hj:l[j]?=some l[j]:=List.getElem?_eq_getElem (by omega)
    simp -zeta only[qf_L4,dlt hi,getI_nat,hx,k_or,k_and,dpos,wr_pred (show j<1000000000 by omega),hj,cond_false,cond_true,prevB,wr_succ (show j+1<9223372036854775807 by omega),qem_eq]
    rfl)
 exact h
theorem qc_L5_run {γ:Type} {p:γ→Hold→Hold→Option Bool} {g:γ} {q:Hold→Hold→Bool} (hp:∀a b,p g a b=some (q a b)) {l:List Hold} (hl:l.length<1000000000) {i:Nat} {x:Hold} (hx:l[i]?=some x) {v v2:Int} :
 whileO (qc_L5 p) (l,g,(i:Int),v,v2,(i:Int),0,())=some (bif (l.take i).all (fun y=>!(q y x)) then .inl (l,g,v,v2,()) else .inr (true,())):=by
 have hi:=(List.getElem?_eq_some_iff.1 hx).1
 have h:=whileO_all (step:=qc_L5 p) (fun k=>(l,g,(i:Int),v,v2,(i:Int),(k:Int),())) (l.take i) (fun _ y=>!(q y x)) (.inr (true,())) (.inl (l,g,v,v2,())) (by rw[List.length_take];omega)
  (by rw[List.length_take,Nat.min_eq_left (by omega)];simp only[qc_L5,dge,cond_false])
  (fun k y hy=>by
   have hk:=(List.getElem?_eq_some_iff.1 hy).1
   rw[List.length_take]at hk
   have hy2:l[k]?=some y:=by rw[←hy,List.getElem?_take_of_lt (by omega)]
   simp -zeta only[qc_L5,dlt (show k<i by omega),getI_nat,hx,hy2,hp,cond_true,wr_succ (show k<9223372036854775807 by omega)]
   cases q y x<;>rfl)
 rw[show whileO (qc_L5 p) (l,g,(i:Int),v,v2,(i:Int),0,())=_ from h,allAt_all]
def apart (q:Hold→Hold→Bool) (l:List Hold):Bool:=allAt (fun i x=>(l.take i).all (fun y=>!(q y x))) 0 l
theorem qc_eq {γ:Type} {p:γ→Hold→Hold→Option Bool} {g:γ} (q:Hold→Hold→Bool) (hp:∀a b,p g a b=some (q a b)) {l:List Hold} (hl:l.length<1000000000):qc p l g=some (!(apart q l)):=by
 have h:=whileO_all (step:=qc_L2 p) (fun i=>(l,g,(l.length:Int),(i:Int),())) l (fun i x=>(l.take i).all (fun y=>!(q y x))) (.inr (true,())) (.inl ()) hl
  (by simp only[qc_L2,dge,cond_false])
  (fun i x hx=>by
   have hi:=(List.getElem?_eq_some_iff.1 hx).1
   simp only[qc_L2,dlt hi,cond_true,qc_L5_run hp hl hx]
   cases (l.take i).all (fun y=>!(q y x)) with
   |true=>simp only[cond_true,wr_succ (show i<9223372036854775807 by omega)]
   |false=>rfl)
 unfold qc
 rw[show whileO (qc_L2 p) (l,g,(l.length:Int),0,())=_ from h]
 unfold apart
 cases allAt (fun i x=>(l.take i).all (fun y=>!(q y x))) 0 l<;>rfl
def sameR (a b:Hold):Bool:=a.Patron==b.Patron&&a.Record==b.Record
def sameG (a b:Hold):Bool:=a.Got==b.Got&&decide (0<a.Got)
theorem apart_both {l:List Hold}:holdsApart l=(apart sameR l&&apart sameG l):=by
 unfold holdsApart apart
 have key:∀(m:List Hold) (i:Nat),allAt (fun i x=>(l.take i).all (fun y=>!(holdClash x y))) i m=(allAt (fun i x=>(l.take i).all (fun y=>!(sameR y x))) i m&&allAt (fun i x=>(l.take i).all (fun y=>!(sameG y x))) i m):=by
  intro m
  induction m with
  |nil=>intro i;rfl
  |cons x m ih=>
   intro i
   simp only[allAt]
   rw[ih (i+1)]
   have e:(l.take i).all (fun y=>!(holdClash x y))=((l.take i).all (fun y=>!(sameR y x))&&(l.take i).all (fun y=>!(sameG y x))):=by
    induction l.take i with
    |nil=>rfl
    |cons y t iht=>
     simp only[List.all_cons]
     rw[iht]
     have e2:(!(holdClash x y))=(!(sameR y x)&&!(sameG y x)):=by
      unfold holdClash sameR sameG
      rw[←Bool.not_or]
      congr 1
      have a1:(x.Patron==y.Patron)=(y.Patron==x.Patron):=Bool.beq_comm
      have a2:(x.Record==y.Record)=(y.Record==x.Record):=Bool.beq_comm
      rw[a1,a2]
      congr 1
      rw[Bool.eq_iff_iff]
      simp only[Bool.and_eq_true,decide_eq_true_eq,beq_iff_eq]
      constructor
      ·rintro ⟨h1,h2⟩;exact ⟨h2.symm,by omega⟩
      ·rintro ⟨h1,h2⟩;exact ⟨by omega,h1.symm⟩
     rw[e2]
     cases sameR y x<;>cases sameG y x<;>cases t.all (fun y=>!(sameR y x))<;>cases t.all (fun y=>!(sameG y x))<;>rfl
   rw[e]
   cases (l.take i).all (fun y=>!(sameR y x))<;>cases (l.take i).all (fun y=>!(sameG y x))<;>cases allAt (fun i x=>(l.take i).all (fun y=>!(sameR y x))) (i+1) m<;>cases allAt (fun i x=>(l.take i).all (fun y=>!(sameG y x))) (i+1) m<;>rfl
 exact key l 0
theorem qf_eq {l:List Hold} (hl:l.length<1000000000):qf l=some (holdsErr l):=by
 have t1:=qc_eq (p:=fun (g:Unit×Unit) x0 x1=>qcx x0 x1) (g:=((),())) sameR (fun a b=>by unfold qcx sameR;simp -zeta only[k_and];rfl) hl
 have t2:=qc_eq (p:=fun (g:Unit×Unit) x0 x1=>qcw x0 x1) (g:=((),())) sameG (fun a b=>by unfold qcw sameG;simp -zeta only[k_and];rfl) hl
 unfold qf holdsErr
 rw[qf_L4_run hl]
 cases decide (64<(l.length:Int)) with
 |true=>rfl
 |false=>
  by_cases h:errAt (holdErr l) 0 l=0
  ·simp only[h,beq_self_eq_true,if_true,cond_false,cond_true,t1,t2,apart_both]
   cases apart sameR l<;>cases apart sameG l<;>rfl
  ·have:(errAt (holdErr l) 0 l==0)=false:=by simpa using h
   simp only[this,Bool.false_eq_true,if_false,cond_false]
theorem qd5_eq (r:Rule):qd5 r=some (ruleOk r):=by
 unfold qd5 ruleOk
 simp -zeta only[k_or,k_and,qbw_eq]
 dsimp only
 congr 1
 generalize rng 0 9 r.Patron=b0;generalize rng 0 9 r.Item=b1;generalize rng 0 4 r.Branch=b2;generalize rng 0 365 r.Days=b3;generalize rng 0 10 r.Renewals=b4;generalize rng 0 99 r.Loans=b5
 generalize rng 0 1000 r.Fine=b6;generalize rng 0 30 r.Grace=b7;generalize rng 0 100000000 r.MaxFine=b8
 cases b0<;>cases b1<;>cases b2<;>cases b3<;>cases b4<;>cases b5<;>cases b6<;>cases b7<;>cases b8<;>rfl
theorem any_all {X:Type} (q:X→Bool) (l:List X):l.any q=!(l.all (fun y=>!(q y))):=by
 induction l with
 |nil=>rfl
 |cons y l ih=>simp only[List.any_cons,List.all_cons];rw[ih];cases q y<;>rfl
theorem qr_L4_run {l:List Rule} (hl:l.length<1000000000):whileO qr_L4 (l,l,(l.length:Int),0,())=some (if errAt (ruleErr l) 0 l==0 then .inl () else .inr (errAt (ruleErr l) 0 l,())):=by
 have h:=whileO_err (step:=qr_L4) (fun i=>(l,l,(l.length:Int),(i:Int),())) l (ruleErr l) (.inl ()) (fun e=>.inr (e,())) hl
  (by simp only[qr_L4,dge,cond_false])
  (fun i x hx=>by
   have hi:=(List.getElem?_eq_some_iff.1 hx).1
   have d1:decide ((0:Int)≤(i:Int))=true:=by rw[decide_eq_true_eq];omega
   have d2:decide ((i:Int)≤(l.length:Int))=true:=by rw[decide_eq_true_eq];omega
   have hc:=qdx_any (p:=fun (g:Unit×Rule×Unit) x0=>qcg x0 g.2.1) (g:=((),(x,()))) (fun y=>ruleSame y x) (l:=l.take i) (by rw[List.length_take];omega) (fun y _=>by
    unfold qcg ruleSame
    simp -zeta only[k_and]
    rfl)
   unfold ruleErr
   simp only[errOut_cond,qr_L4,dlt hi,getI_nat,hx,cond_true,qd5_eq,d1,d2,Int.le_refl,decide_true,Bool.and_self,Int.toNat_natCast,Int.toNat_zero,List.drop_zero,hc]
   rw[any_all]
   cases ruleOk x with
   |false=>rfl
   |true=>
    simp only[Bool.not_true,cond_false]
    cases (l.take i).all (fun y=>!(ruleSame y x)) with
    |true=>simp only[cond_true,cond_false,Bool.not_true,wr_succ (show i<9223372036854775807 by omega)];rfl
    |false=>rfl)
 exact h
theorem qr_eq {l:List Rule} (hl:l.length<1000000000):qr l=some (rulesErr l):=by
 unfold qr rulesErr
 rw[qr_L4_run hl]
 generalize errAt (ruleErr l) 0 l=e
 cases decide (32<(l.length:Int)) with
 |true=>rfl
 |false=>
  by_cases h:e=0
  ·subst h;rfl
  ·have h2:(e==0)=false:=by simpa using h
   simp only[h2,Bool.false_eq_true,if_false,cond_false]
theorem qq_L8_run {c:Calendar} (hl:c.Closed.length<1000000000):whileO qq_L8 (c.Closed,(c.Closed.length:Int),0,c,())=some (bif incr c.Closed then .inl () else .inr (7,())):=by
 have h:=whileO_all (step:=qq_L8) (fun i=>(c.Closed,(c.Closed.length:Int),(i:Int),c,())) c.Closed (fun i x=>!(prevB c.Closed i (fun y=>decide (x≤y)))) (.inr (7,())) (.inl ()) hl
  (by simp only[qq_L8,dge,cond_false])
  (fun i x hx=>by
   have hi:=(List.getElem?_eq_some_iff.1 hx).1
   rcases i with _|j
   ·simp -zeta only[qq_L8,dlt hi,getI_nat,hx,k_and,dpos0,cond_false,cond_true,prevB,wr_succ (show 0<9223372036854775807 by omega)]
    rfl
   ·have hj:c.Closed[j]?=some c.Closed[j]:=List.getElem?_eq_getElem (by omega)
    simp -zeta only[qq_L8,dlt hi,getI_nat,hx,dpos,cond_true,wr_pred (show j<1000000000 by omega),hj,prevB,wr_succ (show j+1<9223372036854775807 by omega)]
    dsimp only
    cases decide (x≤c.Closed[j])<;>rfl)
 exact h
theorem qq_eq {c:Calendar} (hl:c.Closed.length<1000000000):qq c=some (calErr c):=by
 unfold qq calErr
 simp -zeta only[k_or]
 dsimp only
 rw[qq_L8_run hl,qdy_any (fun x=>decide (x<0)||decide (109572<x)) hl (fun x _=>by
  unfold qcf
  rw[qch_eq]
  dsimp only
  rw[not_rng]),any_all]
 have e:decide (127≤c.Week)=decide (126<c.Week):=by rw[decide_eq_decide];omega
 rw[e]
 cases (decide (c.Week<0)||decide (126<c.Week)) with
 |true=>rfl
 |false=>
  cases decide (64<(c.Closed.length:Int)) with
  |true=>rfl
  |false=>
   cases c.Closed.all (fun x=>!(decide (x<0)||decide (109572<x))) with
   |false=>rfl
   |true=>
    simp only[cond_false,cond_true]
    cases incr c.Closed<;>rfl
end Go.Proofs.YtdahfgialanmpaaGreatDoor
namespace Go.Proofs.YtdahfgialanmpaaGreatDoor
open Ev
open Go (IntKind)
theorem qbu_eq (n lo hi:Int):qbu n lo hi=some (rng lo hi n):=by
 unfold qbu
 simp -zeta only[k_or,k_and]
 rfl
theorem rng_iff {lo hi n:Int}:rng lo hi n=true↔lo≤n∧n≤hi:=by
 unfold rng
 simp only[Bool.and_eq_true,decide_eq_true_eq]
theorem fin_cases12 {n:Int} (h:rng 1 12 n=true):n=1∨n=2∨n=3∨n=4∨n=5∨n=6∨n=7∨n=8∨n=9∨n=10∨n=11∨n=12:=by
 have:=rng_iff.1 h;omega
theorem fin_cases15 {n:Int} (h:rng 1 15 n=true):n=1∨n=2∨n=3∨n=4∨n=5∨n=6∨n=7∨n=8∨n=9∨n=10∨n=11∨n=12∨n=13∨n=14∨n=15:=by
 have:=rng_iff.1 h;omega
theorem qd0_eq {s k:Int} (hs:rng 1 12 s=true) (hk:rng 1 15 k=true):qd0 s k=some (allows s k):=by
 rcases fin_cases12 hs with h|h|h|h|h|h|h|h|h|h|h|h<;>subst h<;>
  rcases fin_cases15 hk with h|h|h|h|h|h|h|h|h|h|h|h|h|h|h<;>subst h<;>rfl
theorem qd6_eq (c:Custody):qd6 c=some (qer_s c):=by
 unfold qd6 qer_s qd7_s
 simp -zeta only[k_or,k_and,k_or2,qbu_eq,not_rng]
 dsimp only
 cases hb:(decide (c.State<1)||decide (12<c.State)||(decide (c.Branch<1)||decide (4<c.Branch))) with
 |true=>
  have:(decide (c.State<1)||decide (12<c.State)||decide (c.Branch<1)||decide (4<c.Branch))=true:=by rw[←hb,Bool.or_assoc _ _ (decide (4<c.Branch))]
  rw[this];rfl
 |false=>
  have:(decide (c.State<1)||decide (12<c.State)||decide (c.Branch<1)||decide (4<c.Branch))=false:=by rw[←hb,Bool.or_assoc _ _ (decide (4<c.Branch))]
  rw[this]
  have hr:rng 1 12 c.State=true:=by
   simp only[Bool.or_eq_false_iff,decide_eq_false_iff_not]at hb
   rw[rng_iff];omega
  unfold rng
  simp only[cond_false]
  generalize decide (0≤c.Who)=a1
  generalize decide (c.Who≤9999)=a2
  generalize decide (1≤c.Who)=a3
  generalize decide (1≤c.To)=a4
  generalize decide (c.To≤4)=a5
  generalize (c.To==0)=a6
  generalize (c.To==c.Branch)=a7
  generalize (c.Who==0)=a8
  rcases fin_cases12 hr with h|h|h|h|h|h|h|h|h|h|h|h<;>rw[h]<;>revert a1 a2 a3 a4 a5 a6 a7 a8<;>decide
theorem qcu_eq (c:Custody) (ok:Bool):qcu c ok=some (bif ok then (c,0) else (⟨0,0,0,0⟩,1)):=by
 cases ok<;>rfl
theorem qea_eq (c:Custody) (m:Move):qea c m=some (bif !(m.Branch==c.Branch) then (⟨6,c.Branch,m.Who,m.Branch⟩,0) else (⟨0,0,0,0⟩,1)):=by
 unfold qea
 rw[qcu_eq]
theorem qda_eq (c:Custody) (m:Move):qda c m=some (applyS c m):=by
 unfold qda applyS
 simp -zeta only[k_or,k_and,k_or2,qbu_eq,qd6_eq]
 dsimp only
 have hw:(!(rng 0 109572 m.Day)||!(rng 1 9999 m.Item)||!(rng 1 15 m.Kind)||!(rng 1 4 m.Branch)||!(rng 0 9999 m.Who))=!(qej_s m):=by
  unfold qej_s rng
  simp only[Bool.not_and,Bool.or_assoc]
 rw[show (!(qer_s c)||!(rng 0 109572 m.Day)||!(rng 1 9999 m.Item)||!(rng 1 15 m.Kind)||!(rng 1 4 m.Branch)||!(rng 0 9999 m.Who))=(!(qer_s c)||!(qej_s m)) by rw[←hw];simp only[Bool.or_assoc]]
 cases hb:(!(qer_s c)||!(qej_s m)) with
 |true=>rfl
 |false=>
  simp only[Bool.or_eq_false_iff,Bool.not_eq_false']at hb
  obtain ⟨h1,h2⟩:=hb
  rw[h2,Bool.not_true]at hw
  simp only[Bool.or_eq_false_iff,Bool.not_eq_false']at hw
  obtain ⟨⟨⟨⟨w1,w2⟩,w3⟩,w4⟩,w5⟩:=hw
  have hs:rng 1 12 c.State=true:=by
   unfold qer_s at h1
   rw[rng_iff]
   cases hq:(decide (c.State<1)||decide (12<c.State)||decide (c.Branch<1)||decide (4<c.Branch)) with
   |true=>rw[hq]at h1;cases h1
   |false=>simp only[Bool.or_eq_false_iff,decide_eq_false_iff_not]at hq;omega
  rw[qd0_eq hs w3]
  simp only[cond_false]
  cases ha:allows c.State m.Kind with
  |false=>rfl
  |true=>
   simp only[Bool.not_true,cond_false]
   have h0:=(rng_iff.1 w5).1
   unfold qez_s qeq_s
   simp only[qcu_eq,qea_eq]
   generalize (c.State==5)=g5
   generalize (m.Who==c.Who)=g7
   generalize (m.Branch==c.To)=g6
   by_cases hw0:m.Who=0
   ·have e2:decide (1≤m.Who)=false:=by rw[decide_eq_false_iff_not];omega
    rw[e2]
    simp only[hw0]
    by_cases hb:m.Branch=c.Branch
    ·simp only[hb,beq_self_eq_true]
     rcases fin_cases15 w3 with h|h|h|h|h|h|h|h|h|h|h|h|h|h|h<;>
      (simp only[h];cases g5<;>cases g6<;>cases g7<;>rfl)
    ·have e3:(m.Branch==c.Branch)=false:=by simpa using hb
     simp only[e3]
     rcases fin_cases15 w3 with h|h|h|h|h|h|h|h|h|h|h|h|h|h|h<;>
      (simp only[h];cases g5<;>cases g6<;>cases g7<;>rfl)
   ·have e2:decide (1≤m.Who)=true:=by rw[decide_eq_true_eq];omega
    have e1:(m.Who==0)=false:=by simpa using hw0
    rw[e2]
    simp only[e1]
    by_cases hb:m.Branch=c.Branch
    ·simp only[hb,beq_self_eq_true]
     rcases fin_cases15 w3 with h|h|h|h|h|h|h|h|h|h|h|h|h|h|h<;>
      (simp only[h];cases g5<;>cases g6<;>cases g7<;>rfl)
    ·have e3:(m.Branch==c.Branch)=false:=by simpa using hb
     simp only[e3]
     rcases fin_cases15 w3 with h|h|h|h|h|h|h|h|h|h|h|h|h|h|h<;>
      (simp only[h];cases g5<;>cases g6<;>cases g7<;>rfl)
end Go.Proofs.YtdahfgialanmpaaGreatDoor
namespace Go.Proofs.YtdahfgialanmpaaGreatDoor
open Ev
open Go (IntKind)
theorem qa3_eq {branch:Int} {l:List Move} {item:Int} (hl:l.length<1000000000):qa3 branch l item=some (replayS branch l item):=by
 unfold qa3 replayS
 simp -zeta only[qbu_eq,not_rng]
 try dsimp only
 have h:=whileO_scan (step:=qa3_L5) (fun i c=>(item,l,(l.length:Int),(i:Int),(⟨0,0,0,0⟩:Custody),c,())) l
  (fun i x c=>bif x.Item==item then (bif (applyS c x).2==0 then .inl (applyS c x).1 else .inr (.inr ((i:Int),(applyS c x).2,(⟨0,0,0,0⟩:Custody),()))) else .inl c)
  (fun c=>.inl (⟨0,0,0,0⟩,c,())) (by show l.length<18446744073709551616;omega) (fun c=>by simp only[qa3_L5,dge,cond_false])
  (fun i x c hx=>by
   have hi:=(List.getElem?_eq_some_iff.1 hx).1
   simp only[qa3_L5,dlt hi,getI_nat,hx,cond_true,qda_eq,wr_succ (show i<9223372036854775807 by omega)]
   cases x.Item==item with
   |false=>rfl
   |true=>
    simp only[Bool.not_true,cond_false,cond_true]
    obtain ⟨d,e⟩:=applyS c x
    cases he:e==0 with
    |true=>rfl
    |false=>rfl) (qdk_s branch)
 rw[scan_replay item (fun c=>(.inl (⟨0,0,0,0⟩,c,()):(Custody×Custody×Unit)⊕(Int×Int×Custody×Unit))) (fun p=>.inr (p.1,p.2,(⟨0,0,0,0⟩:Custody),()))]at h
 cases (decide (branch<1)||decide (4<branch)) with
 |true=>rfl
 |false=>
  simp only[cond_false,qc9]
  rw[show whileO qa3_L5 (item,l,(l.length:Int),0,(⟨0,0,0,0⟩:Custody),(⟨1,branch,0,0⟩:Custody),())=_ from h]
  cases replayF 0 l item (qdk_s branch) with
  |inl c=>rfl
  |inr p=>rfl
theorem qaa_eq {c:Circ} {item:Int} (hl:c.Items.length<1000000000):qaa c item=some (fIdx (fun x=>x.ID==item) c.Items):=by
 unfold qaa
 rw[qd_any (fun x=>x.ID==item) hl (fun x _=>rfl)]
theorem qaa_cases {c:Circ} {item:Int} (hl:c.Items.length<1000000000):(qaa c item=some (-1)∧c.Items.find? (fun x=>x.ID==item)=none)∨
 ∃(i:Nat) (x:Item),qaa c item=some (i:Int)∧c.Items[i]?=some x∧x.ID=item∧c.Items.find? (fun x=>x.ID==item)=some x:=by
 rw[qaa_eq hl,←qag_eq hl]
 exact qag_cases hl
theorem qbs_eq {c:Circ} {id:Int} (hl:c.Patrons.length<1000000000):qbs id c=some (getP c.Patrons id).2:=by
 unfold qbs
 rw[qb4_eq hl]
theorem qco_eq {l:List Loan} {item:Int} (hl:l.length<1000000000):qco l item=some (findL l item):=by
 unfold qco q8 qac findL
 dsimp only
 rw[qm_any (p:=fun (g:Unit×Int×Unit) x0=>qb9 x0 g.2.1) (g:=((),(item,()))) (fun x=>x.Item==item) hl (fun x _=>rfl)]
 rcases fIdx_cases (fun x:Loan=>x.Item==item) l with ⟨h1,h2⟩|⟨i,x,h1,h2,h3,h4⟩
 ·simp only[h1,h2,dneg1,cond_true]
  rfl
 ·simp only[h1,h4,dnat0,cond_false,getI_nat,h2]
  have:decide ((0:Int)≤(i:Int))=true:=by rw[decide_eq_true_eq];omega
  rw[this]
theorem qad_eq {c:Circ} {item:Int} (hl:c.Holds.length<1000000000):qad c item=some (caughtS c item):=by
 unfold qad caughtS
 rw[qa_any (p:=fun (g:Unit×Int×Unit) x0=>qdb x0 g.2.1) (g:=((),(item,()))) (fun x=>x.Got==item) hl (fun x _=>rfl)]
 rcases fIdx_cases (fun x:Hold=>x.Got==item) c.Holds with ⟨h1,h2⟩|⟨i,x,h1,h2,h3,h4⟩
 ·simp only[h1,h2,dneg1,cond_true]
  rfl
 ·simp only[h1,h4,dnat0,cond_false,getI_nat,h2]
def itemShape (x:Item):Bool:=rng 1 9999 x.ID&&rng 1 9999 x.Record&&rng 1 4 x.Branch&&rng 1 9 x.Kind&&rng 0 100000000 x.Price&&decide ((x.Call.length:Int)≤200)&&vld x.Call
theorem qd2_eq (x:Item):qd2 x=some (itemShape x):=by
 unfold qd2 itemShape
 simp -zeta only[k_and,qb0_eq]
 dsimp only
 cases hb:(rng 1 9999 x.ID&&rng 1 9999 x.Record&&rng 1 4 x.Branch&&rng 1 9 x.Kind&&rng 0 100000000 x.Price&&decide ((x.Call.length:Int)≤200)) with
 |false=>rfl
 |true=>
  simp only[Bool.and_eq_true,decide_eq_true_eq]at hb
  have:decide (x.Call.length≤LIM)=true:=by rw[decide_eq_true_eq];unfold LIM;omega
  unfold qe7
  rw[this]
  rfl
theorem qj_L4_run {c:Circ} (hl:c.Items.length<1000000000):whileO qj_L4 (c.Items,(c.Items.length:Int),0,c,())=some (bif allAt (fun i x=>!(!(itemShape x)||prevB c.Items i (fun y=>decide (x.ID≤y.ID)))) 0 c.Items then .inl (c,()) else .inr (false,())):=by
 have h:=whileO_all (step:=qj_L4) (fun i=>(c.Items,(c.Items.length:Int),(i:Int),c,())) c.Items (fun i x=>!(!(itemShape x)||prevB c.Items i (fun y=>decide (x.ID≤y.ID)))) (.inr (false,())) (.inl (c,())) hl
  (by simp only[qj_L4,dge,cond_false])
  (fun i x hx=>by
   have hi:=(List.getElem?_eq_some_iff.1 hx).1
   rcases i with _|j
   ·simp -zeta only[qj_L4,dlt hi,getI_nat,hx,k_or,dpos0,cond_false,cond_true,prevB,qd2_eq,wr_succ (show 0<9223372036854775807 by omega)]
    dsimp only
    cases itemShape x<;>rfl
   ·have hj:c.Items[j]?=some c.Items[j]:=List.getElem?_eq_getElem (by omega)
    simp -zeta only[qj_L4,dlt hi,getI_nat,hx,k_or,dpos,wr_pred (show j<1000000000 by omega),hj,cond_false,cond_true,prevB,qd2_eq,wr_succ (show j+1<9223372036854775807 by omega)]
    dsimp only
    cases itemShape x<;>cases decide (x.ID≤c.Items[j].ID)<;>rfl)
 exact h
def replayOk (c:Circ) (x:Item):Bool:=!(!((replayS x.Branch c.Moves x.ID).2.2==0)||!(eqT_Custody (replayS x.Branch c.Moves x.ID).1 x.Custody))
def movesOk (c:Circ):Bool:=c.Moves.all (fun m=>(c.Items.find? (fun x=>x.ID==m.Item)).isSome)
def itemsB (c:Circ):Bool:=!(decide (64<(c.Items.length:Int))||decide (2000<(c.Moves.length:Int)))&&(allAt (fun i x=>!(!(itemShape x)||prevB c.Items i (fun y=>decide (x.ID≤y.ID)))) 0 c.Items&&(movesOk c&&c.Items.all (replayOk c)))
theorem qj_eq {c:Circ} (hs:Short c):qj c=some (itemsB c):=by
 have h2:=whileO_all (step:=qj_L10) (fun i=>(c.Moves,(c.Moves.length:Int),(i:Int),c,())) c.Moves (fun _ m=>(c.Items.find? (fun x=>x.ID==m.Item)).isSome) (.inr (false,())) (.inl (c,())) hs.moves
  (by simp only[qj_L10,dge,cond_false])
  (fun i x hx=>by
   have hi:=(List.getElem?_eq_some_iff.1 hx).1
   have:=hs.moves
   simp only[qj_L10,dlt hi,getI_nat,hx,cond_true,wr_succ (show i<9223372036854775807 by omega)]
   rcases qaa_cases (item:=x.Item) hs.items with ⟨h1,h2⟩|⟨k,y,h1,h2,h3,h4⟩
   ·simp only[h1,h2,dneg1,cond_true,Option.isSome_none,cond_false]
   ·simp only[h1,h4,dnat0,cond_false,Option.isSome_some,cond_true])
 have h3:=whileO_all (step:=qj_L16) (fun i=>(c.Items,(c.Items.length:Int),(i:Int),c,())) c.Items (fun _=>replayOk c) (.inr (false,())) (.inl ()) hs.items
  (by simp only[qj_L16,dge,cond_false])
  (fun i x hx=>by
   have hi:=(List.getElem?_eq_some_iff.1 hx).1
   have:=hs.items
   unfold replayOk
   simp -zeta only[qj_L16,dlt hi,getI_nat,hx,cond_true,k_or,qa3_eq hs.moves,wr_succ (show i<9223372036854775807 by omega)]
   dsimp only
   cases (!((replayS x.Branch c.Moves x.ID).2.2==0)||!(eqT_Custody (replayS x.Branch c.Moves x.ID).1 x.Custody))<;>rfl)
 unfold qj itemsB movesOk
 simp -zeta only[k_or]
 dsimp only
 rw[qj_L4_run hs.items]
 cases (decide (64<(c.Items.length:Int))||decide (2000<(c.Moves.length:Int))) with
 |true=>rfl
 |false=>
  cases allAt (fun i x=>!(!(itemShape x)||prevB c.Items i (fun y=>decide (x.ID≤y.ID)))) 0 c.Items with
  |false=>rfl
  |true=>
   simp only[cond_false,cond_true]
   rw[show whileO qj_L10 (c.Moves,(c.Moves.length:Int),0,c,())=_ from h2,allAt_all]
   cases c.Moves.all (fun m=>(c.Items.find? (fun x=>x.ID==m.Item)).isSome) with
   |false=>rfl
   |true=>
    simp only[cond_true]
    rw[show whileO qj_L16 (c.Items,(c.Items.length:Int),0,c,())=_ from h3,allAt_all]
    cases c.Items.all (replayOk c)<;>rfl
theorem qi_L4_run {c:Circ} (hs:Short c):whileO qi_L4 (c.Cals,0,c,())=some (bif calsGood c then .inl (c,()) else .inr (false,())):=by
 have st:∀(i:Int) (w:Int) (cl:List Int) (hl:cl.length<1000000000),(match qq (⟨w,cl⟩:Calendar) with
  |some r16=>(bif !(r16==0) then some (.inr (.inr (false,()))) else some (.inl (c.Cals,i,c,())):Option (((V4 Calendar)×Int×Circ×Unit)⊕((Circ×Unit)⊕(Bool×Unit))))
  |none=>none)=bif calErr ⟨w,cl⟩==0 then some (.inl (c.Cals,i,c,())) else some (.inr (.inr (false,()))):=fun i w cl hl=>by
  rw[qq_eq (c:=⟨w,cl⟩) hl]
  dsimp only
  cases calErr ⟨w,cl⟩==0<;>rfl
 have s0:qi_L4 (c.Cals,0,c,())=bif calErr c.Cals.x0==0 then some (.inl (c.Cals,1,c,())) else some (.inr (.inr (false,()))):=st 1 _ _ hs.cal0
 have s1:qi_L4 (c.Cals,1,c,())=bif calErr c.Cals.x1==0 then some (.inl (c.Cals,2,c,())) else some (.inr (.inr (false,()))):=st 2 _ _ hs.cal1
 have s2:qi_L4 (c.Cals,2,c,())=bif calErr c.Cals.x2==0 then some (.inl (c.Cals,3,c,())) else some (.inr (.inr (false,()))):=st 3 _ _ hs.cal2
 have s3:qi_L4 (c.Cals,3,c,())=bif calErr c.Cals.x3==0 then some (.inl (c.Cals,4,c,())) else some (.inr (.inr (false,()))):=st 4 _ _ hs.cal3
 have s4:qi_L4 (c.Cals,4,c,())=some (.inr (.inl (c,()))):=rfl
 refine whileO_of 5 (by rw[FUEL_eq];omega) ?_
 unfold calsGood
 simp only[iterN,s0,s1,s2,s3,s4]
 cases calErr c.Cals.x0==0 with
 |false=>rfl
 |true=>
  simp only[cond_true,iterN,s1]
  cases calErr c.Cals.x1==0 with
  |false=>rfl
  |true=>
   simp only[cond_true,iterN,s2]
   cases calErr c.Cals.x2==0 with
   |false=>rfl
   |true=>
    simp only[cond_true,iterN,s3]
    cases calErr c.Cals.x3==0 with
    |false=>rfl
    |true=>simp only[cond_true,iterN,s4];rfl
def nextsB (c:Circ):Bool:=!(!(rng 1 100000 c.NextHold)||!(rng 1 100000 c.NextCharge))
def listsB (c:Circ):Bool:=listsGood c&&(calsGood c&&(nextsB c&&(c.Holds.all (fun x=>!(decide (c.NextHold≤x.ID)))&&c.Charges.all (fun x=>!(decide (c.NextCharge≤x.ID))))))
theorem qi_eq {c:Circ} (hs:Short c):qi c=some (listsB c):=by
 have h1:=whileO_all (step:=qi_L12) (fun i=>(c.Holds,(c.Holds.length:Int),(i:Int),c,())) c.Holds (fun _ x=>!(decide (c.NextHold≤x.ID))) (.inr (false,())) (.inl (c,())) hs.holds
  (by simp only[qi_L12,dge,cond_false])
  (fun i x hx=>by
   have hi:=(List.getElem?_eq_some_iff.1 hx).1
   have:=hs.holds
   simp only[qi_L12,dlt hi,getI_nat,hx,cond_true,wr_succ (show i<9223372036854775807 by omega)]
   cases decide (c.NextHold≤x.ID)<;>rfl)
 have h2:=whileO_all (step:=qi_L18) (fun i=>(c.Charges,(c.Charges.length:Int),(i:Int),c,())) c.Charges (fun _ x=>!(decide (c.NextCharge≤x.ID))) (.inr (false,())) (.inl ()) hs.charges
  (by simp only[qi_L18,dge,cond_false])
  (fun i x hx=>by
   have hi:=(List.getElem?_eq_some_iff.1 hx).1
   have:=hs.charges
   simp only[qi_L18,dlt hi,getI_nat,hx,cond_true,wr_succ (show i<9223372036854775807 by omega)]
   cases decide (c.NextCharge≤x.ID)<;>rfl)
 unfold qi listsB listsGood nextsB
 simp -zeta only[k_or,qap_eq hs.patrons hs.name,qas_eq hs.loans,qf_eq hs.holds,qat_eq hs.charges,qr_eq hs.rules,qb0_eq]
 dsimp only
 rw[qi_L4_run hs]
 have e:(!(patronsErr c.Patrons==0)||!(loansErr c.Loans==0)||!(holdsErr c.Holds==0)||!(chargesErr c.Charges==0)||!(rulesErr c.Rules==0))=(!(patronsErr c.Patrons==0)||!(loansErr c.Loans==0)||!(holdsErr c.Holds==0)||!(chargesErr c.Charges==0)||!(rulesErr c.Rules==0)):=rfl
 generalize (!(patronsErr c.Patrons==0)||!(loansErr c.Loans==0)||!(holdsErr c.Holds==0)||!(chargesErr c.Charges==0)||!(rulesErr c.Rules==0))=b1
 cases b1 with
 |true=>rfl
 |false=>
  cases calsGood c with
  |false=>rfl
  |true=>
   simp -zeta only[cond_false,cond_true,k_or,qb0_eq]
   try dsimp only
   cases (!(rng 1 100000 c.NextHold)||!(rng 1 100000 c.NextCharge)) with
   |true=>rfl
   |false=>
    simp only[cond_false]
    rw[show whileO qi_L12 (c.Holds,(c.Holds.length:Int),0,c,())=_ from h1,allAt_all]
    cases c.Holds.all (fun x=>!(decide (c.NextHold≤x.ID))) with
    |false=>rfl
    |true=>
     simp only[cond_true]
     rw[show whileO qi_L18 (c.Charges,(c.Charges.length:Int),0,c,())=_ from h2,allAt_all]
     cases c.Charges.all (fun x=>!(decide (c.NextCharge≤x.ID)))<;>rfl
end Go.Proofs.YtdahfgialanmpaaGreatDoor
namespace Go.Proofs.YtdahfgialanmpaaGreatDoor
open Ev
open Go (IntKind)
def foundI (c:Circ) (item:Int):Bool:=(c.Items.find? (fun x=>x.ID==item)).isSome
def knownB (c:Circ):Bool:=c.Loans.all (fun n=>!(!((getP c.Patrons n.Patron).2)||!(foundI c n.Item)))&&(c.Holds.all (fun h=>(getP c.Patrons h.Patron).2)&&c.Charges.all (fun x=>(getP c.Patrons x.Patron).2))
theorem qe_eq {c:Circ} (hs:Short c):qe c=some (knownB c):=by
 have h1:=whileO_all (step:=qe_L3) (fun i=>(c.Loans,(c.Loans.length:Int),(i:Int),c,())) c.Loans (fun _ n=>!(!((getP c.Patrons n.Patron).2)||!(foundI c n.Item))) (.inr (false,())) (.inl (c,())) hs.loans
  (by simp only[qe_L3,dge,cond_false])
  (fun i x hx=>by
   have hi:=(List.getElem?_eq_some_iff.1 hx).1
   have:=hs.loans
   unfold foundI
   rcases qaa_cases (item:=x.Item) hs.items with ⟨h1,h2⟩|⟨k,y,h1,h2,h3,h4⟩
   ·simp -zeta only[qe_L3,dlt hi,getI_nat,hx,cond_true,qbs_eq hs.patrons,h1,h2,dneg1,k_or,wr_succ (show i<9223372036854775807 by omega)]
    dsimp only
    cases (getP c.Patrons x.Patron).2<;>rfl
   ·simp -zeta only[qe_L3,dlt hi,getI_nat,hx,cond_true,qbs_eq hs.patrons,h1,h4,dnat0,k_or,wr_succ (show i<9223372036854775807 by omega)]
    dsimp only
    cases (getP c.Patrons x.Patron).2<;>rfl)
 have h2:=whileO_all (step:=qe_L9) (fun i=>(c.Holds,(c.Holds.length:Int),(i:Int),c,())) c.Holds (fun _ h=>(getP c.Patrons h.Patron).2) (.inr (false,())) (.inl (c,())) hs.holds
  (by simp only[qe_L9,dge,cond_false])
  (fun i x hx=>by
   have hi:=(List.getElem?_eq_some_iff.1 hx).1
   have:=hs.holds
   simp only[qe_L9,dlt hi,getI_nat,hx,cond_true,qbs_eq hs.patrons,wr_succ (show i<9223372036854775807 by omega)]
   cases (getP c.Patrons x.Patron).2<;>rfl)
 have h3:=whileO_all (step:=qe_L15) (fun i=>(c.Charges,(c.Charges.length:Int),(i:Int),c,())) c.Charges (fun _ h=>(getP c.Patrons h.Patron).2) (.inr (false,())) (.inl ()) hs.charges
  (by simp only[qe_L15,dge,cond_false])
  (fun i x hx=>by
   have hi:=(List.getElem?_eq_some_iff.1 hx).1
   have:=hs.charges
   simp only[qe_L15,dlt hi,getI_nat,hx,cond_true,qbs_eq hs.patrons,wr_succ (show i<9223372036854775807 by omega)]
   cases (getP c.Patrons x.Patron).2<;>rfl)
 unfold qe knownB
 rw[show whileO qe_L3 (c.Loans,(c.Loans.length:Int),0,c,())=_ from h1,allAt_all]
 cases c.Loans.all (fun n=>!(!((getP c.Patrons n.Patron).2)||!(foundI c n.Item))) with
 |false=>rfl
 |true=>
  simp only[cond_true]
  rw[show whileO qe_L9 (c.Holds,(c.Holds.length:Int),0,c,())=_ from h2,allAt_all]
  cases c.Holds.all (fun h=>(getP c.Patrons h.Patron).2) with
  |false=>rfl
  |true=>
   simp only[cond_true]
   rw[show whileO qe_L15 (c.Charges,(c.Charges.length:Int),0,c,())=_ from h3,allAt_all]
   cases c.Charges.all (fun x=>(getP c.Patrons x.Patron).2)<;>rfl
def itemLoan (c:Circ) (x:Item):Bool:=!(!((findL c.Loans x.ID).2==qdq_s x.Custody)||((findL c.Loans x.ID).2&&!((findL c.Loans x.ID).1.Patron==x.Custody.Who)))
theorem qa1_eq {c:Circ} (hs:Short c):qa1 c=some (c.Items.all (itemLoan c)):=by
 have h1:=whileO_all (step:=qa1_L2) (fun i=>(c.Items,(c.Items.length:Int),(i:Int),c,())) c.Items (fun _=>itemLoan c) (.inr (false,())) (.inl ()) hs.items
  (by simp only[qa1_L2,dge,cond_false])
  (fun i x hx=>by
   have hi:=(List.getElem?_eq_some_iff.1 hx).1
   have:=hs.items
   unfold itemLoan qdq_s
   simp -zeta only[qa1_L2,dlt hi,getI_nat,hx,cond_true,qco_eq hs.loans,k_or,k_and,wr_succ (show i<9223372036854775807 by omega)]
   dsimp only
   cases (!((findL c.Loans x.ID).2==(x.Custody.State==4||x.Custody.State==9||x.Custody.State==10))||((findL c.Loans x.ID).2&&!((findL c.Loans x.ID).1.Patron==x.Custody.Who)))<;>rfl)
 unfold qa1
 rw[show whileO qa1_L2 (c.Items,(c.Items.length:Int),0,c,())=_ from h1,allAt_all]
 cases c.Items.all (itemLoan c)<;>rfl
def holdAt (x:Hold) (y:Item):Bool:=y.Record==x.Record&&(bif x.State==2 then eqT_Custody y.Custody ⟨6,y.Custody.Branch,x.Patron,x.Pickup⟩ else eqT_Custody y.Custody ⟨5,x.Pickup,x.Patron,0⟩)
def holdB (c:Circ) (x:Hold):Bool:=x.State==1||(match c.Items.find? (fun y=>y.ID==x.Got) with|some y=>holdAt x y|none=>false)
theorem qv_eq {c:Circ} (hs:Short c):qv c=some (c.Holds.all (holdB c)&&c.Items.all (readyGood c)):=by
 have h1:=whileO_all (step:=qv_L2) (fun i=>(c.Holds,(c.Holds.length:Int),(i:Int),c,())) c.Holds (fun _=>holdB c) (.inr (false,())) (.inl (c,())) hs.holds
  (by simp only[qv_L2,dge,cond_false])
  (fun i x hx=>by
   have hi:=(List.getElem?_eq_some_iff.1 hx).1
   have:=hs.holds
   unfold holdB holdAt
   rcases qaa_cases (item:=x.Got) hs.items with ⟨h1,h2⟩|⟨k,y,h1,h2,h3,h4⟩
   ·simp -zeta only[qv_L2,dlt hi,getI_nat,hx,cond_true,h1,h2,dneg1,wr_succ (show i<9223372036854775807 by omega)]
    dsimp only
    cases x.State==1<;>rfl
   ·simp -zeta only[qv_L2,dlt hi,getI_nat,hx,cond_true,h1,h2,h4,dnat0,cond_false,wr_succ (show i<9223372036854775807 by omega)]
    dsimp only
    generalize eqT_Custody y.Custody ⟨6,y.Custody.Branch,x.Patron,x.Pickup⟩=b1
    generalize eqT_Custody y.Custody ⟨5,x.Pickup,x.Patron,0⟩=b2
    cases x.State==1<;>cases x.State==2<;>cases y.Record==x.Record<;>cases b1<;>cases b2<;>rfl)
 have h2:=whileO_all (step:=qv_L16) (fun i=>(c.Items,(c.Items.length:Int),(i:Int),c,())) c.Items (fun _=>readyGood c) (.inr (false,())) (.inl ()) hs.items
  (by simp only[qv_L16,dge,cond_false])
  (fun i x hx=>by
   have hi:=(List.getElem?_eq_some_iff.1 hx).1
   have:=hs.items
   unfold readyGood
   simp -zeta only[qv_L16,dlt hi,getI_nat,hx,cond_true,k_or,k_and,qad_eq hs.holds,wr_succ (show i<9223372036854775807 by omega)]
   dsimp only
   cases x.Custody.State==5<;>cases (caughtS c x.ID).2<;>cases (caughtS c x.ID).1.State==3<;>rfl)
 unfold qv
 rw[show whileO qv_L2 (c.Holds,(c.Holds.length:Int),0,c,())=_ from h1,allAt_all]
 cases c.Holds.all (holdB c) with
 |false=>rfl
 |true=>
  simp only[cond_true]
  rw[show whileO qv_L16 (c.Items,(c.Items.length:Int),0,c,())=_ from h2,allAt_all]
  cases c.Items.all (readyGood c)<;>rfl
def rightP (c:Circ):Bool:=rng 0 109572 c.Today&&itemsB c&&listsB c&&knownB c&&c.Items.all (itemLoan c)&&(c.Holds.all (holdB c)&&c.Items.all (readyGood c))
theorem qdj_eqP {c:Circ} (hs:Short c):qdj c=some (rightP c):=by
 unfold qdj rightP
 simp -zeta only[k_and,qb0_eq,qj_eq hs,qi_eq hs,qe_eq hs,qa1_eq hs,qv_eq hs]
 try dsimp only
theorem sorted_lt {X:Type} {key:X→Int} {l:List X} (h:∀i x,l[i]?=some x→prevB l i (fun y=>decide (key x≤key y))=false):∀(j i:Nat) (x y:X),i<j→l[i]?=some x→l[j]?=some y→key x<key y:=by
 intro j
 induction j with
 |zero=>intro i x y hi;omega
 |succ j ih=>
  intro i x y hi hx hy
  have hj:=(List.getElem?_eq_some_iff.1 hy).1
  have hz:l[j]?=some l[j]:=List.getElem?_eq_getElem (by omega)
  have:=h _ _ hy
  simp only[prevB,hz,decide_eq_false_iff_not]at this
  by_cases e:i=j
  ·subst e
   rw[hz]at hx;cases hx;omega
  ·have:=ih i x l[j] (by omega) hx hz
   omega
theorem sorted_find {X:Type} {key:X→Int} {l:List X} (h:∀i x,l[i]?=some x→prevB l i (fun y=>decide (key x≤key y))=false) {x:X} (hx:x∈l):l.find? (fun y=>key y==key x)=some x:=by
 rcases fIdx_cases (fun y=>key y==key x) l with ⟨h1,h2⟩|⟨i,y,h1,h2,h3,h4⟩
 ·rw[List.find?_eq_none]at h2
  exact absurd (beq_self_eq_true _) (h2 x hx)
 ·rw[h4]
  obtain ⟨j,hj⟩:=List.getElem?_of_mem hx
  have e:key y=key x:=by simpa using h3
  by_cases hij:i=j
  ·subst hij;rw[h2]at hj;exact hj
  ·rcases Nat.lt_or_gt_of_ne hij with hlt|hlt
   ·have:=sorted_lt h _ _ _ _ hlt h2 hj;omega
   ·have:=sorted_lt h _ _ _ _ hlt hj h2;omega
theorem errAt_all {X:Type} {f:Nat→X→Int}:∀{l:List X} {k:Nat},errAt f k l=0→∀i x,l[i]?=some x→f (k+i) x=0:=by
 intro l
 induction l with
 |nil=>intro k _ i x hx;simp at hx
 |cons y l ih=>
  intro k h i x hx
  unfold errAt at h
  by_cases e:f k y=0
  ·rw[e]at h
   simp only[beq_self_eq_true,if_true]at h
   cases i with
   |zero=>simp at hx;subst hx;exact e
   |succ i=>have:=ih h i x (by simpa using hx);rwa [show k+(i+1)=k+1+i by omega]
  ·have:(f k y==0)=false:=by simpa using e
   rw[this]at h
   exact absurd h e
theorem cond_zero {b:Bool} {n m:Int} (h:(bif b then n else m)=0) (hn:n≠0):b=false:=by
 cases b with
 |false=>rfl
 |true=>exact absurd h hn
theorem loans_sorted {l:List Loan} (h:loansErr l=0):∀i x,l[i]?=some x→prevB l i (fun y=>decide (x.Item≤y.Item))=false:=by
 intro i x hx
 unfold loansErr at h
 have hb:=cond_zero h (by decide)
 rw[hb]at h
 have:=errAt_all (k:=0) h i x hx
 rw[Nat.zero_add]at this
 unfold loanErr at this
 exact cond_zero this (by decide)
theorem holdsErr_zero {l:List Hold} (h:holdsErr l=0):errAt (holdErr l) 0 l=0:=by
 unfold holdsErr at h
 rw[cond_zero h (by decide)]at h
 simp only[cond_false]at h
 by_cases e:errAt (holdErr l) 0 l=0
 ·exact e
 ·have h2:(errAt (holdErr l) 0 l==0)=false:=by simpa using e
  rw[h2]at h
  exact h
theorem hold_shape {l:List Hold} (h:holdsErr l=0) {x:Hold} (hx:x∈l):holdShape x=0:=by
 obtain ⟨i,hi⟩:=List.getElem?_of_mem hx
 have:=errAt_all (k:=0) (holdsErr_zero h) i x hi
 rw[Nat.zero_add,holdErr_shape]at this
 rw[cond_zero this (by decide)]at this
 exact this
theorem hold_state {x:Hold} (h:holdShape x=0):x.State=1∨x.State=2∨x.State=3:=by
 unfold holdShape at h
 rw[cond_zero h (by decide)]at h
 simp only[cond_false]at h
 have:=cond_zero h (by decide)
 simp only[Bool.or_eq_false_iff,decide_eq_false_iff_not]at this
 omega
def noAim (c:Custody):Prop:=c.State=6∨c.To=0
theorem applyS_aim {c:Custody} {m:Move} (h:((applyS c m).2==0)=true):noAim (applyS c m).1:=by
 unfold applyS at h ⊢
 cases e1:(!(qer_s c)||!(qej_s m)) with
 |true=>rw[e1]at h;cases h
 |false=>
  rw[e1]at h
  simp only[cond_false]at h ⊢
  cases e2:!(allows c.State m.Kind) with
  |true=>rw[e2]at h;cases h
  |false=>
   rw[e2]at h
   simp only[cond_false]at h ⊢
   cases e3:(m.Kind==3&&c.State==5&&!(m.Who==c.Who)) with
   |true=>rw[e3]at h;cases h
   |false=>
    rw[e3]at h
    simp only[cond_false]at h ⊢
    cases e4:!(qez_s c m) with
    |true=>rw[e4]at h;cases h
    |false=>
     simp only[cond_false]
     cases (qeq_s m.Kind==2) with
     |true=>exact .inr rfl
     |false=>
      simp only[cond_false]
      cases (qeq_s m.Kind==4||(qeq_s m.Kind==5||qeq_s m.Kind==8)) with
      |true=>exact .inr rfl
      |false=>
       simp only[cond_false]
       cases e5:(qeq_s m.Kind==6) with
       |true=>exact .inl (by simpa using e5)
       |false=>
        simp only[cond_false]
        cases (qeq_s m.Kind==9||qeq_s m.Kind==10) with
        |true=>exact .inr rfl
        |false=>exact .inr rfl
theorem replayF_aim:∀{l:List Move} {i:Nat} {item:Int} {c d:Custody},noAim c→replayF i l item c=.inl d→noAim d:=by
 intro l
 induction l with
 |nil=>intro i item c d hc h;simp only[replayF]at h;cases h;exact hc
 |cons x l ih=>
  intro i item c d hc h
  simp only[replayF]at h
  cases e:x.Item==item with
  |false=>rw[e]at h;exact ih hc h
  |true=>
   rw[e]at h
   simp only[cond_true]at h
   cases e2:(applyS c x).2==0 with
   |true=>rw[e2]at h;exact ih (applyS_aim e2) h
   |false=>rw[e2]at h;cases h
theorem eqT_Custody_iff {a b:Custody}:eqT_Custody a b=true↔a=b:=by
 obtain ⟨a1,a2,a3,a4⟩:=a
 obtain ⟨b1,b2,b3,b4⟩:=b
 unfold eqT_Custody
 simp[Bool.and_eq_true]
 try (constructor<;>(intro h;simp_all))
theorem replayOk_aim {c:Circ} {x:Item} (h:replayOk c x=true):noAim x.Custody:=by
 unfold replayOk at h
 simp only[Bool.not_eq_true',Bool.or_eq_false_iff,Bool.not_eq_false']at h
 obtain ⟨h1,h2⟩:=h
 have e:=eqT_Custody_iff.1 h2
 rw[←e]
 unfold replayS at h1 ⊢
 cases hb:(decide (x.Branch<1)||decide (4<x.Branch)) with
 |true=>exact .inr rfl
 |false=>
  rw[hb]at h1
  simp only[cond_false]at h1 ⊢
  cases hr:replayF 0 c.Moves x.ID (qdk_s x.Branch) with
  |inl d=>exact replayF_aim (.inr rfl) hr
  |inr p=>exact .inr rfl
end Go.Proofs.YtdahfgialanmpaaGreatDoor
namespace Go.Proofs.YtdahfgialanmpaaGreatDoor
open Ev
open Go (IntKind)
theorem itemGood_eq (c:Circ) (i:Nat) (x:Item):itemGood c i x=(!(!(itemShape x)||prevB c.Items i (fun y=>decide (x.ID≤y.ID)))&&replayOk c x):=by
 unfold itemGood replayOk itemShape
 rw[Bool.eq_iff_iff]
 simp only[Bool.and_eq_true,Bool.not_eq_true',Bool.or_eq_false_iff,decide_eq_false_iff_not,Bool.not_eq_false',rng_iff,decide_eq_true_eq]
 constructor
 ·rintro ⟨⟨h1,h2⟩,h3⟩
  obtain ⟨⟨⟨⟨⟨⟨a1,a2⟩,a3⟩,a4⟩,a5⟩,a6⟩,a7⟩:=h1
  obtain ⟨⟨⟨⟨⟨b1,b2⟩,b3⟩,b4⟩,b5⟩,b6⟩:=h2
  refine ⟨⟨⟨⟨⟨⟨⟨⟨⟨?_,?_⟩,⟨?_,?_⟩⟩,⟨?_,?_⟩⟩,⟨?_,?_⟩⟩,⟨?_,?_⟩⟩,?_⟩,b6⟩,a3⟩,h3⟩<;>omega
 ·rintro ⟨⟨h1,a3⟩,h3⟩
  obtain ⟨⟨⟨⟨⟨⟨⟨a1,a2⟩,⟨a4,a5⟩⟩,⟨a6,a7⟩⟩,⟨a8,a9⟩⟩,⟨b1,b2⟩⟩,b3⟩,b4⟩:=h1
  refine ⟨⟨⟨⟨⟨⟨⟨⟨?_,?_⟩,a3⟩,?_⟩,?_⟩,?_⟩,?_⟩,⟨⟨⟨⟨⟨?_,?_⟩,?_⟩,?_⟩,?_⟩,b4⟩⟩,h3⟩<;>omega
theorem itemsGood_eq (c:Circ):itemsGood c=itemsB c:=by
 have key:allAt (itemGood c) 0 c.Items=(allAt (fun i x=>!(!(itemShape x)||prevB c.Items i (fun y=>decide (x.ID≤y.ID)))) 0 c.Items&&c.Items.all (replayOk c)):=by
  have gen:∀(l:List Item) (k:Nat),allAt (itemGood c) k l=(allAt (fun i x=>!(!(itemShape x)||prevB c.Items i (fun y=>decide (x.ID≤y.ID)))) k l&&l.all (replayOk c)):=by
   intro l
   induction l with
   |nil=>intro k;rfl
   |cons x l ih=>
    intro k
    simp only[allAt,List.all_cons]
    rw[ih,itemGood_eq]
    generalize (!(!(itemShape x)||prevB c.Items k (fun y=>decide (x.ID≤y.ID))))=b1
    generalize allAt (fun i x=>!(!(itemShape x)||prevB c.Items i (fun y=>decide (x.ID≤y.ID)))) (k+1) l=b2
    cases b1<;>cases b2<;>cases replayOk c x<;>cases l.all (replayOk c)<;>rfl
  exact gen _ _
 unfold itemsGood itemsB movesOk
 rw[key]
 generalize (!(decide (64<(c.Items.length:Int))||decide (2000<(c.Moves.length:Int))))=b1
 generalize allAt (fun i x=>!(!(itemShape x)||prevB c.Items i (fun y=>decide (x.ID≤y.ID)))) 0 c.Items=b2
 generalize c.Moves.all (fun m=>(c.Items.find? (fun x=>x.ID==m.Item)).isSome)=b3
 cases b1<;>cases b2<;>cases b3<;>cases c.Items.all (replayOk c)<;>rfl
theorem items_sorted {c:Circ} (h:itemsB c=true):∀i x,c.Items[i]?=some x→prevB c.Items i (fun y=>decide (x.ID≤y.ID))=false:=by
 intro i x hx
 unfold itemsB at h
 simp only[Bool.and_eq_true]at h
 have:=(allAt_iff.1 h.2.1) i x hx
 rw[Nat.zero_add]at this
 simp only[Bool.not_eq_true',Bool.or_eq_false_iff]at this
 exact this.2
theorem items_replay {c:Circ} (h:itemsB c=true) {x:Item} (hx:x∈c.Items):replayOk c x=true:=by
 unfold itemsB at h
 simp only[Bool.and_eq_true,List.all_eq_true]at h
 exact h.2.2.2 x hx
theorem listsGood_errs {c:Circ} (h:listsGood c=true):loansErr c.Loans=0∧holdsErr c.Holds=0:=by
 unfold listsGood at h
 simp only[Bool.not_eq_true',Bool.or_eq_false_iff,Bool.not_eq_false',beq_iff_eq]at h
 exact ⟨h.1.1.1.2,h.1.1.2⟩
theorem findL_some {l:List Loan} {n:Loan} (h:l.find? (fun y=>y.Item==n.Item)=some n):findL l n.Item=(n,true):=by
 unfold findL;rw[h]
theorem loans_agree {c:Circ} (hi:itemsB c=true) (hl:loansErr c.Loans=0) (hk:∀n∈c.Loans,(getP c.Patrons n.Patron).2=true) :
 loansGood c=(c.Loans.all (fun n=>foundI c n.Item)&&c.Items.all (itemLoan c)):=by
 rw[Bool.eq_iff_iff]
 unfold loansGood
 simp only[Bool.and_eq_true,List.all_eq_true]
 constructor
 ·rintro ⟨h1,h2⟩
  refine ⟨fun n hn=>?_,fun x hx=>?_⟩
  ·have:=h1 n hn
   unfold loanGood at this
   unfold foundI
   cases hf:c.Items.find? (fun x=>x.ID==n.Item) with
   |none=>rw[hf]at this;cases this
   |some y=>rfl
  ·have e:=h2 x hx
   unfold itemLoan
   rw[e,Bool.not_true,Bool.false_or]
   cases hf:(findL c.Loans x.ID).2 with
   |false=>rfl
   |true=>
    unfold findL at hf ⊢
    cases hg:c.Loans.find? (fun n=>n.Item==x.ID) with
    |none=>rw[hg]at hf;cases hf
    |some n=>
     have hm:=List.mem_of_find?_eq_some hg
     have hit:n.Item=x.ID:=by have:=List.find?_some hg;simpa using this
     have:=h1 n hm
     unfold loanGood at this
     have hs:=sorted_find (key:=fun y:Item=>y.ID) (items_sorted hi) hx
     rw[hit,hs]at this
     simp only[Bool.not_eq_true',Bool.or_eq_false_iff,Bool.not_eq_false',beq_iff_eq]at this
     simp[this.2]
 ·rintro ⟨h1,h2⟩
  refine ⟨fun n hn=>?_,fun x hx=>?_⟩
  ·have hf:=h1 n hn
   unfold foundI at hf
   cases hg:c.Items.find? (fun x=>x.ID==n.Item) with
   |none=>rw[hg]at hf;cases hf
   |some x=>
    have hm:=List.mem_of_find?_eq_some hg
    have hit:x.ID=n.Item:=by have:=List.find?_some hg;simpa using this
    have:=h2 x hm
    unfold itemLoan at this
    have hs:=findL_some (sorted_find (key:=fun y:Loan=>y.Item) (loans_sorted hl) hn)
    rw[hit,hs]at this
    simp only[Bool.not_eq_true',Bool.or_eq_false_iff,Bool.true_and,Bool.not_eq_false',beq_iff_eq]at this
    unfold loanGood
    rw[hg]
    show (!(!(getP c.Patrons n.Patron).2||!(qdq_s x.Custody)||!(x.Custody.Who==n.Patron)))=true
    have e1:qdq_s x.Custody=true:=by have:=this.1;simpa using this.symm
    rw[hk n hn,e1,this.2]
    simp
  ·have:=h2 x hx
   unfold itemLoan at this
   simp only[Bool.not_eq_true',Bool.or_eq_false_iff,Bool.not_eq_false']at this
   exact this.1
theorem holdGood_eq {c:Circ} (hi:itemsB c=true) {h:Hold} (hh:holdShape h=0):holdGood c h=((getP c.Patrons h.Patron).2&&!(decide (c.NextHold≤h.ID))&&holdB c h):=by
 unfold holdGood holdB
 have e:(!(!(getP c.Patrons h.Patron).2||decide (c.NextHold≤h.ID)))=((getP c.Patrons h.Patron).2&&!(decide (c.NextHold≤h.ID))):=by cases (getP c.Patrons h.Patron).2<;>rfl
 rw[e]
 congr 1
 rcases hold_state hh with hs|hs|hs
 ·simp[hs]
 ·have e1:(h.State==1)=false:=by rw[hs];rfl
  have e2:(h.State==2)=true:=by rw[hs];rfl
  have e3:(h.State==3)=false:=by rw[hs];rfl
  rw[e1,Bool.false_or,Bool.false_or]
  cases hg:c.Items.find? (fun x=>x.ID==h.Got) with
  |none=>rfl
  |some y=>
   unfold holdAt
   simp only[e2,e3,Bool.false_and,Bool.not_false,Bool.and_true,Bool.true_and,Bool.not_not,cond_true]
   congr 1
   unfold eqT_Custody
   simp only[beq_self_eq_true,Bool.true_and,Bool.and_true]
   cases y.Custody.State==6<;>cases y.Custody.To==h.Pickup<;>cases y.Custody.Who==h.Patron<;>rfl
 ·have e1:(h.State==1)=false:=by rw[hs];rfl
  have e2:(h.State==2)=false:=by rw[hs];rfl
  have e3:(h.State==3)=true:=by rw[hs];rfl
  rw[e1,Bool.false_or,Bool.false_or]
  cases hg:c.Items.find? (fun x=>x.ID==h.Got) with
  |none=>rfl
  |some y=>
   have ha:=replayOk_aim (items_replay hi (List.mem_of_find?_eq_some hg))
   unfold holdAt
   simp only[e2,e3,Bool.false_and,Bool.not_false,Bool.and_true,Bool.true_and,Bool.not_not,cond_false]
   congr 1
   unfold eqT_Custody
   simp only[Bool.and_true]
   cases h5:y.Custody.State==5 with
   |false=>simp
   |true=>
    have:y.Custody.To=0:=by
     rcases ha with h6|h6
     ·simp at h5;omega
     ·exact h6
    rw[this]
    cases y.Custody.Branch==h.Pickup<;>cases y.Custody.Who==h.Patron<;>rfl
theorem all_and {X:Type} {p q:X→Bool} {l:List X}:l.all (fun x=>p x&&q x)=(l.all p&&l.all q):=by
 induction l with
 |nil=>rfl
 |cons x l ih=>simp only[List.all_cons];rw[ih];cases p x<;>cases q x<;>cases l.all p<;>rfl
theorem all_congr {X:Type} {p q:X→Bool} {l:List X} (h:∀x∈l,p x=q x):l.all p=l.all q:=by
 induction l with
 |nil=>rfl
 |cons x l ih=>simp only[List.all_cons];rw[h x (List.mem_cons_self ..),ih (fun y hy=>h y (List.mem_cons_of_mem _ hy))]
theorem rightP_eq (c:Circ):rightP c=rightB c:=by
 unfold rightP rightB
 rw[itemsGood_eq]
 have en:numsGood c=(rng 0 109572 c.Today&&nextsB c):=by
  unfold numsGood nextsB
  rw[Bool.eq_iff_iff]
  simp only[Bool.and_eq_true,Bool.not_eq_true',Bool.or_eq_false_iff,decide_eq_false_iff_not,Bool.not_eq_false',rng_iff]
  omega
 have ec:c.Charges.all (chargeGood c)=(c.Charges.all (fun x=>(getP c.Patrons x.Patron).2)&&c.Charges.all (fun x=>!(decide (c.NextCharge≤x.ID)))):=by
  rw[←all_and]
  exact all_congr (fun x _=>by unfold chargeGood;rw[Bool.not_or,Bool.not_not])
 rw[en,ec]
 unfold listsB knownB
 have ek:c.Loans.all (fun n=>!(!((getP c.Patrons n.Patron).2)||!(foundI c n.Item)))=(c.Loans.all (fun n=>(getP c.Patrons n.Patron).2)&&c.Loans.all (fun n=>foundI c n.Item)):=by
  rw[←all_and]
  exact all_congr (fun x _=>by rw[Bool.not_or,Bool.not_not,Bool.not_not])
 rw[ek]
 cases hi:itemsB c with
 |false=>simp
 |true=>
  cases hl:listsGood c with
  |false=>simp
  |true=>
   obtain ⟨l1,l2⟩:=listsGood_errs hl
   have eh:holdsGood c=((c.Holds.all (fun h=>(getP c.Patrons h.Patron).2)&&c.Holds.all (fun x=>!(decide (c.NextHold≤x.ID)))&&c.Holds.all (holdB c))&&c.Items.all (readyGood c)):=by
    unfold holdsGood
    congr 1
    rw[←all_and,←all_and]
    exact all_congr (fun x hx=>holdGood_eq hi (hold_shape l2 hx))
   rw[eh]
   cases hp:c.Loans.all (fun n=>(getP c.Patrons n.Patron).2) with
   |true=>
    rw[loans_agree hi l1 (fun n hn=>by rw[List.all_eq_true]at hp;exact hp n hn)]
    simp only[Bool.true_and,Bool.and_true]
    rw[Bool.eq_iff_iff]
    simp only[Bool.and_eq_true]
    constructor
    ·rintro ⟨⟨⟨⟨a1,a2,a3,a4,a5⟩,a6,a7,a8⟩,a9⟩,b1,b2⟩
     exact ⟨⟨a1,a3⟩,a2,⟨a8,a5⟩,⟨a6,a9⟩,⟨⟨a7,a4⟩,b1⟩,b2⟩
    ·rintro ⟨⟨a1,a3⟩,a2,⟨a8,a5⟩,⟨a6,a9⟩,⟨⟨a7,a4⟩,b1⟩,b2⟩
     exact ⟨⟨⟨⟨a1,a2,a3,a4,a5⟩,a6,a7,a8⟩,a9⟩,b1,b2⟩
   |false=>
    have:loansGood c=false:=by
     cases hg:loansGood c with
     |false=>rfl
     |true=>
      exfalso
      have:c.Loans.all (fun n=>(getP c.Patrons n.Patron).2)=true:=by
       rw[List.all_eq_true]
       intro n hn
       unfold loansGood at hg
       simp only[Bool.and_eq_true,List.all_eq_true]at hg
       have:=hg.1 n hn
       unfold loanGood at this
       cases hf:c.Items.find? (fun x=>x.ID==n.Item) with
       |none=>rw[hf]at this;cases this
       |some x=>
        rw[hf]at this
        simp only[Bool.not_eq_true',Bool.or_eq_false_iff,Bool.not_eq_false']at this
        exact this.1.1
      rw[this]at hp;cases hp
    rw[this]
    simp
theorem qdj_eq {c:Circ} (hs:Short c):qdj c=some (rightB c):=by
 rw[qdj_eqP hs,rightP_eq]
end Go.Proofs.YtdahfgialanmpaaGreatDoor
namespace Go.Proofs.YtdahfgialanmpaaGreatDoor
open Ev
open Go (IntKind)
theorem all_true {X:Type} (l:List X):l.all (fun _=>true)=true:=by rw[List.all_eq_true];intros;rfl
theorem eqT_Custody_refl (x:Custody):eqT_Custody x x=true:=by simp[eqT_Custody]
theorem eqT_Item_refl (x:Item):eqT_Item x x=true:=by simp[eqT_Item,eqT_Custody_refl]
theorem eqT_Patron_refl (x:Patron):eqT_Patron x x=true:=by simp[eqT_Patron,eqT_Custody_refl]
theorem eqT_Loan_refl (x:Loan):eqT_Loan x x=true:=by simp[eqT_Loan,eqT_Custody_refl]
theorem eqT_Hold_refl (x:Hold):eqT_Hold x x=true:=by simp[eqT_Hold,eqT_Custody_refl]
theorem eqT_Charge_refl (x:Charge):eqT_Charge x x=true:=by simp[eqT_Charge,eqT_Custody_refl]
theorem eqT_Rule_refl (x:Rule):eqT_Rule x x=true:=by simp[eqT_Rule,eqT_Custody_refl]
theorem eqT_Move_refl (x:Move):eqT_Move x x=true:=by simp[eqT_Move,eqT_Custody_refl]
theorem qb_L6_refl {c:Circ} (hs:Short c):whileO qb_L6 (0,c,c,())=some (.inl (c,c,())):=by
 have h:=whileO_all (step:=qb_L6) (fun i=>((i:Int),c,c,())) c.Items (fun _ _=>true) (.inr (false,())) (.inl (c,c,())) hs.items
  (by simp only[qb_L6,dge,cond_false])
  (fun i x hx=>by
   have hi:=(List.getElem?_eq_some_iff.1 hx).1
   have:=hs.items
   simp only[qb_L6,dlt hi,getI_nat,hx,cond_true,eqT_Item_refl,Bool.not_true,cond_false,wr_succ (show i<9223372036854775807 by omega)])
 rw[show whileO qb_L6 (0,c,c,())=_ from h,allAt_all]
 rw[all_true];rfl
theorem qb_L11_refl {c:Circ} (hs:Short c):whileO qb_L11 (0,c,c,())=some (.inl (c,c,())):=by
 have h:=whileO_all (step:=qb_L11) (fun i=>((i:Int),c,c,())) c.Patrons (fun _ _=>true) (.inr (false,())) (.inl (c,c,())) hs.patrons
  (by simp only[qb_L11,dge,cond_false])
  (fun i x hx=>by
   have hi:=(List.getElem?_eq_some_iff.1 hx).1
   have:=hs.patrons
   simp only[qb_L11,dlt hi,getI_nat,hx,cond_true,eqT_Patron_refl,Bool.not_true,cond_false,wr_succ (show i<9223372036854775807 by omega)])
 rw[show whileO qb_L11 (0,c,c,())=_ from h,allAt_all]
 rw[all_true];rfl
theorem qb_L16_refl {c:Circ} (hs:Short c):whileO qb_L16 (0,c,c,())=some (.inl (c,c,())):=by
 have h:=whileO_all (step:=qb_L16) (fun i=>((i:Int),c,c,())) c.Loans (fun _ _=>true) (.inr (false,())) (.inl (c,c,())) hs.loans
  (by simp only[qb_L16,dge,cond_false])
  (fun i x hx=>by
   have hi:=(List.getElem?_eq_some_iff.1 hx).1
   have:=hs.loans
   simp only[qb_L16,dlt hi,getI_nat,hx,cond_true,eqT_Loan_refl,Bool.not_true,cond_false,wr_succ (show i<9223372036854775807 by omega)])
 rw[show whileO qb_L16 (0,c,c,())=_ from h,allAt_all]
 rw[all_true];rfl
theorem qb_L21_refl {c:Circ} (hs:Short c):whileO qb_L21 (0,c,c,())=some (.inl (c,c,())):=by
 have h:=whileO_all (step:=qb_L21) (fun i=>((i:Int),c,c,())) c.Holds (fun _ _=>true) (.inr (false,())) (.inl (c,c,())) hs.holds
  (by simp only[qb_L21,dge,cond_false])
  (fun i x hx=>by
   have hi:=(List.getElem?_eq_some_iff.1 hx).1
   have:=hs.holds
   simp only[qb_L21,dlt hi,getI_nat,hx,cond_true,eqT_Hold_refl,Bool.not_true,cond_false,wr_succ (show i<9223372036854775807 by omega)])
 rw[show whileO qb_L21 (0,c,c,())=_ from h,allAt_all]
 rw[all_true];rfl
theorem qb_L26_refl {c:Circ} (hs:Short c):whileO qb_L26 (0,c,c,())=some (.inl (c,c,())):=by
 have h:=whileO_all (step:=qb_L26) (fun i=>((i:Int),c,c,())) c.Charges (fun _ _=>true) (.inr (false,())) (.inl (c,c,())) hs.charges
  (by simp only[qb_L26,dge,cond_false])
  (fun i x hx=>by
   have hi:=(List.getElem?_eq_some_iff.1 hx).1
   have:=hs.charges
   simp only[qb_L26,dlt hi,getI_nat,hx,cond_true,eqT_Charge_refl,Bool.not_true,cond_false,wr_succ (show i<9223372036854775807 by omega)])
 rw[show whileO qb_L26 (0,c,c,())=_ from h,allAt_all]
 rw[all_true];rfl
theorem qb_L31_refl {c:Circ} (hs:Short c):whileO qb_L31 (0,c,c,())=some (.inl (c,c,())):=by
 have h:=whileO_all (step:=qb_L31) (fun i=>((i:Int),c,c,())) c.Rules (fun _ _=>true) (.inr (false,())) (.inl (c,c,())) hs.rules
  (by simp only[qb_L31,dge,cond_false])
  (fun i x hx=>by
   have hi:=(List.getElem?_eq_some_iff.1 hx).1
   have:=hs.rules
   simp only[qb_L31,dlt hi,getI_nat,hx,cond_true,eqT_Rule_refl,Bool.not_true,cond_false,wr_succ (show i<9223372036854775807 by omega)])
 rw[show whileO qb_L31 (0,c,c,())=_ from h,allAt_all]
 rw[all_true];rfl
theorem qb_L36_refl {c:Circ} (hs:Short c):whileO qb_L36 (0,c,c,())=some (.inl (c,c,())):=by
 have h:=whileO_all (step:=qb_L36) (fun i=>((i:Int),c,c,())) c.Moves (fun _ _=>true) (.inr (false,())) (.inl (c,c,())) hs.moves
  (by simp only[qb_L36,dge,cond_false])
  (fun i x hx=>by
   have hi:=(List.getElem?_eq_some_iff.1 hx).1
   have:=hs.moves
   simp only[qb_L36,dlt hi,getI_nat,hx,cond_true,eqT_Move_refl,Bool.not_true,cond_false,wr_succ (show i<9223372036854775807 by omega)])
 rw[show whileO qb_L36 (0,c,c,())=_ from h,allAt_all]
 rw[all_true];rfl
theorem qo_L7_refl0 {c:Circ} (hs:Short c):whileO qo_L7 (0,0,c,c,())=some (.inl (0,c,c,())):=by
 have st:∀k:Int,qo_L7 (0,k,c,c,())=(bif decide (k<(c.Cals.x0.Closed.length:Int)) then (match getI c.Cals.x0.Closed k with|some x=>(match getI c.Cals.x0.Closed k with|some y=>(bif !(x==y) then some (.inr (.inr (false,()))) else some (.inl (0,wr .i64 (k+1),c,c,())))|none=>none)|none=>none) else some (.inr (.inl (0,c,c,())))):=fun k=>rfl
 have h:=whileO_all (step:=qo_L7) (fun k=>(0,(k:Int),c,c,())) c.Cals.x0.Closed (fun _ _=>true) (.inr (false,())) (.inl (0,c,c,())) hs.cal0
  (by rw[st];simp only[dge,cond_false])
  (fun k x hx=>by
   have hi:=(List.getElem?_eq_some_iff.1 hx).1
   have:=hs.cal0
   rw[st]
   simp only[dlt hi,getI_nat,hx,cond_true,beq_self_eq_true,Bool.not_true,cond_false,wr_succ (show k<9223372036854775807 by omega)])
 rw[show whileO qo_L7 (0,0,c,c,())=_ from h,allAt_all]
 rw[all_true];rfl
theorem qo_step0 {c:Circ} (hs:Short c):qo_L2 (0,c,c,())=some (.inl (1,c,c,())):=by
 have st:qo_L2 (0,c,c,())=(bif !(c.Cals.x0.Week==c.Cals.x0.Week) then some (.inr (.inr (false,()))) else bif !((c.Cals.x0.Closed.length:Int)==(c.Cals.x0.Closed.length:Int)) then some (.inr (.inr (false,()))) else
  match whileO qo_L7 (0,0,c,c,()) with
  |some (.inl (i,a,b,_))=>some (.inl (wr .i64 (i+1),a,b,()))
  |some (.inr (v,_))=>some (.inr (.inr (v,())))
  |none=>none):=by
  show (bif !(c.Cals.x0.Week==c.Cals.x0.Week) then _ else _)=_
  cases (!(c.Cals.x0.Week==c.Cals.x0.Week))<;>rfl
 rw[st,qo_L7_refl0 hs]
 simp only[beq_self_eq_true,Bool.not_true,cond_false]
 rfl
theorem qo_L7_refl1 {c:Circ} (hs:Short c):whileO qo_L7 (1,0,c,c,())=some (.inl (1,c,c,())):=by
 have st:∀k:Int,qo_L7 (1,k,c,c,())=(bif decide (k<(c.Cals.x1.Closed.length:Int)) then (match getI c.Cals.x1.Closed k with|some x=>(match getI c.Cals.x1.Closed k with|some y=>(bif !(x==y) then some (.inr (.inr (false,()))) else some (.inl (1,wr .i64 (k+1),c,c,())))|none=>none)|none=>none) else some (.inr (.inl (1,c,c,())))):=fun k=>rfl
 have h:=whileO_all (step:=qo_L7) (fun k=>(1,(k:Int),c,c,())) c.Cals.x1.Closed (fun _ _=>true) (.inr (false,())) (.inl (1,c,c,())) hs.cal1
  (by rw[st];simp only[dge,cond_false])
  (fun k x hx=>by
   have hi:=(List.getElem?_eq_some_iff.1 hx).1
   have:=hs.cal1
   rw[st]
   simp only[dlt hi,getI_nat,hx,cond_true,beq_self_eq_true,Bool.not_true,cond_false,wr_succ (show k<9223372036854775807 by omega)])
 rw[show whileO qo_L7 (1,0,c,c,())=_ from h,allAt_all]
 rw[all_true];rfl
theorem qo_step1 {c:Circ} (hs:Short c):qo_L2 (1,c,c,())=some (.inl (2,c,c,())):=by
 have st:qo_L2 (1,c,c,())=(bif !(c.Cals.x1.Week==c.Cals.x1.Week) then some (.inr (.inr (false,()))) else bif !((c.Cals.x1.Closed.length:Int)==(c.Cals.x1.Closed.length:Int)) then some (.inr (.inr (false,()))) else
  match whileO qo_L7 (1,0,c,c,()) with
  |some (.inl (i,a,b,_))=>some (.inl (wr .i64 (i+1),a,b,()))
  |some (.inr (v,_))=>some (.inr (.inr (v,())))
  |none=>none):=by
  show (bif !(c.Cals.x1.Week==c.Cals.x1.Week) then _ else _)=_
  cases (!(c.Cals.x1.Week==c.Cals.x1.Week))<;>rfl
 rw[st,qo_L7_refl1 hs]
 simp only[beq_self_eq_true,Bool.not_true,cond_false]
 rfl
theorem qo_L7_refl2 {c:Circ} (hs:Short c):whileO qo_L7 (2,0,c,c,())=some (.inl (2,c,c,())):=by
 have st:∀k:Int,qo_L7 (2,k,c,c,())=(bif decide (k<(c.Cals.x2.Closed.length:Int)) then (match getI c.Cals.x2.Closed k with|some x=>(match getI c.Cals.x2.Closed k with|some y=>(bif !(x==y) then some (.inr (.inr (false,()))) else some (.inl (2,wr .i64 (k+1),c,c,())))|none=>none)|none=>none) else some (.inr (.inl (2,c,c,())))):=fun k=>rfl
 have h:=whileO_all (step:=qo_L7) (fun k=>(2,(k:Int),c,c,())) c.Cals.x2.Closed (fun _ _=>true) (.inr (false,())) (.inl (2,c,c,())) hs.cal2
  (by rw[st];simp only[dge,cond_false])
  (fun k x hx=>by
   have hi:=(List.getElem?_eq_some_iff.1 hx).1
   have:=hs.cal2
   rw[st]
   simp only[dlt hi,getI_nat,hx,cond_true,beq_self_eq_true,Bool.not_true,cond_false,wr_succ (show k<9223372036854775807 by omega)])
 rw[show whileO qo_L7 (2,0,c,c,())=_ from h,allAt_all]
 rw[all_true];rfl
theorem qo_step2 {c:Circ} (hs:Short c):qo_L2 (2,c,c,())=some (.inl (3,c,c,())):=by
 have st:qo_L2 (2,c,c,())=(bif !(c.Cals.x2.Week==c.Cals.x2.Week) then some (.inr (.inr (false,()))) else bif !((c.Cals.x2.Closed.length:Int)==(c.Cals.x2.Closed.length:Int)) then some (.inr (.inr (false,()))) else
  match whileO qo_L7 (2,0,c,c,()) with
  |some (.inl (i,a,b,_))=>some (.inl (wr .i64 (i+1),a,b,()))
  |some (.inr (v,_))=>some (.inr (.inr (v,())))
  |none=>none):=by
  show (bif !(c.Cals.x2.Week==c.Cals.x2.Week) then _ else _)=_
  cases (!(c.Cals.x2.Week==c.Cals.x2.Week))<;>rfl
 rw[st,qo_L7_refl2 hs]
 simp only[beq_self_eq_true,Bool.not_true,cond_false]
 rfl
theorem qo_L7_refl3 {c:Circ} (hs:Short c):whileO qo_L7 (3,0,c,c,())=some (.inl (3,c,c,())):=by
 have st:∀k:Int,qo_L7 (3,k,c,c,())=(bif decide (k<(c.Cals.x3.Closed.length:Int)) then (match getI c.Cals.x3.Closed k with|some x=>(match getI c.Cals.x3.Closed k with|some y=>(bif !(x==y) then some (.inr (.inr (false,()))) else some (.inl (3,wr .i64 (k+1),c,c,())))|none=>none)|none=>none) else some (.inr (.inl (3,c,c,())))):=fun k=>rfl
 have h:=whileO_all (step:=qo_L7) (fun k=>(3,(k:Int),c,c,())) c.Cals.x3.Closed (fun _ _=>true) (.inr (false,())) (.inl (3,c,c,())) hs.cal3
  (by rw[st];simp only[dge,cond_false])
  (fun k x hx=>by
   have hi:=(List.getElem?_eq_some_iff.1 hx).1
   have:=hs.cal3
   rw[st]
   simp only[dlt hi,getI_nat,hx,cond_true,beq_self_eq_true,Bool.not_true,cond_false,wr_succ (show k<9223372036854775807 by omega)])
 rw[show whileO qo_L7 (3,0,c,c,())=_ from h,allAt_all]
 rw[all_true];rfl
theorem qo_step3 {c:Circ} (hs:Short c):qo_L2 (3,c,c,())=some (.inl (4,c,c,())):=by
 have st:qo_L2 (3,c,c,())=(bif !(c.Cals.x3.Week==c.Cals.x3.Week) then some (.inr (.inr (false,()))) else bif !((c.Cals.x3.Closed.length:Int)==(c.Cals.x3.Closed.length:Int)) then some (.inr (.inr (false,()))) else
  match whileO qo_L7 (3,0,c,c,()) with
  |some (.inl (i,a,b,_))=>some (.inl (wr .i64 (i+1),a,b,()))
  |some (.inr (v,_))=>some (.inr (.inr (v,())))
  |none=>none):=by
  show (bif !(c.Cals.x3.Week==c.Cals.x3.Week) then _ else _)=_
  cases (!(c.Cals.x3.Week==c.Cals.x3.Week))<;>rfl
 rw[st,qo_L7_refl3 hs]
 simp only[beq_self_eq_true,Bool.not_true,cond_false]
 rfl
theorem qo_refl {c:Circ} (hs:Short c):qo c c=some true:=by
 have s4:qo_L2 (4,c,c,())=some (.inr (.inl ())):=rfl
 have h:whileO qo_L2 (0,c,c,())=some (.inl ()):=by
  refine whileO_of 5 (by rw[FUEL_eq];omega) ?_
  simp only[iterN,qo_step0 hs,qo_step1 hs,qo_step2 hs,qo_step3 hs,s4]
 unfold qo
 rw[h]
theorem qb_refl {c:Circ} (hs:Short c):qb c c=some true:=by
 unfold qb
 simp -zeta only[k_or,beq_self_eq_true,Bool.not_true,Bool.or_false]
 dsimp only
 simp only[qb_L6_refl hs,qb_L11_refl hs,qb_L16_refl hs,qb_L21_refl hs,qb_L26_refl hs,qb_L31_refl hs,qb_L36_refl hs,qo_refl hs,Bool.or_false,cond_false]
end Go.Proofs.YtdahfgialanmpaaGreatDoor
namespace Go.Proofs.YtdahfgialanmpaaGreatDoor
open Ev
open Go (IntKind)
def insS {X:Type} (p:X→Bool) (x:X):List X→List X
 | []=>[x]
 |y::l=>bif p y then x::y::l else y::insS p x l
theorem insS_none {X:Type} {p:X→Bool} {x:X}:∀{l:List X},l.findIdx? p=none→insS p x l=l++[x]:=by
 intro l
 induction l with
 |nil=>intros;rfl
 |cons y l ih=>
  intro h
  rw[List.findIdx?_cons]at h
  cases hp:p y with
  |true=>rw[hp]at h;cases h
  |false=>
   rw[hp]at h
   simp only[Bool.false_eq_true,if_false,Option.map_eq_none_iff]at h
   simp only[insS,hp,cond_false,ih h,List.cons_append]
theorem insS_some {X:Type} {p:X→Bool} {x:X}:∀{l:List X} {k:Nat},l.findIdx? p=some k→insS p x l=l.take k++x::l.drop k∧k≤l.length:=by
 intro l
 induction l with
 |nil=>intro k h;cases h
 |cons y l ih=>
  intro k h
  rw[List.findIdx?_cons]at h
  cases hp:p y with
  |true=>rw[hp]at h;simp at h;subst h;simp[insS,hp]
  |false=>
   rw[hp]at h
   simp only[Bool.false_eq_true,if_false,Option.map_eq_some_iff]at h
   obtain ⟨j,hj,rfl⟩:=h
   obtain ⟨e1,e2⟩:=ih hj
   exact ⟨by simp only[insS,hp,cond_false,e1,List.take_succ_cons,List.drop_succ_cons,List.cons_append],by simp only[List.length_cons];omega⟩
theorem insS_length {X:Type} {p:X→Bool} {x:X}:∀{l:List X},(insS p x l).length=l.length+1:=by
 intro l
 induction l with
 |nil=>rfl
 |cons y l ih=>simp only[insS];cases p y<;>simp[ih]
theorem insS_mem {X:Type} {p:X→Bool} {x z:X}:∀{l:List X},z∈insS p x l→z=x∨z∈l:=by
 intro l
 induction l with
 |nil=>intro h;simp[insS]at h;exact .inl h
 |cons y l ih=>
  intro h
  simp only[insS]at h
  cases hp:p y with
  |true=>rw[hp]at h;simpa using h
  |false=>
   rw[hp]at h
   simp only[cond_false,List.mem_cons]at h
   rcases h with rfl|h
   ·exact .inr (List.mem_cons_self ..)
   ·rcases ih h with e|e
    ·exact .inl e
    ·exact .inr (List.mem_cons_of_mem _ e)
theorem insertO_ins {X:Type} {p:X→Bool} {x:X} {l:List X} (hl:l.length<1000000000):insertO l (bif decide (fIdx p l<0) then (l.length:Int) else fIdx p l) [x]=some (insS p x l):=by
 unfold insertO fIdx
 have h3:decide (l.length+1≤1073741824)=true:=by rw[decide_eq_true_eq];omega
 cases h:l.findIdx? p with
 |none=>
  have h1:decide ((0:Int)≤(l.length:Int))=true:=by rw[decide_eq_true_eq];omega
  simp only[show decide ((-1:Int)<0)=true from rfl,cond_true,h1,Int.le_refl,decide_true,h3,Bool.and_self,Int.toNat_natCast,List.take_length,List.drop_length,insS_none h]
 |some k=>
  obtain ⟨e1,e2⟩:=insS_some (x:=x) h
  have h0:decide ((k:Int)<0)=false:=by rw[decide_eq_false_iff_not];omega
  have h1:decide ((0:Int)≤(k:Int))=true:=by rw[decide_eq_true_eq];omega
  have h2:decide ((k:Int)≤(l.length:Int))=true:=by rw[decide_eq_true_eq];omega
  simp only[h0,cond_false,h1,h2,h3,Bool.and_self,Int.toNat_natCast,cond_true,e1]
def insF {X:Type} (p:X→Bool) (x:X) (y:X) (s:Bool×List X):Bool×List X:=bif !s.1&&p y then (true,(s.2++[x])++[y]) else (s.1,s.2++[y])
theorem insF_done {X:Type} {p:X→Bool} {x:X}:∀{l:List X} {o:List X},l.foldl (fun s y=>insF p x y s) (true,o)=(true,o++l):=by
 intro l
 induction l with
 |nil=>intro o;simp
 |cons y l ih=>intro o;rw[List.foldl_cons];show List.foldl _ (true,o++[y]) l=_;rw[ih];simp
theorem insF_fold {X:Type} {p:X→Bool} {x:X}:∀{l:List X} {o:List X},(bif !(l.foldl (fun s y=>insF p x y s) (false,o)).1 then (l.foldl (fun s y=>insF p x y s) (false,o)).2++[x] else (l.foldl (fun s y=>insF p x y s) (false,o)).2)=o++insS p x l:=by
 intro l
 induction l with
 |nil=>intro o;rfl
 |cons y l ih=>
  intro o
  rw[List.foldl_cons]
  simp only[insS]
  cases hp:p y with
  |true=>
   have:insF p x y (false,o)=(true,(o++[x])++[y]):=by simp[insF,hp]
   rw[this,insF_done]
   simp
  |false=>
   have:insF p x y (false,o)=(false,o++[y]):=by simp[insF,hp]
   rw[this,ih]
   simp
theorem insF_length {X:Type} {p:X→Bool} {x:X}:∀{l:List X} {s:Bool×List X},(l.foldl (fun s y=>insF p x y s) s).2.length≤s.2.length+l.length+(bif s.1 then 0 else 1):=by
 intro l
 induction l with
 |nil=>intro s;simp
 |cons y l ih=>
  intro s
  rw[List.foldl_cons]
  refine Nat.le_trans ih ?_
  obtain ⟨d,o⟩:=s
  unfold insF
  cases d<;>cases p y<;>simp<;>omega
theorem lim_ok {n m:Nat} (h:n+m≤1000000100):decide (n+m≤LIM)=true:=by rw[decide_eq_true_eq];unfold LIM;omega
theorem qbm_L9_run {c v:Circ} {x:Item} (hl:c.Items.length<1000000000):whileO qbm_L9 (false,0,c,x,v,[],()) =
 some (match c.Items.foldl (fun s y=>insF (fun z=>decide (x.ID<z.ID)) x y s) (false,[]) with|(d,o)=>(d,c,x,v,o,())):=by
 have h:=whileO_scanI (step:=qbm_L9) (fun (i:Nat) (s:Bool×List Item)=>s.2.length≤i+(bif s.1 then 1 else 0)) (fun i s=>(s.1,(i:Int),c,x,v,s.2,())) c.Items
  (fun i y s=>.inl (insF (fun z=>decide (x.ID<z.ID)) x y s)) (fun s=>(s.1,c,x,v,s.2,())) (by rw[FUEL_eq];omega)
  (fun s _=>by simp only[qbm_L9,dge,cond_false])
  (fun i y s hx hi=>by
   have hlt:=(List.getElem?_eq_some_iff.1 hx).1
   obtain ⟨d,o⟩:=s
   simp only at hi
   have hi2:o.length≤i+1:=by cases d<;>simp at hi<;>omega
   have l1:decide (o.length+([x]:List Item).length≤LIM)=true:=lim_ok (by simp;omega)
   have l2:decide ((o++([x]:List Item)).length+([y]:List Item).length≤LIM)=true:=lim_ok (by simp;omega)
   have l3:decide (o.length+([y]:List Item).length≤LIM)=true:=lim_ok (by simp;omega)
   refine ⟨?_,fun s' hs'=>?_⟩
   ·simp -zeta only[qbm_L9,dlt hlt,getI_nat,hx,k_and,cond_true,l1,l2,l3,wr_succ (show i<9223372036854775807 by omega)]
    unfold insF
    dsimp only
    cases (!d&&decide (x.ID<y.ID))<;>rfl
   ·cases hs'
    unfold insF
    dsimp only
    cases d<;>cases decide (x.ID<y.ID)<;>simp at hi ⊢<;>omega) (false,[]) (by simp)
 rw[scanT_fold]at h
 exact h
theorem qbr_L6_run {l:List Patron} {p:Patron} (hl:l.length<1000000000):whileO qbr_L6 (l,false,0,p,[],()) =
 some (match l.foldl (fun s y=>insF (fun z=>decide (p.ID<z.ID)) p y s) (false,[]) with|(d,o)=>(d,p,o,())):=by
 have h:=whileO_scanI (step:=qbr_L6) (fun (i:Nat) (s:Bool×List Patron)=>s.2.length≤i+(bif s.1 then 1 else 0)) (fun i s=>(l,s.1,(i:Int),p,s.2,())) l
  (fun i y s=>.inl (insF (fun z=>decide (p.ID<z.ID)) p y s)) (fun s=>(s.1,p,s.2,())) (by rw[FUEL_eq];omega)
  (fun s _=>by simp only[qbr_L6,dge,cond_false])
  (fun i y s hx hi=>by
   have hlt:=(List.getElem?_eq_some_iff.1 hx).1
   obtain ⟨d,o⟩:=s
   simp only at hi
   have hi2:o.length≤i+1:=by cases d<;>simp at hi<;>omega
   have l1:decide (o.length+([p]:List Patron).length≤LIM)=true:=lim_ok (by simp;omega)
   have l2:decide ((o++([p]:List Patron)).length+([y]:List Patron).length≤LIM)=true:=lim_ok (by simp;omega)
   have l3:decide (o.length+([y]:List Patron).length≤LIM)=true:=lim_ok (by simp;omega)
   refine ⟨?_,fun s' hs'=>?_⟩
   ·simp -zeta only[qbr_L6,dlt hlt,getI_nat,hx,k_and,cond_true,l1,l2,l3,wr_succ (show i<9223372036854775807 by omega)]
    unfold insF
    dsimp only
    cases (!d&&decide (p.ID<y.ID))<;>rfl
   ·cases hs'
    unfold insF
    dsimp only
    cases d<;>cases decide (p.ID<y.ID)<;>simp at hi ⊢<;>omega) (false,[]) (by simp)
 rw[scanT_fold]at h
 exact h
def addP (l:List Patron) (p:Patron):List Patron×Int:=
 bif decide (0≤fIdx (fun z=>z.ID==p.ID) l) then ([],7)
 else bif !(patronsErr (insS (fun z=>decide (p.ID<z.ID)) p l)==0) then ([],patronsErr (insS (fun z=>decide (p.ID<z.ID)) p l)) else (insS (fun z=>decide (p.ID<z.ID)) p l,0)
theorem clone_ok {X:Type} {s:List X} (h:s.length<1000000000):decide (([]:List X).length+s.length≤LIM)=true:=lim_ok (by simp;omega)
theorem qar_eq {l:List Patron} {p:Patron} (hl:l.length<100000000) (hn:∀x∈l,x.Name.length<10000000) (hp:p.Name.length<10000000):qar l p=some (addP l p):=by
 have hl2:l.length<1000000000:=by omega
 have hi:(insS (fun z=>decide (p.ID<z.ID)) p l).length<1000000000:=by rw[insS_length];omega
 have hin:∀x∈insS (fun z=>decide (p.ID<z.ID)) p l,x.Name.length<10000000:=fun x hx=>by
  rcases insS_mem hx with rfl|h
  ·exact hp
  ·exact hn x h
 unfold qar qah addP
 rw[ql_any (p:=fun (g:Unit×Int×Unit) x0=>qc4 x0 g.2.1) (g:=((),(p.ID,()))) (fun x=>x.ID==p.ID) hl2 (fun x _=>rfl)]
 dsimp only
 cases decide (0≤fIdx (fun z:Patron=>z.ID==p.ID) l) with
 |true=>rfl
 |false=>
  simp -zeta only[cond_false]
  rw[ql_any (p:=fun (g:Unit×Patron×Unit) x0=>qdd x0 g.2.1) (g:=((),(p,()))) (fun z=>decide (p.ID<z.ID)) hl2 (fun x _=>rfl)]
  dsimp only
  have hc:qcs l=some l:=by unfold qcs;rw[clone_ok hl2];rfl
  have e:=insertO_ins (p:=fun z:Patron=>decide (p.ID<z.ID)) (x:=p) hl2
  simp -zeta only[hc]
  have hi2:∀i:Int,qe9 l i [p]=insertO l i [p]:=fun _=>rfl
  cases hb:decide (fIdx (fun z:Patron=>decide (p.ID<z.ID)) l<0) with
  |true=>
   rw[hb,cond_true]at e
   simp only[cond_true,hi2,e,qd1,qap_eq hi hin]
   cases patronsErr (insS (fun z=>decide (p.ID<z.ID)) p l)==0<;>rfl
  |false=>
   rw[hb,cond_false]at e
   simp only[cond_false,hi2,e,qd1,qap_eq hi hin]
   cases patronsErr (insS (fun z=>decide (p.ID<z.ID)) p l)==0<;>rfl
theorem qbr_eq {l:List Patron} {p:Patron} (hl:l.length<100000000) (hn:∀x∈l,x.Name.length<10000000) (hp:p.Name.length<10000000):qbr l p=some (addP l p):=by
 have hl2:l.length<1000000000:=by omega
 have hi:(insS (fun z=>decide (p.ID<z.ID)) p l).length<1000000000:=by rw[insS_length];omega
 have hin:∀x∈insS (fun z=>decide (p.ID<z.ID)) p l,x.Name.length<10000000:=fun x hx=>by
  rcases insS_mem hx with rfl|h
  ·exact hp
  ·exact hn x h
 unfold qbr addP
 rw[qaw_eq hl2]
 dsimp only
 cases decide (0≤fIdx (fun z:Patron=>z.ID==p.ID) l) with
 |true=>rfl
 |false=>
  simp only[cond_false,qbr_L6_run hl2]
  have hlen:=insF_length (p:=fun z:Patron=>decide (p.ID<z.ID)) (x:=p) (l:=l) (s:=(false,[]))
  have hf:=insF_fold (p:=fun z:Patron=>decide (p.ID<z.ID)) (x:=p) (l:=l) (o:=[])
  rw[List.nil_append]at hf
  cases hq:l.foldl (fun s y=>insF (fun z=>decide (p.ID<z.ID)) p y s) (false,[]) with
  |mk d o=>
   rw[hq]at hf hlen
   simp only[List.length_nil,Nat.zero_add,cond_false]at hf hlen
   have l1:decide (o.length+([p]:List Patron).length≤LIM)=true:=lim_ok (by simp;omega)
   cases d with
   |false=>
    simp only[Bool.not_false,cond_true]at hf
    simp only[Bool.not_false,cond_true,l1,hf,qao_eq hi hin]
    cases patronsErr (insS (fun z=>decide (p.ID<z.ID)) p l)==0<;>rfl
   |true=>
    simp only[Bool.not_true,cond_false]at hf
    simp only[Bool.not_true,cond_false,hf,qao_eq hi hin]
    cases patronsErr (insS (fun z=>decide (p.ID<z.ID)) p l)==0<;>rfl
def noCirc:Circ:=⟨0,[],[],[],[],[],[],⟨⟨0,[]⟩,⟨0,[]⟩,⟨0,[]⟩,⟨0,[]⟩⟩,[],0,0,false⟩
theorem noCirc_short:Short noCirc:=by
 constructor<;>first|(show (0:Nat)<_;decide)|(intro x hx;cases hx)
def withItems (c:Circ) (l:List Item):Circ:=⟨c.Today,l,c.Patrons,c.Loans,c.Holds,c.Charges,c.Rules,c.Cals,c.Moves,c.NextHold,c.NextCharge,c.Local⟩
def withPatrons (c:Circ) (l:List Patron):Circ:=⟨c.Today,c.Items,l,c.Loans,c.Holds,c.Charges,c.Rules,c.Cals,c.Moves,c.NextHold,c.NextCharge,c.Local⟩
def startI (x:Item):Item:=⟨x.ID,x.Record,x.Branch,x.Kind,x.Price,x.Call,⟨1,x.Branch,0,0⟩⟩
def addI (c:Circ) (x:Item):Circ×Int:=
 bif decide (0≤fIdx (fun z=>z.ID==x.ID) c.Items) then (noCirc,7)
 else bif decide (64≤(c.Items.length:Int)) then (noCirc,13)
 else bif !(rightB (withItems c (insS (fun z=>decide (x.ID<z.ID)) (startI x) c.Items))) then (noCirc,1) else (withItems c (insS (fun z=>decide (x.ID<z.ID)) (startI x) c.Items),0)
theorem withItems_short {c:Circ} {x:Item} {p:Item→Bool} (hs:Short c) (hl:c.Items.length<100000000) (hx:x.Call.length<10000000):Short (withItems c (insS p (startI x) c.Items)):=by
 obtain ⟨h1,h2,h3,h4,h5,h6,h7,h8,h9,h10,h11,h12,h13⟩:=hs
 refine ⟨?_,h2,h3,h4,h5,h6,h7,fun z hz=>?_,h9,h10,h11,h12,h13⟩
 ·show (insS p (startI x) c.Items).length<_
  rw[insS_length];omega
 ·rcases insS_mem hz with rfl|h
  ·exact hx
  ·exact h8 z h
theorem qai_eq {c:Circ} {x:Item} (hs:Short c) (hl:c.Items.length<100000000) (hx:x.Call.length<10000000):qai c x=some (addI c x):=by
 have hr:=qdj_eq (withItems_short (p:=fun z=>decide (x.ID<z.ID)) hs hl hx)
 unfold qai addI
 rw[qaa_eq hs.items]
 dsimp only
 cases decide (0≤fIdx (fun z:Item=>z.ID==x.ID) c.Items) with
 |true=>rfl
 |false=>
  simp -zeta only[cond_false]
  cases decide (64≤(c.Items.length:Int)) with
  |true=>rfl
  |false=>
   simp -zeta only[cond_false,qc9]
   rw[qd_any (p:=fun (g:Unit×Item×Unit) x0=>qc7 x0 g.2.1) (g:=((),(x,()))) (fun z=>decide (x.ID<z.ID)) hs.items (fun x _=>rfl)]
   have hc:qcc c.Items=some c.Items:=by unfold qcc;rw[clone_ok hs.items];rfl
   have e:=insertO_ins (p:=fun z:Item=>decide (x.ID<z.ID)) (x:=startI x) hs.items
   simp -zeta only[hc]
   have hi:∀i:Int,qfb c.Items i [startI x]=insertO c.Items i [startI x]:=fun _=>rfl
   cases hb:decide (fIdx (fun z:Item=>decide (x.ID<z.ID)) c.Items<0) with
   |true=>
    rw[hb,cond_true]at e
    try dsimp only
    simp only[cond_true]
    rw[show ([(⟨x.ID,x.Record,x.Branch,x.Kind,x.Price,x.Call,⟨1,x.Branch,0,0⟩⟩:Item)]:List Item)=[startI x] from rfl,hi,e]
    try dsimp only
    rw[show qdj (⟨c.Today,insS (fun z=>decide (x.ID<z.ID)) (startI x) c.Items,c.Patrons,c.Loans,c.Holds,c.Charges,c.Rules,c.Cals,c.Moves,c.NextHold,c.NextCharge,c.Local⟩:Circ)=_ from hr]
    try dsimp only
    cases rightB (withItems c (insS (fun z=>decide (x.ID<z.ID)) (startI x) c.Items))<;>rfl
   |false=>
    rw[hb,cond_false]at e
    try dsimp only
    simp only[cond_false]
    rw[show ([(⟨x.ID,x.Record,x.Branch,x.Kind,x.Price,x.Call,⟨1,x.Branch,0,0⟩⟩:Item)]:List Item)=[startI x] from rfl,hi,e]
    try dsimp only
    rw[show qdj (⟨c.Today,insS (fun z=>decide (x.ID<z.ID)) (startI x) c.Items,c.Patrons,c.Loans,c.Holds,c.Charges,c.Rules,c.Cals,c.Moves,c.NextHold,c.NextCharge,c.Local⟩:Circ)=_ from hr]
    try dsimp only
    cases rightB (withItems c (insS (fun z=>decide (x.ID<z.ID)) (startI x) c.Items))<;>rfl
theorem qbm_eq {c:Circ} {x:Item} (hs:Short c) (hl:c.Items.length<100000000) (hx:x.Call.length<10000000):qbm c x=some (addI c x):=by
 have hr:=qs_eq (withItems_short (p:=fun z=>decide (x.ID<z.ID)) hs hl hx)
 unfold qbm addI
 rw[qag_eq hs.items]
 dsimp only
 cases decide (0≤fIdx (fun z:Item=>z.ID==x.ID) c.Items) with
 |true=>rfl
 |false=>
  simp only[cond_false]
  cases decide (64≤(c.Items.length:Int)) with
  |true=>rfl
  |false=>
   simp only[cond_false,qdk]
   have hw:=qbm_L9_run (c:=c) (v:=noCirc) (x:=startI x) hs.items
   rw[show whileO qbm_L9 (false,0,c,(⟨x.ID,x.Record,x.Branch,x.Kind,x.Price,x.Call,⟨1,x.Branch,0,0⟩⟩:Item),(⟨0,[],[],[],[],[],[],⟨⟨0,[]⟩,⟨0,[]⟩,⟨0,[]⟩,⟨0,[]⟩⟩,[],0,0,false⟩:Circ),([]:List Item),())=_ from hw]
   have hlen:=insF_length (p:=fun z:Item=>decide (x.ID<z.ID)) (x:=startI x) (l:=c.Items) (s:=(false,[]))
   have hf:=insF_fold (p:=fun z:Item=>decide (x.ID<z.ID)) (x:=startI x) (l:=c.Items) (o:=[])
   rw[List.nil_append]at hf
   rw[show (fun s y=>insF (fun z:Item=>decide ((startI x).ID<z.ID)) (startI x) y s)=(fun s y=>insF (fun z:Item=>decide (x.ID<z.ID)) (startI x) y s) from rfl]
   cases hq:c.Items.foldl (fun s y=>insF (fun z=>decide (x.ID<z.ID)) (startI x) y s) (false,[]) with
   |mk d o=>
    rw[hq]at hf hlen
    simp only[List.length_nil,Nat.zero_add,cond_false]at hf hlen
    have:=hs.items
    have l1:decide (o.length+([startI x]:List Item).length≤LIM)=true:=lim_ok (by simp;omega)
    cases d with
    |false=>
     simp only[Bool.not_false,cond_true]at hf
     simp only[Bool.not_false,cond_true,l1,hf]
     rw[show qs (⟨c.Today,insS (fun z=>decide (x.ID<z.ID)) (startI x) c.Items,c.Patrons,c.Loans,c.Holds,c.Charges,c.Rules,c.Cals,c.Moves,c.NextHold,c.NextCharge,c.Local⟩:Circ)=_ from hr]
     dsimp only
     cases rightB (withItems c (insS (fun z=>decide (x.ID<z.ID)) (startI x) c.Items))<;>rfl
    |true=>
     simp only[Bool.not_true,cond_false]at hf
     simp only[Bool.not_true,cond_false,hf]
     rw[show qs (⟨c.Today,insS (fun z=>decide (x.ID<z.ID)) (startI x) c.Items,c.Patrons,c.Loans,c.Holds,c.Charges,c.Rules,c.Cals,c.Moves,c.NextHold,c.NextCharge,c.Local⟩:Circ)=_ from hr]
     dsimp only
     cases rightB (withItems c (insS (fun z=>decide (x.ID<z.ID)) (startI x) c.Items))<;>rfl
theorem plainCircAdds (c:Circ) (x:Item) (p:Patron):qe6 c x p=some true:=by
 unfold qe6
 simp -zeta only[k_or,qev_eq,alive_eq]
 dsimp only
 cases hb:(!(smallB c&&rightB c)||decide (300<(x.Call.length:Int))||decide (300<(p.Name.length:Int))) with
 |true=>rfl
 |false=>
  simp only[Bool.or_eq_false_iff,Bool.not_eq_false',Bool.and_eq_true,decide_eq_false_iff_not]at hb
  obtain ⟨⟨⟨h1,h2⟩,h3⟩,h4⟩:=hb
  have hp:=smallP h1
  have hs:=hp.short
  have i1:=hp.items
  have i2:=hp.patrons
  have hx:x.Call.length<10000000:=by omega
  have hn:p.Name.length<10000000:=by omega
  have hpe:=qar_eq (l:=c.Patrons) (p:=p) (by omega) hs.name hn
  have hre:=qbr_eq (l:=c.Patrons) (p:=p) (by omega) hs.name hn
  have hie:=qai_eq (x:=x) hs (by omega) hx
  have hje:=qbm_eq (x:=x) hs (by omega) hx
  have s1:qb (addI c x).1 (addI c x).1=some true:=by
   apply qb_refl
   unfold addI
   cases decide (0≤fIdx (fun z:Item=>z.ID==x.ID) c.Items) with
   |true=>exact noCirc_short
   |false=>
    cases decide (64≤(c.Items.length:Int)) with
    |true=>exact noCirc_short
    |false=>
     cases (!(rightB (withItems c (insS (fun z=>decide (x.ID<z.ID)) (startI x) c.Items)))) with
     |true=>exact noCirc_short
     |false=>exact withItems_short hs (by omega) hx
  have pe:∃a e,qc1 c p=some (a,e)∧qd3 c p=some (a,e)∧Short a:=by
   unfold qc1 qd3
   rw[hpe,hre]
   cases hq:addP c.Patrons p with
   |mk l e=>
    dsimp only
    cases he:!(e==0) with
    |true=>exact ⟨noCirc,e,rfl,rfl,noCirc_short⟩
    |false=>
     refine ⟨withPatrons c l,0,rfl,rfl,?_⟩
     have hl:l=insS (fun z=>decide (p.ID<z.ID)) p c.Patrons:=by
      unfold addP at hq
      cases h1:decide (0≤fIdx (fun z:Patron=>z.ID==p.ID) c.Patrons) with
      |true=>rw[h1]at hq;cases hq;cases he
      |false=>
       rw[h1]at hq
       simp only[cond_false]at hq
       cases h2:!(patronsErr (insS (fun z=>decide (p.ID<z.ID)) p c.Patrons)==0) with
       |true=>rw[h2]at hq;cases hq;rw[h2]at he;cases he
       |false=>rw[h2]at hq;cases hq;rfl
     obtain ⟨h1,h2,h3,h4,h5,h6,h7,h8,h9,h10,h11,h12,h13⟩:=hs
     refine ⟨h1,?_,h3,h4,h5,h6,h7,h8,fun z hz=>?_,h10,h11,h12,h13⟩
     ·show l.length<_
      rw[hl,insS_length];omega
     ·have hz':z∈l:=hz
      rw[hl]at hz'
      rcases insS_mem hz' with rfl|h
      ·exact hn
      ·exact h9 z h
  obtain ⟨a,e,q1,q2,q3⟩:=pe
  simp -zeta only[cond_false,hie,hje,q1,q2,qb_refl q3,s1,k_and]
  simp
end Go.Proofs.YtdahfgialanmpaaGreatDoor
