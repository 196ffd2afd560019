/- WeedKeeps: a part of the proof of the given statement, which is proved without conditions. -/
import Derived.Test.YtpaidiaknfhclaaGreatDoorK5
import Derived.KernelRfl
set_option linter.all false
namespace Go.Proofs.YtpaidiaknfhclaaGreatDoor
open Ev
open Go (IntKind)
def zaij (state:Int):Bool:=(state==4||state==5||state==8||state==9||state==10)
theorem zll (state:Int):qfi state=some (zaij state):=by
 unfold qfi
 try simp -zeta only[k_or,zaz,zkg,zct,cond_true,cond_false]
 try dsimp only
 try simp only[zct]
 try rfl
def zg0 (c:Custody):Bool:=(bif decide (c.State<1)||decide (12<c.State)||decide (c.Branch<1)||decide (4<c.Branch) then false
 else
  bif c.State==6 then
   decide (0≤c.Who)&&decide (c.Who≤9999)&&decide (1≤c.To)&&decide (c.To≤4)&&!c.To==c.Branch
  else
   bif !c.To==0 then false
   else bif zaij c.State then decide (1≤c.Who)&&decide (c.Who≤9999) else c.Who==0)
theorem zlk (c:Custody):qdu c=some (zg0 c):=by
 unfold qdu
 try simp -zeta only[k_or,zaz,zkg,zct,cond_true,cond_false,zll]
 try dsimp only
 try simp only[zct]
 try rfl
def zig (m:Move):Bool:=(decide (0≤m.Day)&&decide (m.Day≤109572)&&decide (1≤m.Item)&&decide (m.Item≤9999)&&
 decide (1≤m.Kind)&&
 decide (m.Kind≤15)&&
 decide (1≤m.Branch)&&
 decide (m.Branch≤4)&&
 decide (0≤m.Who)&&
 decide (m.Who≤9999))
theorem zn4 (m:Move):qes m=some (zig m):=by
 unfold qes
 try simp -zeta only[k_or,zaz,zkg,zct,cond_true,cond_false,zll,zlk]
 try dsimp only
 try simp only[zct]
 try rfl
def z9u (kind:Int):(List Int):=(bif kind==1 then [1]
 else
  bif kind==2 then [2,5]
  else
   bif kind==3 then [3,5]
   else
    bif kind==4 then [4,8,9,10]
    else
     bif kind==5||kind==8 then [2,3]
     else
      bif kind==6 then [2,3,5]
      else
       bif kind==7 then [6]
       else
        bif kind==9 then [7]
        else
         bif kind==10 then [3]
         else
          bif kind==11 then [4]
          else
           bif kind==12 then [4,9]
           else
            bif kind==13 then [2,3,5,6,7]
            else bif kind==14 then [11] else bif kind==15 then [1,2,3,11,10] else [])
theorem zs1 (kind:Int):qcy kind=some (z9u kind):=by
 unfold qcy
 try simp -zeta only[k_or,zaz,zkg,zct,cond_true,cond_false,zll,zlk,zn4]
 try dsimp only
 try simp only[zct]
 try rfl
def zc6 (kind:Int):Int:=(bif kind==1||(kind==4||(kind==7||(kind==9||kind==14))) then 2
 else
  bif kind==2 then 3
  else
   bif kind==3 then 4
   else
    bif kind==5 then 5
    else
     bif kind==6 then 6
     else
      bif kind==8 then 7
      else
       bif kind==10 then 8
       else bif kind==11 then 9 else bif kind==12 then 10 else bif kind==13 then 11 else 12)
theorem zzk (kind:Int):qfm kind=some (zc6 kind):=by
 unfold qfm
 try simp -zeta only[k_or,zaz,zkg,zct,cond_true,cond_false,zll,zlk,zn4,zs1]
 try dsimp only
 try simp only[zct]
 try rfl
def zs3 (c:Custody) (m:Move):Bool:=(bif m.Kind==1||(m.Kind==4||(m.Kind==9||m.Kind==14)) then m.Who==0
 else
  bif m.Kind==7 then m.Who==0&&m.Branch==c.To
  else
   bif m.Kind==6 then !m.Branch==c.Branch
   else
    bif m.Kind==3||(m.Kind==5||m.Kind==10) then m.Branch==c.Branch&&decide (1≤m.Who)
    else m.Branch==c.Branch&&m.Who==0)
theorem z9v (c:Custody) (m:Move):qdg c m=some (zs3 c m):=by
 unfold qdg
 try simp -zeta only[k_or,zaz,zkg,zct,cond_true,cond_false,zll,zlk,zn4,zs1,zzk]
 try dsimp only
 try simp only[zct]
 try rfl
def zif (branch:Int):Custody:={State:=1,Branch:=branch,Who:=0,To:=0}
theorem zamn (branch:Int):qdt branch=some (zif branch):=by
 unfold qdt
 try simp -zeta only[k_or,zaz,zkg,zct,cond_true,cond_false,zll,zlk,zn4,zs1,zzk,z9v]
 try dsimp only
 try simp only[zct]
 try rfl
def zht (u:Custody):Bool:=(u.State==4||u.State==9||u.State==10)
theorem zamr (u:Custody):qen u=some (zht u):=by
 unfold qen
 try simp -zeta only[k_or,zaz,zkg,zct,cond_true,cond_false,zll,zlk,zn4,zs1,zzk,z9v,zamn]
 try dsimp only
 try simp only[zct]
 try rfl
end Go.Proofs.YtpaidiaknfhclaaGreatDoor
namespace Go.Proofs.YtpaidiaknfhclaaGreatDoor
open Ev
open Go (IntKind)
theorem hasX {X:Type} {p:X→Bool}:∀{l:List X} {i:Nat},zer p (fun _ _=>true) false i l=l.any p:=by
 intro l
 induction l with
 |nil=>intros;rfl
 |cons x l ih=>intro i;simp only[zer,List.any_cons];cases p x with|true=>rfl|false=>rw[cond_false,ih,Bool.false_or]
def zg5 (state kind:Int):Bool:=(z9u kind).any (fun x=>x==state)
theorem zafi {X:Type} {b:Bool} {x y:List X} {n:Nat} (hx:x.length<n) (hy:y.length<n):(bif b then x else y).length<n:=by cases b<;>assumption
theorem z2y (kind:Int):(z9u kind).length<10:=by
 unfold z9u
 repeat' first|apply zafi|decide
theorem za2e (state kind:Int):qap state kind=some (zg5 state kind):=by
 unfold qap zg5
 rw[zs1]
 have hl:=z2y kind
 generalize z9u kind=l at hl ⊢
 have h:=zbh (step:=znw) (fun i=>(state,l,(i:Int),())) l (fun x=>x==state) (fun _ _=>(.inr (true,()):Unit⊕(Bool×Unit))) (.inl ()) (by omega)
  (by simp only[znw,dge,cond_false])
  (fun i x hx=>by
   have hi:=(List.getElem?_eq_some_iff.1 hx).1
   simp only[znw,dlt hi,zaj,hx,cond_true,zam (show i<9223372036854775807 by omega)])
 dsimp only
 rw[show zae znw (state,l,0,())=_ from h,←hasX (i:=0)]
 have key:∀(l:List Int) (i:Nat),(match some (zer (fun x=>x==state) (fun _ _=>(.inr (true,()):Unit⊕(Bool×Unit))) (.inl ()) i l) with|some (.inl _)=>some false|some (.inr (v,_))=>some v|none=>none)=some (zer (fun x=>x==state) (fun _ _=>true) false i l):=by
  intro l
  induction l with
  |nil=>intro i;rfl
  |cons x l ih=>intro i;simp only[zer];cases x==state with|true=>rfl|false=>exact ih _
 exact key l 0
def zav (c:Custody) (m:Move):Custody×Int:=
 bif !(zg0 c)||!(zig m) then (⟨0,0,0,0⟩,1)
 else bif !(zg5 c.State m.Kind) then (⟨0,0,0,0⟩,12)
 else bif m.Kind==3&&c.State==5&&!(m.Who==c.Who) then (⟨0,0,0,0⟩,16)
 else bif !(zs3 c m) then (⟨0,0,0,0⟩,1)
 else bif zc6 m.Kind==2 then (⟨zc6 m.Kind,m.Branch,0,0⟩,0)
 else bif zc6 m.Kind==4||(zc6 m.Kind==5||zc6 m.Kind==8) then (⟨zc6 m.Kind,c.Branch,m.Who,0⟩,0)
 else bif zc6 m.Kind==6 then (⟨zc6 m.Kind,c.Branch,m.Who,m.Branch⟩,0)
 else bif zc6 m.Kind==9||zc6 m.Kind==10 then (⟨zc6 m.Kind,c.Branch,c.Who,0⟩,0)
 else (⟨zc6 m.Kind,c.Branch,0,0⟩,0)
theorem zama (c:Custody) (m:Move):qcc c m=some (zav c m):=by
 unfold qcc zav
 simp -zeta only[k_or,zaz,zkg,zlk,zn4,za2e,z9v,zzk]
 dsimp only
 simp only[zct]
def za8:Nat→List Move→Int→Custody→(Custody⊕(Int×Int))
 |_,[],_,c=>.inl c
 |i,x::l,item,c=>bif x.Item==item then (bif (zav c x).2==0 then za8 (i+1) l item (zav c x).1 else .inr ((i:Int),(zav c x).2)) else za8 (i+1) l item c
def zbf (branch:Int) (l:List Move) (item:Int):Custody×Int×Int:=
 bif decide (branch<1)||decide (4<branch) then (⟨0,0,0,0⟩,-1,1)
 else match za8 0 l item (zif branch) with
  |.inl c=>(c,-1,0)
  |.inr (i,e)=>(⟨0,0,0,0⟩,i,e)
theorem zlv {β:Type} (item:Int) (fin:Custody→β) (out:Int×Int→β):∀(l:List Move) (i:Nat) (c:Custody),
 zfw (fun i x c=>bif x.Item==item then (bif (zav c x).2==0 then .inl (zav c x).1 else .inr (out ((i:Int),(zav c x).2))) else .inl c) fin i l c=(match za8 i l item c with | .inl c=>fin c | .inr p=>out p):=by
 intro l
 induction l with
 |nil=>intros;rfl
 |cons x l ih=>
  intro i c
  simp only[zfw,za8]
  cases x.Item==item with
  |false=>exact ih _ _
  |true=>
   simp only[cond_true]
   cases (zav c x).2==0 with
   |true=>exact ih _ _
   |false=>rfl
theorem za2f {branch:Int} {l:List Move} {item:Int} (hl:l.length<1000000000):qaq branch l item=some (zbf branch l item):=by
 unfold qaq zbf
 simp -zeta only[k_or,zamn]
 dsimp only
 have h:=zdn (step:=znx) (fun i c=>(l,item,(i:Int),(⟨0,0,0,0⟩:Custody),c,())) l
  (fun i x c=>bif x.Item==item then (bif (zav c x).2==0 then .inl (zav c x).1 else .inr (.inr ((i:Int),(zav c x).2,(⟨0,0,0,0⟩:Custody),()))) else .inl c)
  (fun c=>.inl (⟨0,0,0,0⟩,c,())) (by show l.length<18446744073709551616;omega) (fun c=>by simp only[znx,dge,cond_false])
  (fun i x c hx=>by
   have hi:=(List.getElem?_eq_some_iff.1 hx).1
   simp only[znx,dlt hi,zaj,hx,cond_true,zama,zam (show i<9223372036854775807 by omega)]
   cases x.Item==item with
   |false=>rfl
   |true=>
    simp only[Bool.not_true,cond_false,cond_true]
    obtain ⟨d,e⟩:=zav c x
    cases he:e==0 with
    |true=>rfl
    |false=>rfl) (zif branch)
 rw[zlv item (fun c=>(.inl (⟨0,0,0,0⟩,c,()):(Custody×Custody×Unit)⊕(Int×Int×Custody×Unit))) (fun p=>.inr (p.1,p.2,(⟨0,0,0,0⟩:Custody),()))]at h
 rw[show zae znx (l,item,0,(⟨0,0,0,0⟩:Custody),zif branch,())=_ from h]
 cases (decide (branch<1)||decide (4<branch)) with
 |true=>rfl
 |false=>
  simp only[cond_false]
  cases za8 0 l item (zif branch) with
  |inl c=>rfl
  |inr p=>rfl
end Go.Proofs.YtpaidiaknfhclaaGreatDoor
namespace Go.Proofs.YtpaidiaknfhclaaGreatDoor
open Ev
open Go (IntKind)
theorem zbq {X:Type} (p:X→Bool) (l:List X):(fIdx p l = -1∧l.find? p=none)∨∃(i:Nat) (x:X),fIdx p l=(i:Int)∧l[i]?=some x∧p x=true∧l.find? p=some x:=by
 unfold fIdx
 induction l with
 |nil=>exact .inl ⟨rfl,rfl⟩
 |cons y l ih=>
  simp only[List.findIdx?_cons,List.find?_cons]
  cases hp:p y with
  |true=>exact .inr ⟨0,y,rfl,rfl,hp,rfl⟩
  |false=>
   simp only[Bool.false_eq_true,if_false]
   rcases ih with ⟨h1,h2⟩|⟨i,x,h1,h2,h3,h4⟩
   ·left
    refine ⟨?_,h2⟩
    cases hf:l.findIdx? p with
    |none=>rfl
    |some k=>rw[hf]at h1;simp only at h1;omega
   ·right
    refine ⟨i+1,x,?_,by simpa using h2,h3,h4⟩
    cases hf:l.findIdx? p with
    |none=>rw[hf]at h1;simp only at h1;omega
    |some k=>rw[hf]at h1;simp only[Option.map_some]at h1 ⊢;omega
theorem zh3:decide ((-1:Int)<0)=true:=rfl
theorem zgu {i:Nat}:decide ((i:Int)<0)=false:=by rw[decide_eq_false_iff_not];omega
def getP (l:List Patron) (id:Int):Patron×Bool:=match l.find? (fun p=>p.ID==id) with|some p=>(p,true)|none=>(⟨0,0,0,0,false,[]⟩,false)
def zc8 (l:List Loan) (item:Int):Loan×Bool:=match l.find? (fun n=>n.Item==item) with|some n=>(n,true)|none=>(⟨0,0,0,0,0,false⟩,false)
def z9d:Hold:=⟨0,0,0,0,0,0,0,0,0,0,0⟩
def ze3 (c:Circ) (item:Int):Hold×Bool:=match c.Holds.find? (fun h=>h.Got==item) with|some h=>(h,true)|none=>(z9d,false)
theorem z91 {c:Circ} {item:Int} (hl:c.Items.length<1000000000):qp c item=some (fIdx (fun x=>x.ID==item) c.Items):=by
 unfold qp
 have h:=zbh (step:=z2i) (fun i=>(item,(i:Int),c,())) c.Items (fun x=>x.ID==item) (fun i _=>(.inr ((i:Int),()):Unit⊕(Int×Unit))) (.inl ()) hl
  (by simp only[z2i,dge,cond_false])
  (fun i x hx=>by
   have hi:=(List.getElem?_eq_some_iff.1 hx).1
   simp only[z2i,dlt hi,zaj,hx,cond_true,zam (show i<9223372036854775807 by omega)])
 rw[show zae z2i (item,0,c,())=_ from h,←zcr]
 have:=zb3 (p:=fun x:Item=>x.ID==item) (g:=fun i _=>(.inr ((i:Int),()):Unit⊕(Int×Unit))) (d:=.inl ()) (fun z=>match (some z:Option (Unit⊕(Int×Unit))) with|some (.inl _)=>some (-1)|some (.inr (v,_))=>some v|none=>none) (l:=c.Items) (i:=0)
 exact this.trans ((zb3 (p:=fun x:Item=>x.ID==item) (g:=fun i _=>(i:Int)) (d:=-1) (fun z=>some z) (l:=c.Items) (i:=0)).symm)
theorem zjf {c:Circ} {item:Int} (hl:c.Items.length<1000000000):(qp c item=some (-1)∧c.Items.find? (fun x=>x.ID==item)=none)∨
 ∃(i:Nat) (x:Item),qp c item=some (i:Int)∧c.Items[i]?=some x∧x.ID=item∧c.Items.find? (fun x=>x.ID==item)=some x:=by
 rw[z91 hl]
 rcases zbq (fun x:Item=>x.ID==item) c.Items with ⟨h1,h2⟩|⟨i,x,h1,h2,h3,h4⟩
 ·exact .inl ⟨by rw[h1],h2⟩
 ·exact .inr ⟨i,x,by rw[h1],h2,by simpa using h3,h4⟩
theorem za2j {l:List Patron} {id:Int} (hl:l.length<1000000000):qaw l id=some (fIdx (fun x=>x.ID==id) l):=by
 unfold qaw
 have h:=zbh (step:=znz) (fun i=>(l,id,(i:Int),())) l (fun x=>x.ID==id) (fun i _=>(.inr ((i:Int),()):Unit⊕(Int×Unit))) (.inl ()) hl
  (by simp only[znz,dge,cond_false])
  (fun i x hx=>by
   have hi:=(List.getElem?_eq_some_iff.1 hx).1
   simp only[znz,dlt hi,zaj,hx,cond_true,zam (show i<9223372036854775807 by omega)])
 rw[show zae znz (l,id,0,())=_ from h,←zcr]
 have:=zb3 (p:=fun x:Patron=>x.ID==id) (g:=fun i _=>(.inr ((i:Int),()):Unit⊕(Int×Unit))) (d:=.inl ()) (fun z=>match (some z:Option (Unit⊕(Int×Unit))) with|some (.inl _)=>some (-1)|some (.inr (v,_))=>some v|none=>none) (l:=l) (i:=0)
 exact this.trans ((zb3 (p:=fun x:Patron=>x.ID==id) (g:=fun i _=>(i:Int)) (d:=-1) (fun z=>some z) (l:=l) (i:=0)).symm)
theorem zs0 {l:List Patron} {id:Int} (hl:l.length<1000000000):qcb l id=some (getP l id):=by
 unfold qcb getP
 rw[za2j hl]
 rcases zbq (fun x:Patron=>x.ID==id) l with ⟨h1,h2⟩|⟨i,x,h1,h2,h3,h4⟩
 ·simp only[h1,h2,zh3,cond_true]
 ·simp only[h1,h4,zgu,cond_false,zaj,h2]
theorem zalo {l:List Loan} {id:Int} (hl:l.length<1000000000):qak l id=some (fIdx (fun x=>x.Item==id) l):=by
 unfold qak
 have h:=zbh (step:=znu) (fun i=>(l,id,(i:Int),())) l (fun x=>x.Item==id) (fun i _=>(.inr ((i:Int),()):Unit⊕(Int×Unit))) (.inl ()) hl
  (by simp only[znu,dge,cond_false])
  (fun i x hx=>by
   have hi:=(List.getElem?_eq_some_iff.1 hx).1
   simp only[znu,dlt hi,zaj,hx,cond_true,zam (show i<9223372036854775807 by omega)])
 rw[show zae znu (l,id,0,())=_ from h,←zcr]
 have:=zb3 (p:=fun x:Loan=>x.Item==id) (g:=fun i _=>(.inr ((i:Int),()):Unit⊕(Int×Unit))) (d:=.inl ()) (fun z=>match (some z:Option (Unit⊕(Int×Unit))) with|some (.inl _)=>some (-1)|some (.inr (v,_))=>some v|none=>none) (l:=l) (i:=0)
 exact this.trans ((zb3 (p:=fun x:Loan=>x.Item==id) (g:=fun i _=>(i:Int)) (d:=-1) (fun z=>some z) (l:=l) (i:=0)).symm)
theorem za2z {l:List Loan} {id:Int} (hl:l.length<1000000000):qdv l id=some (zc8 l id):=by
 unfold qdv zc8
 rw[zalo hl]
 rcases zbq (fun x:Loan=>x.Item==id) l with ⟨h1,h2⟩|⟨i,x,h1,h2,h3,h4⟩
 ·simp only[h1,h2,zh3,cond_true]
 ·simp only[h1,h4,zgu,cond_false,zaj,h2]
theorem za2i {c:Circ} {item:Int} (hl:c.Holds.length<1000000000):qav c item=some (ze3 c item):=by
 unfold qav ze3
 have h:=zbh (step:=zny) (fun i=>(item,(i:Int),c,z9d,())) c.Holds (fun x=>x.Got==item) (fun _ x=>(.inr (true,x,()):(Hold×Unit)⊕(Bool×Hold×Unit))) (.inl (z9d,())) hl
  (by simp only[zny,dge,cond_false])
  (fun i x hx=>by
   have hi:=(List.getElem?_eq_some_iff.1 hx).1
   simp only[zny,dlt hi,zaj,hx,cond_true,zam (show i<9223372036854775807 by omega)])
 rw[show zae zny (item,0,c,(⟨0,0,0,0,0,0,0,0,0,0,0⟩:Hold),())=_ from h,zm3]
 cases c.Holds.find? (fun x=>x.Got==item)<;>rfl
def zd9 (c:Circ) (i:Nat) (x:Item):Bool:=
 !(decide (x.ID<1)||decide (9999<x.ID)||zbb c.Items i (fun y=>decide (x.ID≤y.ID))||decide (x.Record<1)||decide (9999<x.Record)||decide (x.Branch<1)||decide (4<x.Branch))&&
 !(decide (x.Kind<1)||decide (9<x.Kind)||decide (x.Price<0)||decide (100000000<x.Price)||decide (200<(x.Call.length:Int))||!(vld x.Call))&&
 !(!((zbf x.Branch c.Moves x.ID).2.2==0)||!(za1 (zbf x.Branch c.Moves x.ID).1 x.Custody))
def zfg (c:Circ):Bool:=!(decide (64<(c.Items.length:Int))||decide (2000<(c.Moves.length:Int)))&&(zch (zd9 c) 0 c.Items&&c.Moves.all (fun m=>(c.Items.find? (fun x=>x.ID==m.Item)).isSome))
structure Short (c:Circ):Prop where
 items:c.Items.length<1000000000
 patrons:c.Patrons.length<1000000000
 loans:c.Loans.length<1000000000
 holds:c.Holds.length<1000000000
 charges:c.Charges.length<1000000000
 rules:c.Rules.length<1000000000
 moves:c.Moves.length<1000000000
 call:∀x∈c.Items,x.Call.length<10000000
 name:∀x∈c.Patrons,x.Name.length<10000000
 cal0:c.Cals.x0.Closed.length<1000000000
 cal1:c.Cals.x1.Closed.length<1000000000
 cal2:c.Cals.x2.Closed.length<1000000000
 cal3:c.Cals.x3.Closed.length<1000000000
theorem z15 {c:Circ} (hs:Short c):zae zla (0,c,())=some (bif zch (zd9 c) 0 c.Items then .inl (c,()) else .inr (false,())):=by
 have h:=zat (step:=zla) (fun i=>((i:Int),c,())) c.Items (zd9 c) (.inr (false,())) (.inl (c,())) hs.items
  (by simp only[zla,dge,cond_false])
  (fun i x hx=>by
   have hi:=(List.getElem?_eq_some_iff.1 hx).1
   have hm:=List.mem_of_getElem? hx
   have hv:=zalp (s:=x.Call) (by have:=hs.call x hm;omega)
   have hr:=za2f (branch:=x.Branch) (item:=x.ID) hs.moves
   unfold zd9
   rcases i with _|j
   ·simp -zeta only[zla,dlt hi,zaj,hx,k_or,zaz,zme,cond_false,cond_true,zbb,zam (show 0<9223372036854775807 by omega),hv,hr]
    dsimp only
    generalize (decide (x.ID<1)||decide (9999<x.ID)||false||decide (x.Record<1)||decide (9999<x.Record)||decide (x.Branch<1)||decide (4<x.Branch))=b1
    generalize (decide (x.Kind<1)||decide (9<x.Kind)||decide (x.Price<0)||decide (100000000<x.Price)||decide (200<(x.Call.length:Int))||!(vld x.Call))=b2
    generalize (!((zbf x.Branch c.Moves x.ID).2.2==0)||!(za1 (zbf x.Branch c.Moves x.ID).1 x.Custody))=b3
    cases b1<;>cases b2<;>cases b3<;>rfl
   ·have hj:c.Items[j]?=some c.Items[j]:=List.getElem?_eq_getElem (by omega)
    have:=hs.items
    simp -zeta only[zla,dlt hi,zaj,hx,k_or,zaz,dpos,zep (show j<1000000000 by omega),hj,cond_false,cond_true,Bool.true_and,zbb,zam (show j+1<9223372036854775807 by omega),hv,hr]
    dsimp only
    generalize (decide (x.ID<1)||decide (9999<x.ID)||decide (x.ID≤c.Items[j].ID)||decide (x.Record<1)||decide (9999<x.Record)||decide (x.Branch<1)||decide (4<x.Branch))=b1
    generalize (decide (x.Kind<1)||decide (9<x.Kind)||decide (x.Price<0)||decide (100000000<x.Price)||decide (200<(x.Call.length:Int))||!(vld x.Call))=b2
    generalize (!((zbf x.Branch c.Moves x.ID).2.2==0)||!(za1 (zbf x.Branch c.Moves x.ID).1 x.Custody))=b3
    cases b1<;>cases b2<;>cases b3<;>rfl)
 exact h
theorem zu5 {c:Circ} (hs:Short c):zae zgx (0,c,())=some (bif c.Moves.all (fun m=>(c.Items.find? (fun x=>x.ID==m.Item)).isSome) then .inl () else .inr (false,())):=by
 have h:=zat (step:=zgx) (fun i=>((i:Int),c,())) c.Moves (fun _ m=>(c.Items.find? (fun x=>x.ID==m.Item)).isSome) (.inr (false,())) (.inl ()) hs.moves
  (by simp only[zgx,dge,cond_false])
  (fun i x hx=>by
   have hi:=(List.getElem?_eq_some_iff.1 hx).1
   have:=hs.moves
   simp only[zgx,dlt hi,zaj,hx,cond_true,zam (show i<9223372036854775807 by omega)]
   rcases zjf (item:=x.Item) hs.items with ⟨h1,h2⟩|⟨k,y,h1,h2,h3,h4⟩
   ·simp only[h1,h2,zh3,cond_true,Option.isSome_none,cond_false]
   ·simp only[h1,h4,zgu,cond_false,Option.isSome_some,cond_true])
 rw[show zae zgx (0,c,())=_ from h,zay]
theorem za19 {c:Circ} (hs:Short c):qab c=some (zfg c):=by
 unfold qab zfg
 simp -zeta only[k_or]
 dsimp only
 rw[z15 hs]
 cases (decide (64<(c.Items.length:Int))||decide (2000<(c.Moves.length:Int))) with
 |true=>rfl
 |false=>
  cases zch (zd9 c) 0 c.Items with
  |false=>rfl
  |true=>
   simp only[cond_false,cond_true,zu5 hs]
   cases c.Moves.all (fun m=>(c.Items.find? (fun x=>x.ID==m.Item)).isSome)<;>rfl
def zc9 (c:Circ) (n:Loan):Bool:=match c.Items.find? (fun x=>x.ID==n.Item) with
 |some x=>!(!(getP c.Patrons n.Patron).2||!(zht x.Custody)||!(x.Custody.Who==n.Patron))
 |none=>false
def zcp (c:Circ):Bool:=c.Loans.all (zc9 c)&&c.Items.all (fun x=>(zc8 c.Loans x.ID).2==zht x.Custody)
theorem za18 {c:Circ} (hs:Short c):qaa c=some (zcp c):=by
 have h1:=zat (step:=zk9) (fun i=>((i:Int),c,())) c.Loans (fun _=>zc9 c) (.inr (false,())) (.inl (c,())) hs.loans
  (by simp only[zk9,dge,cond_false])
  (fun i x hx=>by
   have hi:=(List.getElem?_eq_some_iff.1 hx).1
   have:=hs.loans
   unfold zc9
   rcases zjf (item:=x.Item) hs.items with ⟨h1,h2⟩|⟨k,y,h1,h2,h3,h4⟩
   ·simp -zeta only[zk9,dlt hi,zaj,hx,cond_true,k_or,zs0 hs.patrons,h1,h2,zh3,Bool.true_or]
    try rfl
   ·simp -zeta only[zk9,dlt hi,zaj,hx,cond_true,k_or,zs0 hs.patrons,h1,h2,h4,zgu,Bool.false_or,zamr,zam (show i<9223372036854775807 by omega)]
    dsimp only
    cases (!(getP c.Patrons x.Patron).2||!(zht y.Custody)||!(y.Custody.Who==x.Patron))<;>rfl)
 have h2:=zat (step:=zib) (fun i=>((i:Int),c,())) c.Items (fun _ x=>(zc8 c.Loans x.ID).2==zht x.Custody) (.inr (false,())) (.inl ()) hs.items
  (by simp only[zib,dge,cond_false])
  (fun i x hx=>by
   have hi:=(List.getElem?_eq_some_iff.1 hx).1
   have:=hs.items
   simp only[zib,dlt hi,zaj,hx,cond_true,za2z hs.loans,zamr,zam (show i<9223372036854775807 by omega)]
   cases (zc8 c.Loans x.ID).2==zht x.Custody<;>rfl)
 unfold qaa zcp
 rw[show zae zk9 (0,c,())=_ from h1,zay]
 cases c.Loans.all (zc9 c) with
 |false=>rfl
 |true=>
  simp only[cond_true]
  rw[show zae zib (0,c,())=_ from h2,zay]
  cases c.Items.all (fun x=>(zc8 c.Loans x.ID).2==zht x.Custody)<;>rfl
def zd8 (c:Circ) (h:Hold):Bool:=
 !(!(getP c.Patrons h.Patron).2||decide (c.NextHold≤h.ID))&&(h.State==1||(match c.Items.find? (fun x=>x.ID==h.Got) with
  |some x=>!(!(x.Record==h.Record))&&!(h.State==3&&(!(x.Custody.State==5)||!(x.Custody.Branch==h.Pickup)||!(x.Custody.Who==h.Patron)))&&
   !(h.State==2&&(!(x.Custody.State==6)||!(x.Custody.To==h.Pickup)||!(x.Custody.Who==h.Patron)))
  |none=>false))
def zcc (c:Circ) (x:Item):Bool:=!(x.Custody.State==5)||!(!(ze3 c x.ID).2||!((ze3 c x.ID).1.State==3))
def zdw (c:Circ):Bool:=c.Holds.all (zd8 c)&&c.Items.all (zcc c)
theorem za2a {c:Circ} (hs:Short c):qac c=some (zdw c):=by
 have h1:=zat (step:=zlb) (fun i=>((i:Int),c,())) c.Holds (fun _=>zd8 c) (.inr (false,())) (.inl (c,())) hs.holds
  (by simp only[zlb,dge,cond_false])
  (fun i x hx=>by
   have hi:=(List.getElem?_eq_some_iff.1 hx).1
   have:=hs.holds
   unfold zd8
   rcases zjf (item:=x.Got) hs.items with ⟨h1,h2⟩|⟨k,y,h1,h2,h3,h4⟩
   ·simp -zeta only[zlb,dlt hi,zaj,hx,cond_true,k_or,zs0 hs.patrons,h1,h2,zh3,zam (show i<9223372036854775807 by omega)]
    dsimp only
    cases (!(getP c.Patrons x.Patron).2||decide (c.NextHold≤x.ID)) with
    |true=>rfl
    |false=>cases x.State==1<;>rfl
   ·simp -zeta only[zlb,dlt hi,zaj,hx,cond_true,k_or,zaz,zs0 hs.patrons,h1,h2,h4,zgu,cond_false,zam (show i<9223372036854775807 by omega)]
    dsimp only
    generalize (!(getP c.Patrons x.Patron).2||decide (c.NextHold≤x.ID))=b1
    generalize (x.State==1)=b2
    generalize (!(y.Record==x.Record))=b3
    generalize (!(y.Custody.State==5)||!(y.Custody.Branch==x.Pickup)||!(y.Custody.Who==x.Patron))=b4
    generalize (!(y.Custody.State==6)||!(y.Custody.To==x.Pickup)||!(y.Custody.Who==x.Patron))=b5
    generalize (x.State==3)=b6
    generalize (x.State==2)=b7
    cases b1<;>cases b2<;>cases b3<;>cases b4<;>cases b5<;>cases b6<;>cases b7<;>rfl)
 have h2:=zat (step:=zic) (fun i=>((i:Int),c,())) c.Items (fun _=>zcc c) (.inr (false,())) (.inl ()) hs.items
  (by simp only[zic,dge,cond_false])
  (fun i x hx=>by
   have hi:=(List.getElem?_eq_some_iff.1 hx).1
   have:=hs.items
   unfold zcc
   simp -zeta only[zic,dlt hi,zaj,hx,cond_true,k_or,za2i hs.holds,zam (show i<9223372036854775807 by omega)]
   dsimp only
   cases x.Custody.State==5 with
   |false=>rfl
   |true=>
    generalize (!(ze3 c x.ID).2||!((ze3 c x.ID).1.State==3))=b
    cases b<;>rfl)
 unfold qac zdw
 rw[show zae zlb (0,c,())=_ from h1,zay]
 cases c.Holds.all (zd8 c) with
 |false=>rfl
 |true=>
  simp only[cond_true]
  rw[show zae zic (0,c,())=_ from h2,zay]
  cases c.Items.all (zcc c)<;>rfl
end Go.Proofs.YtpaidiaknfhclaaGreatDoor
namespace Go.Proofs.YtpaidiaknfhclaaGreatDoor
open Ev
open Go (IntKind)
def zd6 (c:Circ):Bool:=zbi c.Cals.x0==0&&(zbi c.Cals.x1==0&&(zbi c.Cals.x2==0&&zbi c.Cals.x3==0))
theorem z17 {c:Circ} (hs:Short c):zae zis (0,c,())=some (bif zd6 c then .inl (c,()) else .inr (false,())):=by
 have s0:zis (0,c,())=bif zbi c.Cals.x0==0 then some (.inl (1,c,())) else some (.inr (.inr (false,()))):=by
  show (match qy c.Cals.x0 with|some r=>(bif !(r==0) then (some (.inr (.inr (false,()))):Option ((Int×Circ×Unit)⊕((Circ×Unit)⊕(Bool×Unit)))) else some (.inl (1,c,())))|none=>none)=_
  rw[zaik hs.cal0];dsimp only;cases zbi c.Cals.x0==0<;>rfl
 have s1:zis (1,c,())=bif zbi c.Cals.x1==0 then some (.inl (2,c,())) else some (.inr (.inr (false,()))):=by
  show (match qy c.Cals.x1 with|some r=>(bif !(r==0) then (some (.inr (.inr (false,()))):Option ((Int×Circ×Unit)⊕((Circ×Unit)⊕(Bool×Unit)))) else some (.inl (2,c,())))|none=>none)=_
  rw[zaik hs.cal1];dsimp only;cases zbi c.Cals.x1==0<;>rfl
 have s2:zis (2,c,())=bif zbi c.Cals.x2==0 then some (.inl (3,c,())) else some (.inr (.inr (false,()))):=by
  show (match qy c.Cals.x2 with|some r=>(bif !(r==0) then (some (.inr (.inr (false,()))):Option ((Int×Circ×Unit)⊕((Circ×Unit)⊕(Bool×Unit)))) else some (.inl (3,c,())))|none=>none)=_
  rw[zaik hs.cal2];dsimp only;cases zbi c.Cals.x2==0<;>rfl
 have s3:zis (3,c,())=bif zbi c.Cals.x3==0 then some (.inl (4,c,())) else some (.inr (.inr (false,()))):=by
  show (match qy c.Cals.x3 with|some r=>(bif !(r==0) then (some (.inr (.inr (false,()))):Option ((Int×Circ×Unit)⊕((Circ×Unit)⊕(Bool×Unit)))) else some (.inl (4,c,())))|none=>none)=_
  rw[zaik hs.cal3];dsimp only;cases zbi c.Cals.x3==0<;>rfl
 have s4:zis (4,c,())=some (.inr (.inl (c,()))):=rfl
 refine zfn 5 (by rw[zhy];omega) ?_
 unfold zd6
 simp only[zcw,s0,s1,s2,s3,s4]
 cases zbi c.Cals.x0==0 with
 |false=>rfl
 |true=>
  simp only[cond_true,zcw,s1]
  cases zbi c.Cals.x1==0 with
  |false=>rfl
  |true=>
   simp only[cond_true,zcw,s2]
   cases zbi c.Cals.x2==0 with
   |false=>rfl
   |true=>
    simp only[cond_true,zcw,s3]
    cases zbi c.Cals.x3==0 with
    |false=>rfl
    |true=>simp only[cond_true,zcw,s4];rfl
def zdj (c:Circ) (x:Charge):Bool:=!(!(getP c.Patrons x.Patron).2||decide (c.NextCharge≤x.ID))
theorem zu7 {c:Circ} (hs:Short c):zae zgy (0,c,())=some (bif c.Charges.all (zdj c) then .inl (c,()) else .inr (false,())):=by
 have h:=zat (step:=zgy) (fun i=>((i:Int),c,())) c.Charges (fun _=>zdj c) (.inr (false,())) (.inl (c,())) hs.charges
  (by simp only[zgy,dge,cond_false])
  (fun i x hx=>by
   have hi:=(List.getElem?_eq_some_iff.1 hx).1
   have:=hs.charges
   unfold zdj
   simp -zeta only[zgy,dlt hi,zaj,hx,cond_true,k_or,zs0 hs.patrons,zam (show i<9223372036854775807 by omega)]
   dsimp only
   cases (!(getP c.Patrons x.Patron).2||decide (c.NextCharge≤x.ID))<;>rfl)
 rw[show zae zgy (0,c,())=_ from h,zay]
def zgj (c:Circ):Bool:=!(decide (c.Today<0)||decide (109572<c.Today)||decide (c.NextHold<1)||decide (100000<c.NextHold)||decide (c.NextCharge<1)||decide (100000<c.NextCharge))
def zdx (c:Circ):Bool:=!(!(zce c.Patrons==0)||!(zcl c.Loans==0)||!(zb7 c.Holds==0)||!(zcd c.Charges==0)||!(zda c.Rules==0))
def zel (c:Circ):Bool:=zgj c&&(zdx c&&(zd6 c&&(c.Charges.all (zdj c)&&(zfg c&&(zcp c&&zdw c)))))
theorem za2d {c:Circ} (hs:Short c):qaj c=some (zel c):=by
 unfold qaj zel zgj zdx
 simp -zeta only[k_or,zaz,za2h hs.patrons hs.name,za2g hs.loans,za4x hs.holds,za14 hs.charges,za4w hs.rules]
 dsimp only
 rw[z17 hs]
 generalize (decide (c.Today<0)||decide (109572<c.Today)||decide (c.NextHold<1)||decide (100000<c.NextHold)||decide (c.NextCharge<1)||decide (100000<c.NextCharge))=b1
 generalize (!(zce c.Patrons==0)||!(zcl c.Loans==0)||!(zb7 c.Holds==0)||!(zcd c.Charges==0)||!(zda c.Rules==0))=b2
 cases b1 with
 |true=>rfl
 |false=>
  cases b2 with
  |true=>rfl
  |false=>
   cases zd6 c with
   |false=>rfl
   |true=>
    simp only[cond_false,cond_true,zu7 hs]
    cases c.Charges.all (zdj c) with
    |false=>rfl
    |true=>
     simp -zeta only[cond_false,cond_true,za19 hs,za18 hs,za2a hs,zaz]
     try dsimp only
     cases zfg c<;>cases zcp c<;>cases zdw c<;>rfl
def zl0 (c:Circ):Bool:=
 !(decide (10<(c.Items.length:Int))||decide (8<(c.Patrons.length:Int))||decide (12<(c.Holds.length:Int))||decide (12<(c.Loans.length:Int))||decide (30<(c.Charges.length:Int))||decide (10<(c.Rules.length:Int))||decide (200<(c.Moves.length:Int)))&&
 (c.Items.all (fun x=>!(decide (300<(x.Call.length:Int))))&&(c.Patrons.all (fun x=>!(decide (300<(x.Name.length:Int))))&&
  (!(decide (20<(c.Cals.x0.Closed.length:Int)))&&(!(decide (20<(c.Cals.x1.Closed.length:Int)))&&(!(decide (20<(c.Cals.x2.Closed.length:Int)))&&!(decide (20<(c.Cals.x3.Closed.length:Int))))))))
theorem za4r (c:Circ):qa c=some (zl0 c):=by
 unfold qa zl0
 simp -zeta only[k_or,zaz]
 dsimp only
 cases hb:(decide (10<(c.Items.length:Int))||decide (8<(c.Patrons.length:Int))||decide (12<(c.Holds.length:Int))||decide (12<(c.Loans.length:Int))||decide (30<(c.Charges.length:Int))||decide (10<(c.Rules.length:Int))||decide (200<(c.Moves.length:Int))) with
 |true=>rfl
 |false=>
  simp only[Bool.or_eq_false_iff,decide_eq_false_iff_not]at hb
  have h1:=zat (step:=z13) (fun i=>((i:Int),c,())) c.Items (fun _ x=>!(decide (300<(x.Call.length:Int)))) (.inr (false,())) (.inl (c,())) (by omega)
   (by simp only[z13,dge,cond_false])
   (fun i x hx=>by
    have hi:=(List.getElem?_eq_some_iff.1 hx).1
    simp only[z13,dlt hi,zaj,hx,cond_true,zam (show i<9223372036854775807 by omega)]
    cases decide (300<(x.Call.length:Int))<;>rfl)
  have h2:=zat (step:=z14) (fun i=>((i:Int),c,())) c.Patrons (fun _ x=>!(decide (300<(x.Name.length:Int)))) (.inr (false,())) (.inl (c,())) (by omega)
   (by simp only[z14,dge,cond_false])
   (fun i x hx=>by
    have hi:=(List.getElem?_eq_some_iff.1 hx).1
    simp only[z14,dlt hi,zaj,hx,cond_true,zam (show i<9223372036854775807 by omega)]
    cases decide (300<(x.Name.length:Int))<;>rfl)
  have h3:zae zir (0,c,())=some (bif (!(decide (20<(c.Cals.x0.Closed.length:Int)))&&(!(decide (20<(c.Cals.x1.Closed.length:Int)))&&(!(decide (20<(c.Cals.x2.Closed.length:Int)))&&!(decide (20<(c.Cals.x3.Closed.length:Int)))))) then .inl () else .inr (false,())):=by
   have s0:zir (0,c,())=bif decide (20<(c.Cals.x0.Closed.length:Int)) then some (.inr (.inr (false,()))) else some (.inl (1,c,())):=rfl
   have s1:zir (1,c,())=bif decide (20<(c.Cals.x1.Closed.length:Int)) then some (.inr (.inr (false,()))) else some (.inl (2,c,())):=rfl
   have s2:zir (2,c,())=bif decide (20<(c.Cals.x2.Closed.length:Int)) then some (.inr (.inr (false,()))) else some (.inl (3,c,())):=rfl
   have s3:zir (3,c,())=bif decide (20<(c.Cals.x3.Closed.length:Int)) then some (.inr (.inr (false,()))) else some (.inl (4,c,())):=rfl
   have s4:zir (4,c,())=some (.inr (.inl ())):=rfl
   refine zfn 5 (by rw[zhy];omega) ?_
   simp only[zcw,s0]
   cases decide (20<(c.Cals.x0.Closed.length:Int)) with
   |true=>rfl
   |false=>
    simp only[cond_false,zcw,s1]
    cases decide (20<(c.Cals.x1.Closed.length:Int)) with
    |true=>rfl
    |false=>
     simp only[cond_false,zcw,s2]
     cases decide (20<(c.Cals.x2.Closed.length:Int)) with
     |true=>rfl
     |false=>
      simp only[cond_false,zcw,s3]
      cases decide (20<(c.Cals.x3.Closed.length:Int)) with
      |true=>rfl
      |false=>simp only[cond_false,zcw,s4];rfl
  simp only[cond_false,Bool.not_false,Bool.true_and]
  rw[show zae z13 (0,c,())=_ from h1,zay]
  cases c.Items.all (fun x=>!(decide (300<(x.Call.length:Int)))) with
  |false=>rfl
  |true=>
   simp only[cond_true,Bool.true_and]
   rw[show zae z14 (0,c,())=_ from h2,zay]
   cases c.Patrons.all (fun x=>!(decide (300<(x.Name.length:Int)))) with
   |false=>rfl
   |true=>
    simp only[cond_true,Bool.true_and,h3]
    cases (!(decide (20<(c.Cals.x0.Closed.length:Int)))&&(!(decide (20<(c.Cals.x1.Closed.length:Int)))&&(!(decide (20<(c.Cals.x2.Closed.length:Int)))&&!(decide (20<(c.Cals.x3.Closed.length:Int))))))<;>rfl
structure SmallP (c:Circ):Prop where
 items:c.Items.length≤10
 patrons:c.Patrons.length≤8
 holds:c.Holds.length≤12
 loans:c.Loans.length≤12
 charges:c.Charges.length≤30
 rules:c.Rules.length≤10
 moves:c.Moves.length≤200
 call:∀x∈c.Items,x.Call.length≤300
 name:∀x∈c.Patrons,x.Name.length≤300
 cal0:c.Cals.x0.Closed.length≤20
 cal1:c.Cals.x1.Closed.length≤20
 cal2:c.Cals.x2.Closed.length≤20
 cal3:c.Cals.x3.Closed.length≤20
theorem zanw {c:Circ} (h:zl0 c=true):SmallP c:=by
 unfold zl0 at h
 simp only[Bool.and_eq_true,Bool.not_eq_true',Bool.or_eq_false_iff,decide_eq_false_iff_not,List.all_eq_true]at h
 obtain ⟨⟨⟨⟨⟨⟨⟨h1,h2⟩,h3⟩,h4⟩,h5⟩,h6⟩,h7⟩,h8,h9,h10,h11,h12,h13⟩:=h
 exact ⟨by omega,by omega,by omega,by omega,by omega,by omega,by omega,fun x hx=>by have:=h8 x hx;omega,fun x hx=>by have:=h9 x hx;omega,by omega,by omega,by omega,by omega⟩
theorem SmallP.short {c:Circ} (h:SmallP c):Short c:=by
 obtain ⟨h1,h2,h3,h4,h5,h6,h7,h8,h9,h10,h11,h12,h13⟩:=h
 exact ⟨by omega,by omega,by omega,by omega,by omega,by omega,by omega,fun x hx=>by have:=h8 x hx;omega,fun x hx=>by have:=h9 x hx;omega,by omega,by omega,by omega,by omega⟩
end Go.Proofs.YtpaidiaknfhclaaGreatDoor
namespace Go.Proofs.YtpaidiaknfhclaaGreatDoor
open Ev
open Go (IntKind)
theorem za4y {γ0:Type} {p:γ0→Patron→Option Bool} {q:Patron→Bool} {s:List Patron} {g:γ0} (hs:s.length<1000000000) (hp:∀x∈s,p g x=some (q x)):qo p s g=some (fIdx q s):=by
 have h:=zbh (step:=zvg p) (fun i=>(s,g,(s.length:Int),(i:Int),())) s q (fun i _=>(.inr ((i:Int),()):Unit⊕(Int×Unit))) (.inl ()) hs
  (by simp only[zvg,dge,cond_false])
  (fun i x hx=>by
   have hi:=(List.getElem?_eq_some_iff.1 hx).1
   simp only[zvg,dlt hi,cond_true,zaj,hx,hp x (List.mem_of_getElem? hx),zam (show i<9223372036854775807 by omega)])
 unfold qo
 rw[show zae (zvg p) (s,g,(s.length:Int),0,())=_ from h,←zcr]
 have:=zb3 (p:=q) (g:=fun i _=>(.inr ((i:Int),()):Unit⊕(Int×Unit))) (d:=.inl ()) (fun z=>match (some z:Option (Unit⊕(Int×Unit))) with|some (.inl _)=>some (-1)|some (.inr (v,_))=>some v|none=>none) (l:=s) (i:=0)
 exact this.trans ((zb3 (p:=q) (g:=fun i _=>(i:Int)) (d:=-1) (fun z=>some z) (l:=s) (i:=0)).symm)
theorem za2y {l:List Patron} {id:Int} (hl:l.length<1000000000):qdq l id=some (getP l id):=by
 unfold qdq qbz getP
 rw[za4y (q:=fun x=>x.ID==id) hl (fun x _=>rfl)]
 rcases zbq (fun x:Patron=>x.ID==id) l with ⟨h1,h2⟩|⟨i,x,h1,h2,h3,h4⟩
 ·simp only[h1,h2,zh3,cond_true]
 ·simp only[h1,h4,zgu,cond_false,zaj,h2]
end Go.Proofs.YtpaidiaknfhclaaGreatDoor
namespace Go.Proofs.YtpaidiaknfhclaaGreatDoor
open Ev
open Go (IntKind)
theorem zd2 (lo hi n:Int):(!(rng lo hi n))=(decide (n<lo)||decide (hi<n)):=by
 unfold rng
 by_cases h1:n<lo
 ·have:¬lo≤n:=by omega
  simp[h1,this]
 ·have:lo≤n:=by omega
  by_cases h2:hi<n
  ·have:¬n≤hi:=by omega
   simp[*]
  ·have:n≤hi:=by omega
   simp[*]
theorem zasz {X:Type} (p:X→Bool) (l:List X):decide (fIdx p l<0)=!(l.any p):=by
 unfold fIdx
 induction l with
 |nil=>rfl
 |cons y l ih=>
  simp only[List.findIdx?_cons,List.any_cons]
  cases hp:p y with
  |true=>rfl
  |false=>
   simp only[Bool.false_eq_true,if_false,Bool.false_or]
   rw[←ih]
   cases l.findIdx? p with
   |none=>rfl
   |some k=>simp only[Option.map_some];rw[decide_eq_decide];omega
theorem zo6 {X:Type} (p:X→Bool) (l:List X):decide (0≤fIdx p l)=l.any p:=by
 have h:=zasz p l
 cases hb:l.any p with
 |true=>rw[hb]at h;simp at h ⊢;omega
 |false=>rw[hb]at h;simp at h ⊢;omega
theorem zau0 {γ:Type} {p:γ→Int→Option Bool} {g:γ} (q:Int→Bool) {l:List Int} (hl:l.length<1000000000) (hp:∀x∈l,p g x=some (q x)):qa4 p l g=some (fIdx q l):=by
 have h:=zbh (step:=znr p) (fun i=>(l,g,(l.length:Int),(i:Int),())) l q (fun i _=>(.inr ((i:Int),()):(Unit)⊕(Int×Unit))) (.inl ()) hl
  (by simp only[znr,dge,cond_false])
  (fun i x hx=>by
   have hi:=(List.getElem?_eq_some_iff.1 hx).1
   simp only[znr,dlt hi,zaj,hx,cond_true,hp x (List.mem_of_getElem? hx),zam (show i<9223372036854775807 by omega)])
 unfold qa4
 rw[show zae (znr p) (l,g,(l.length:Int),0,())=_ from h]
 have e:=zb3 (p:=q) (g:=fun i _=>(.inr ((i:Int),()):(Unit)⊕(Int×Unit))) (d:=.inl ()) (fun r:(Unit)⊕(Int×Unit)=>match r with | .inl (_)=>(-1:Int) | .inr (v,_)=>v) (l:=l) (i:=0)
 dsimp only at e
 rw[←zcr,←e]
 generalize zer q (fun i _=>(.inr ((i:Int),()):(Unit)⊕(Int×Unit))) (.inl ()) 0 l=r
 rcases r with _|⟨v,_⟩<;>rfl
theorem zau3 {γ:Type} {p:γ→Int→Option Bool} {g:γ} (q:Int→Bool) {l:List Int} (hl:l.length<1000000000) (hp:∀x∈l,p g x=some (q x)):qe2 p l g=some (l.any q):=by
 unfold qe2
 rw[zau0 q hl hp]
 dsimp only
 rw[zo6]
theorem zauz {γ:Type} {p:γ→Rule→Option Bool} {g:γ} (q:Rule→Bool) {l:List Rule} (hl:l.length<1000000000) (hp:∀x∈l,p g x=some (q x)):qa3 p l g=some (fIdx q l):=by
 have h:=zbh (step:=znq p) (fun i=>(l,g,(l.length:Int),(i:Int),())) l q (fun i _=>(.inr ((i:Int),()):(Unit)⊕(Int×Unit))) (.inl ()) hl
  (by simp only[znq,dge,cond_false])
  (fun i x hx=>by
   have hi:=(List.getElem?_eq_some_iff.1 hx).1
   simp only[znq,dlt hi,zaj,hx,cond_true,hp x (List.mem_of_getElem? hx),zam (show i<9223372036854775807 by omega)])
 unfold qa3
 rw[show zae (znq p) (l,g,(l.length:Int),0,())=_ from h]
 have e:=zb3 (p:=q) (g:=fun i _=>(.inr ((i:Int),()):(Unit)⊕(Int×Unit))) (d:=.inl ()) (fun r:(Unit)⊕(Int×Unit)=>match r with | .inl (_)=>(-1:Int) | .inr (v,_)=>v) (l:=l) (i:=0)
 dsimp only at e
 rw[←zcr,←e]
 generalize zer q (fun i _=>(.inr ((i:Int),()):(Unit)⊕(Int×Unit))) (.inl ()) 0 l=r
 rcases r with _|⟨v,_⟩<;>rfl
theorem zau2 {γ:Type} {p:γ→Rule→Option Bool} {g:γ} (q:Rule→Bool) {l:List Rule} (hl:l.length<1000000000) (hp:∀x∈l,p g x=some (q x)):qe1 p l g=some (l.any q):=by
 unfold qe1
 rw[zauz q hl hp]
 dsimp only
 rw[zo6]
theorem zamu {γ:Type} {p:γ→Loan→Option Bool} {g:γ} (q:Loan→Bool) {l:List Loan} (hl:l.length<1000000000) (hp:∀x∈l,p g x=some (q x)):qk p l g=some (fIdx q l):=by
 have h:=zbh (step:=zvc p) (fun i=>(l,g,(l.length:Int),(i:Int),())) l q (fun i _=>(.inr ((i:Int),()):(Unit)⊕(Int×Unit))) (.inl ()) hl
  (by simp only[zvc,dge,cond_false])
  (fun i x hx=>by
   have hi:=(List.getElem?_eq_some_iff.1 hx).1
   simp only[zvc,dlt hi,zaj,hx,cond_true,hp x (List.mem_of_getElem? hx),zam (show i<9223372036854775807 by omega)])
 unfold qk
 rw[show zae (zvc p) (l,g,(l.length:Int),0,())=_ from h]
 have e:=zb3 (p:=q) (g:=fun i _=>(.inr ((i:Int),()):(Unit)⊕(Int×Unit))) (d:=.inl ()) (fun r:(Unit)⊕(Int×Unit)=>match r with | .inl (_)=>(-1:Int) | .inr (v,_)=>v) (l:=l) (i:=0)
 dsimp only at e
 rw[←zcr,←e]
 generalize zer q (fun i _=>(.inr ((i:Int),()):(Unit)⊕(Int×Unit))) (.inl ()) 0 l=r
 rcases r with _|⟨v,_⟩<;>rfl
theorem zal9 {γ:Type} {p:γ→Item→Option Bool} {g:γ} (q:Item→Bool) {l:List Item} (hl:l.length<1000000000) (hp:∀x∈l,p g x=some (q x)):qc p l g=some (fIdx q l):=by
 have h:=zbh (step:=zpw p) (fun i=>(l,g,(l.length:Int),(i:Int),())) l q (fun i _=>(.inr ((i:Int),()):(Unit)⊕(Int×Unit))) (.inl ()) hl
  (by simp only[zpw,dge,cond_false])
  (fun i x hx=>by
   have hi:=(List.getElem?_eq_some_iff.1 hx).1
   simp only[zpw,dlt hi,zaj,hx,cond_true,hp x (List.mem_of_getElem? hx),zam (show i<9223372036854775807 by omega)])
 unfold qc
 rw[show zae (zpw p) (l,g,(l.length:Int),0,())=_ from h]
 have e:=zb3 (p:=q) (g:=fun i _=>(.inr ((i:Int),()):(Unit)⊕(Int×Unit))) (d:=.inl ()) (fun r:(Unit)⊕(Int×Unit)=>match r with | .inl (_)=>(-1:Int) | .inr (v,_)=>v) (l:=l) (i:=0)
 dsimp only at e
 rw[←zcr,←e]
 generalize zer q (fun i _=>(.inr ((i:Int),()):(Unit)⊕(Int×Unit))) (.inl ()) 0 l=r
 rcases r with _|⟨v,_⟩<;>rfl
theorem z9t {γ:Type} {p:γ→Item→Option Bool} {g:γ} (q:Item→Bool) {l:List Item} (hl:l.length<1000000000) (hp:∀x∈l,p g x=some (q x)):qci p l g=some (l.any q):=by
 unfold qci
 rw[zal9 q hl hp]
 dsimp only
 rw[zo6]
theorem zaly {γ:Type} {p:γ→Hold→Option Bool} {g:γ} (q:Hold→Bool) {l:List Hold} (hl:l.length<1000000000) (hp:∀x∈l,p g x=some (q x)):qb p l g=some (fIdx q l):=by
 have h:=zbh (step:=zlh p) (fun i=>(l,g,(l.length:Int),(i:Int),())) l q (fun i _=>(.inr ((i:Int),()):(Unit)⊕(Int×Unit))) (.inl ()) hl
  (by simp only[zlh,dge,cond_false])
  (fun i x hx=>by
   have hi:=(List.getElem?_eq_some_iff.1 hx).1
   simp only[zlh,dlt hi,zaj,hx,cond_true,hp x (List.mem_of_getElem? hx),zam (show i<9223372036854775807 by omega)])
 unfold qb
 rw[show zae (zlh p) (l,g,(l.length:Int),0,())=_ from h]
 have e:=zb3 (p:=q) (g:=fun i _=>(.inr ((i:Int),()):(Unit)⊕(Int×Unit))) (d:=.inl ()) (fun r:(Unit)⊕(Int×Unit)=>match r with | .inl (_)=>(-1:Int) | .inr (v,_)=>v) (l:=l) (i:=0)
 dsimp only at e
 rw[←zcr,←e]
 generalize zer q (fun i _=>(.inr ((i:Int),()):(Unit)⊕(Int×Unit))) (.inl ()) 0 l=r
 rcases r with _|⟨v,_⟩<;>rfl
theorem z9q {γ:Type} {p:γ→Hold→Option Bool} {g:γ} (q:Hold→Bool) {l:List Hold} (hl:l.length<1000000000) (hp:∀x∈l,p g x=some (q x)):qb2 p l g=some (l.any q):=by
 unfold qb2
 rw[zaly q hl hp]
 dsimp only
 rw[zo6]
theorem zzi (n lo hi:Int):qb8 n lo hi=some (rng lo hi n):=by
 unfold qb8
 simp -zeta only[k_or,zaz]
 try rfl
theorem zalw (n lo hi:Int):qb7 n lo hi=some (rng lo hi n):=by
 unfold qb7
 simp -zeta only[k_or,zaz]
 try rfl
theorem za2t (n lo hi:Int):qby n lo hi=some (rng lo hi n):=by
 unfold qby
 simp -zeta only[k_or,zaz]
 try rfl
theorem zamo (n:Int):qe0 n=some (rng 1 9999 n):=by
 unfold qe0
 simp -zeta only[k_or,zaz]
 try rfl
theorem zams (n:Int):qew n=some (rng 0 109572 n):=by
 unfold qew
 simp -zeta only[k_or,zaz]
 try rfl
theorem za23 (n:Int):qec n=some (rng 0 109572 n):=by
 unfold qec
 simp -zeta only[k_or,zaz]
 try rfl
theorem za21 (n:Int):qe6 n=some (rng 1 9999 n):=by
 unfold qe6
 simp -zeta only[k_or,zaz]
 try rfl
theorem za2u (n:Int):qc5 n=some (rng 0 109572 n):=by
 unfold qc5
 simp -zeta only[k_or,zaz]
 try rfl
theorem za26 (n:Int):qet n=some (rng 0 109572 n):=by
 unfold qet
 rw[zalw]
def zfp (x:Charge):Int:=
 bif decide (x.ID<1)||decide (99999<x.ID)||decide (x.Patron<1)||decide (9999<x.Patron)||decide (x.Item<1)||decide (9999<x.Item)||!(rng 0 109572 x.Day) then 2
 else bif decide (x.Kind<1)||decide (3<x.Kind) then 1
 else bif decide (x.Amount<1)||decide (100000000<x.Amount)||decide (x.Paid<0)||decide (x.Amount≤x.Paid) then 2 else 0
theorem zalx (x:Charge):qb9 x=some (zfp x):=by
 unfold qb9 zfp
 simp -zeta only[k_or,zaz,za23,za21,zd2 1 9999,Bool.or_assoc]
 dsimp only
 simp only[zct,Bool.or_assoc]
theorem zf6 {α β:Type} (a:α) (g:Int→β) (e:Int):(bif !(e==0) then some (.inr (g e)) else some (.inl a):Option (α⊕β))=zgr a g e:=by
 unfold zgr
 cases e==0<;>rfl
theorem zjx (l:List Charge) (i:Nat) (x:Charge):zcm l i x=bif zbb l i (fun y=>decide (x.ID≤y.ID)) then 7 else zfp x:=rfl
theorem z2b {l:List Charge} (hl:l.length<1000000000):zae zlj (l,l,(l.length:Int),0,())=some (if zbj (zcm l) 0 l==0 then .inl () else .inr (zbj (zcm l) 0 l,())):=by
 have h:=zcg (step:=zlj) (fun i=>(l,l,(l.length:Int),(i:Int),())) l (zcm l) (.inl ()) (fun e=>.inr (e,())) hl
  (by simp only[zlj,dge,cond_false])
  (fun i x hx=>by
   have hi:=(List.getElem?_eq_some_iff.1 hx).1
   have hxm:=List.mem_of_getElem? hx
   rw[zjx,zbp,←zf6 _ _ (zfp x)]
   rcases i with _|j
   ·simp -zeta only[zlj,dlt hi,zaj,hx,k_or,zaz,zme,cond_false,cond_true,zbb,zam (show 0<9223372036854775807 by omega),zalx]
    try rfl
   ·have hj:l[j]?=some l[j]:=List.getElem?_eq_getElem (by omega)
    simp -zeta only[zlj,dlt hi,zaj,hx,k_or,zaz,dpos,zep (show j<1000000000 by omega),hj,cond_false,cond_true,zbb,zam (show j+1<9223372036854775807 by omega),zalx]
    rfl)
 exact h
theorem za2m {l:List Charge} (hl:l.length<1000000000):qbb l=some (zcd l):=by
 unfold qbb zcd
 rw[z2b hl]
 generalize zbj (zcm l) 0 l=e
 cases decide (128<(l.length:Int)) with
 |true=>rfl
 |false=>
  by_cases h:e=0
  ·subst h;rfl
  ·have h2:(e==0)=false:=by simpa using h
   simp only[h2,Bool.false_eq_true,if_false,cond_false]
theorem z2a {l:List Loan} (hl:l.length<1000000000):zae zli (l,l,(l.length:Int),0,())=some (if zbj (zd1 l) 0 l==0 then .inl () else .inr (zbj (zd1 l) 0 l,())):=by
 have h:=zcg (step:=zli) (fun i=>(l,l,(l.length:Int),(i:Int),())) l (zd1 l) (.inl ()) (fun e=>.inr (e,())) hl
  (by simp only[zli,dge,cond_false])
  (fun i x hx=>by
   have hi:=(List.getElem?_eq_some_iff.1 hx).1
   have hxm:=List.mem_of_getElem? hx
   unfold zd1
   simp only[zbp]
   rcases i with _|j
   ·simp -zeta only[zli,dlt hi,zaj,hx,k_or,zaz,zme,cond_false,cond_true,zbb,zam (show 0<9223372036854775807 by omega),zamo,zams,zd2,Bool.or_assoc]
    simp only[Bool.or_assoc]
    try rfl
   ·have hj:l[j]?=some l[j]:=List.getElem?_eq_getElem (by omega)
    simp -zeta only[zli,dlt hi,zaj,hx,k_or,zaz,dpos,zep (show j<1000000000 by omega),hj,cond_false,cond_true,zbb,zam (show j+1<9223372036854775807 by omega),zamo,zams,zd2,Bool.or_assoc]
    simp only[Bool.or_assoc]
    rfl)
 exact h
theorem za2l {l:List Loan} (hl:l.length<1000000000):qba l=some (zcl l):=by
 unfold qba zcl
 rw[z2a hl]
 generalize zbj (zd1 l) 0 l=e
 cases decide (64<(l.length:Int)) with
 |true=>rfl
 |false=>
  by_cases h:e=0
  ·subst h;rfl
  ·have h2:(e==0)=false:=by simpa using h
   simp only[h2,Bool.false_eq_true,if_false,cond_false]
def zek (x:Patron):Int:=
 bif decide (x.Kind<1)||decide (9<x.Kind)||decide (x.Branch<1)||decide (4<x.Branch) then 1
 else bif decide (x.Until<0)||decide (109572<x.Until) then 2
 else bif x.Name==[]||!(vld x.Name)||!(cln x.Name==x.Name) then 3
 else bif decide (200<(x.Name.length:Int)) then 4 else 0
theorem za2k {x:Patron} (h:x.Name.length<10000000):qb4 x=some (zek x):=by
 have hV:qde x.Name=some (vld x.Name):=by
  have:decide (x.Name.length≤LIM)=true:=by rw[decide_eq_true_eq];unfold LIM;omega
  unfold qde;rw[this];rfl
 have hC:vld x.Name=true→qea x.Name=some (cln x.Name):=fun hv=>by
  have:decide (x.Name.length≤LIM)=true:=by rw[decide_eq_true_eq];unfold LIM;omega
  unfold qea;rw[this,hv];rfl
 unfold qb4 zek
 simp -zeta only[k_or,zaz,hV]
 cases hv:vld x.Name with
 |true=>
  rw[hC hv]
  simp -zeta only[k_or,zaz,Bool.not_true,Bool.or_false]
  dsimp only
  simp only[zct]
 |false=>
  simp -zeta only[k_or,zaz,Bool.not_false,Bool.or_true,Bool.true_or,cond_true]
  dsimp only
  simp only[zct,cond_true]
def zrf (l:List Patron):Nat→Int
 |0=>0
 |j+1=>match l[j]? with|some y=>y.ID|none=>0
theorem zk5 (l:List Patron) (i:Nat) (x:Patron):zcb l i x=bif decide (x.ID<1)||decide (9999<x.ID) then 2 else bif zbb l i (fun y=>decide (x.ID≤y.ID)) then 7 else zek x:=rfl
theorem zml (l:List Patron) (i:Nat) (x:Patron) (hi:i≤l.length):zcb l i x=bif decide (x.ID<1)||decide (9999<x.ID) then 2 else bif decide (x.ID≤zrf l i) then 7 else zek x:=by
 rw[zk5]
 cases hb:(decide (x.ID<1)||decide (9999<x.ID)) with
 |true=>rfl
 |false=>
  rw[Bool.or_eq_false_iff,decide_eq_false_iff_not,decide_eq_false_iff_not]at hb
  cases i with
  |zero=>
   have:decide (x.ID≤zrf l 0)=false:=by rw[decide_eq_false_iff_not];show ¬x.ID≤0;omega
   rw[this];rfl
  |succ j=>
   have hj:l[j]?=some l[j]:=List.getElem?_eq_getElem (by omega)
   simp only[zbb,zrf,hj]
theorem z11 {l:List Patron} (hl:l.length<1000000000) (hn:∀x∈l,x.Name.length<10000000):zae zns (0,l,(l.length:Int),0,())=some (if zbj (zcb l) 0 l==0 then .inl () else .inr (zbj (zcb l) 0 l,())):=by
 have h:=zcg (step:=zns) (fun i=>(zrf l i,l,(l.length:Int),(i:Int),())) l (zcb l) (.inl ()) (fun e=>.inr (e,())) hl
  (by simp only[zns,dge,cond_false])
  (fun i x hx=>by
   have hi:=(List.getElem?_eq_some_iff.1 hx).1
   have hxm:=List.mem_of_getElem? hx
   rw[zml l i x (by omega),zbp,zbp,←zf6 _ _ (zek x)]
   simp -zeta only[zns,dlt hi,zaj,hx,k_or,zaz,cond_false,cond_true,za2k (hn x hxm),zam (show i<9223372036854775807 by omega)]
   simp only[zrf,hx]
   rfl)
 exact h
theorem za16 {l:List Patron} (hl:l.length<1000000000) (hn:∀x∈l,x.Name.length<10000000):qa7 l=some (zce l):=by
 unfold qa7 zce
 rw[z11 hl hn]
 generalize zbj (zcb l) 0 l=e
 cases decide (32<(l.length:Int)) with
 |true=>rfl
 |false=>
  by_cases h:e=0
  ·subst h;rfl
  ·have h2:(e==0)=false:=by simpa using h
   simp only[h2,Bool.false_eq_true,if_false,cond_false]
theorem rng0 (n:Int):(!(rng 0 9999 n))=(!(n==0)&&!(rng 1 9999 n)):=by
 rw[zd2,zd2]
 by_cases h:n=0
 ·subst h;rfl
 ·have h2:(n==0)=false:=by simpa using h
  rw[h2]
  have:decide (n<0)=decide (n<1):=by rw[decide_eq_decide];omega
  rw[this];rfl
theorem z0p {α:Type} (a b:Bool) (x y:α):(bif a then x else bif b then x else y)=bif a||b then x else y:=by cases a<;>rfl
theorem zamp (x:Hold):qe8 x=some (za6 x):=by
 unfold qe8 za6
 simp -zeta only[k_or,zaz,za26,zalw]
 dsimp only
 simp only[zct,rng0,zd2 1 99999,zd2 1 4,zd2 0 9,zd2 1 3,z0p,Bool.or_assoc]
theorem zfs (l:List Hold) (i:Nat) (x:Hold):zcj l i x=bif zbb l i (fun y=>decide (x.ID≤y.ID)) then 7 else za6 x:=by
 unfold zcj
 congr 1
 cases h:za6 x==0 with
 |true=>simp at h;simp[h]
 |false=>simp
theorem z9x {l:List Hold} (hl:l.length<1000000000):zae zvd (l,l,(l.length:Int),0,())=some (if zbj (zcj l) 0 l==0 then .inl (l,()) else .inr (zbj (zcj l) 0 l,())):=by
 have h:=zcg (step:=zvd) (fun i=>(l,l,(l.length:Int),(i:Int),())) l (zcj l) (.inl (l,())) (fun e=>.inr (e,())) hl
  (by simp only[zvd,dge,cond_false])
  (fun i x hx=>by
   have hi:=(List.getElem?_eq_some_iff.1 hx).1
   have hxm:=List.mem_of_getElem? hx
   rw[zfs,zbp,←zf6 _ _ (za6 x)]
   rcases i with _|j
   ·simp -zeta only[zvd,dlt hi,zaj,hx,k_or,zaz,zme,cond_false,cond_true,zbb,zam (show 0<9223372036854775807 by omega),zamp]
    try rfl
   ·have hj:l[j]?=some l[j]:=List.getElem?_eq_getElem (by omega)
    simp -zeta only[zvd,dlt hi,zaj,hx,k_or,zaz,dpos,zep (show j<1000000000 by omega),hj,cond_false,cond_true,zbb,zam (show j+1<9223372036854775807 by omega),zamp]
    rfl)
 exact h
theorem z9w {γ:Type} {p:γ→Hold→Hold→Option Bool} {g:γ} {q:Hold→Hold→Bool} (hp:∀a b,p g a b=some (q a b)) {l:List Hold} (hl:l.length<1000000000) {i:Nat} {x:Hold} (hx:l[i]?=some x) {v v2:Int} :
 zae (zs4 p) (l,g,(i:Int),v,v2,(i:Int),0,())=some (bif (l.take i).all (fun y=>!(q y x)) then .inl (l,g,v,v2,()) else .inr (true,())):=by
 have hi:=(List.getElem?_eq_some_iff.1 hx).1
 have h:=zat (step:=zs4 p) (fun k=>(l,g,(i:Int),v,v2,(i:Int),(k:Int),())) (l.take i) (fun _ y=>!(q y x)) (.inr (true,())) (.inl (l,g,v,v2,())) (by rw[List.length_take];omega)
  (by rw[List.length_take,Nat.min_eq_left (by omega)];simp only[zs4,dge,cond_false])
  (fun k y hy=>by
   have hk:=(List.getElem?_eq_some_iff.1 hy).1
   rw[List.length_take]at hk
   have hy2:l[k]?=some y:=by rw[←hy,List.getElem?_take_of_lt (by omega)]
   simp -zeta only[zs4,dlt (show k<i by omega),zaj,hx,hy2,hp,cond_true,zam (show k<9223372036854775807 by omega)]
   cases q y x<;>rfl)
 rw[show zae (zs4 p) (l,g,(i:Int),v,v2,(i:Int),0,())=_ from h,zay]
def ztp (q:Hold→Hold→Bool) (l:List Hold):Bool:=zch (fun i x=>(l.take i).all (fun y=>!(q y x))) 0 l
theorem za22 {γ:Type} {p:γ→Hold→Hold→Option Bool} {g:γ} (q:Hold→Hold→Bool) (hp:∀a b,p g a b=some (q a b)) {l:List Hold} (hl:l.length<1000000000):qe p l g=some (!(ztp q l)):=by
 have h:=zat (step:=zu9 p) (fun i=>(l,g,(l.length:Int),(i:Int),())) l (fun i x=>(l.take i).all (fun y=>!(q y x))) (.inr (true,())) (.inl ()) hl
  (by simp only[zu9,dge,cond_false])
  (fun i x hx=>by
   have hi:=(List.getElem?_eq_some_iff.1 hx).1
   simp only[zu9,dlt hi,cond_true,z9w hp hl hx]
   cases (l.take i).all (fun y=>!(q y x)) with
   |true=>simp only[cond_true,zam (show i<9223372036854775807 by omega)]
   |false=>rfl)
 unfold qe
 rw[show zae (zu9 p) (l,g,(l.length:Int),0,())=_ from h]
 unfold ztp
 cases zch (fun i x=>(l.take i).all (fun y=>!(q y x))) 0 l<;>rfl
def zi5 (a b:Hold):Bool:=a.Patron==b.Patron&&a.Record==b.Record
def zi4 (a b:Hold):Bool:=a.Got==b.Got&&decide (0<a.Got)
theorem zzz {l:List Hold}:zff l=(ztp zi5 l&&ztp zi4 l):=by
 unfold zff ztp
 have key:∀(m:List Hold) (i:Nat),zch (fun i x=>(l.take i).all (fun y=>!(zcv x y))) i m=(zch (fun i x=>(l.take i).all (fun y=>!(zi5 y x))) i m&&zch (fun i x=>(l.take i).all (fun y=>!(zi4 y x))) i m):=by
  intro m
  induction m with
  |nil=>intro i;rfl
  |cons x m ih=>
   intro i
   simp only[zch]
   rw[ih (i+1)]
   have e:(l.take i).all (fun y=>!(zcv x y))=((l.take i).all (fun y=>!(zi5 y x))&&(l.take i).all (fun y=>!(zi4 y x))):=by
    induction l.take i with
    |nil=>rfl
    |cons y t iht=>
     simp only[List.all_cons]
     rw[iht]
     have e2:(!(zcv x y))=(!(zi5 y x)&&!(zi4 y x)):=by
      unfold zcv zi5 zi4
      rw[←Bool.not_or]
      congr 1
      have a1:(x.Patron==y.Patron)=(y.Patron==x.Patron):=Bool.beq_comm
      have a2:(x.Record==y.Record)=(y.Record==x.Record):=Bool.beq_comm
      rw[a1,a2]
      congr 1
      rw[Bool.eq_iff_iff]
      simp only[Bool.and_eq_true,decide_eq_true_eq,beq_iff_eq]
      constructor
      ·rintro ⟨h1,h2⟩;exact ⟨h2.symm,by omega⟩
      ·rintro ⟨h1,h2⟩;exact ⟨by omega,h1.symm⟩
     rw[e2]
     cases zi5 y x<;>cases zi4 y x<;>cases t.all (fun y=>!(zi5 y x))<;>cases t.all (fun y=>!(zi4 y x))<;>rfl
   rw[e]
   cases (l.take i).all (fun y=>!(zi5 y x))<;>cases (l.take i).all (fun y=>!(zi4 y x))<;>cases zch (fun i x=>(l.take i).all (fun y=>!(zi5 y x))) (i+1) m<;>cases zch (fun i x=>(l.take i).all (fun y=>!(zi4 y x))) (i+1) m<;>rfl
 exact key l 0
theorem za4v {l:List Hold} (hl:l.length<1000000000):ql l=some (zb7 l):=by
 have t1:=za22 (p:=fun (g:Unit×Unit) x0 x1=>qcg x0 x1) (g:=((),())) zi5 (fun a b=>by unfold qcg zi5;simp -zeta only[zaz];rfl) hl
 have t2:=za22 (p:=fun (g:Unit×Unit) x0 x1=>qdo x0 x1) (g:=((),())) zi4 (fun a b=>by unfold qdo zi4;simp -zeta only[zaz];rfl) hl
 unfold ql zb7
 rw[z9x hl]
 cases decide (64<(l.length:Int)) with
 |true=>rfl
 |false=>
  by_cases h:zbj (zcj l) 0 l=0
  ·simp only[h,beq_self_eq_true,if_true,cond_false,cond_true,t1,t2,zzz]
   cases ztp zi5 l<;>cases ztp zi4 l<;>rfl
  ·have:(zbj (zcj l) 0 l==0)=false:=by simpa using h
   simp only[this,Bool.false_eq_true,if_false,cond_false]
theorem za20 (r:Rule):qe4 r=some (zhu r):=by
 unfold qe4 zhu
 simp -zeta only[k_or,zaz,za2t]
 dsimp only
 congr 1
 generalize rng 0 9 r.Patron=b0;generalize rng 0 9 r.Item=b1;generalize rng 0 4 r.Branch=b2;generalize rng 0 365 r.Days=b3;generalize rng 0 10 r.Renewals=b4;generalize rng 0 99 r.Loans=b5
 generalize rng 0 1000 r.Fine=b6;generalize rng 0 30 r.Grace=b7;generalize rng 0 100000000 r.MaxFine=b8
 cases b0<;>cases b1<;>cases b2<;>cases b3<;>cases b4<;>cases b5<;>cases b6<;>cases b7<;>cases b8<;>rfl
theorem z3r {X:Type} (q:X→Bool) (l:List X):l.any q=!(l.all (fun y=>!(q y))):=by
 induction l with
 |nil=>rfl
 |cons y l ih=>simp only[List.any_cons,List.all_cons];rw[ih];cases q y<;>rfl
theorem z95 {l:List Rule} (hl:l.length<1000000000):zae z2j (l,l,(l.length:Int),0,())=some (if zbj (zd3 l) 0 l==0 then .inl () else .inr (zbj (zd3 l) 0 l,())):=by
 have h:=zcg (step:=z2j) (fun i=>(l,l,(l.length:Int),(i:Int),())) l (zd3 l) (.inl ()) (fun e=>.inr (e,())) hl
  (by simp only[z2j,dge,cond_false])
  (fun i x hx=>by
   have hi:=(List.getElem?_eq_some_iff.1 hx).1
   have d1:decide ((0:Int)≤(i:Int))=true:=by rw[decide_eq_true_eq];omega
   have d2:decide ((i:Int)≤(l.length:Int))=true:=by rw[decide_eq_true_eq];omega
   have hc:=zau2 (p:=fun (g:Unit×Rule×Unit) x0=>qcl x0 g.2.1) (g:=((),(x,()))) (fun y=>zez y x) (l:=l.take i) (by rw[List.length_take];omega) (fun y _=>by
    unfold qcl zez
    simp -zeta only[zaz]
    rfl)
   unfold zd3
   simp only[zbp,z2j,dlt hi,zaj,hx,cond_true,za20,d1,d2,Int.le_refl,decide_true,Bool.and_self,Int.toNat_natCast,Int.toNat_zero,List.drop_zero,hc]
   rw[z3r]
   cases zhu x with
   |false=>rfl
   |true=>
    simp only[Bool.not_true,cond_false]
    cases (l.take i).all (fun y=>!(zez y x)) with
    |true=>simp only[cond_true,cond_false,Bool.not_true,zam (show i<9223372036854775807 by omega)];rfl
    |false=>rfl)
 exact h
theorem za42 {l:List Rule} (hl:l.length<1000000000):qx l=some (zda l):=by
 unfold qx zda
 rw[z95 hl]
 generalize zbj (zd3 l) 0 l=e
 cases decide (32<(l.length:Int)) with
 |true=>rfl
 |false=>
  by_cases h:e=0
  ·subst h;rfl
  ·have h2:(e==0)=false:=by simpa using h
   simp only[h2,Bool.false_eq_true,if_false,cond_false]
theorem z94 {c:Calendar} (hl:c.Closed.length<1000000000):zae zvi (c.Closed,(c.Closed.length:Int),0,c,())=some (bif incr c.Closed then .inl () else .inr (7,())):=by
 have h:=zat (step:=zvi) (fun i=>(c.Closed,(c.Closed.length:Int),(i:Int),c,())) c.Closed (fun i x=>!(zbb c.Closed i (fun y=>decide (x≤y)))) (.inr (7,())) (.inl ()) hl
  (by simp only[zvi,dge,cond_false])
  (fun i x hx=>by
   have hi:=(List.getElem?_eq_some_iff.1 hx).1
   rcases i with _|j
   ·simp -zeta only[zvi,dlt hi,zaj,hx,zaz,zme,cond_false,cond_true,zbb,zam (show 0<9223372036854775807 by omega)]
    try rfl
   ·have hj:c.Closed[j]?=some c.Closed[j]:=List.getElem?_eq_getElem (by omega)
    simp -zeta only[zvi,dlt hi,zaj,hx,dpos,cond_true,zep (show j<1000000000 by omega),hj,zbb,zam (show j+1<9223372036854775807 by omega)]
    dsimp only
    cases decide (x≤c.Closed[j])<;>rfl)
 exact h
theorem za41 {c:Calendar} (hl:c.Closed.length<1000000000):qv c=some (zbi c):=by
 unfold qv zbi
 simp -zeta only[k_or]
 dsimp only
 rw[z94 hl,zau3 (fun x=>decide (x<0)||decide (109572<x)) hl (fun x _=>by
  unfold qc2
  rw[za2u]
  dsimp only
  rw[zd2]),z3r]
 have e:decide (127≤c.Week)=decide (126<c.Week):=by rw[decide_eq_decide];omega
 rw[e]
 cases (decide (c.Week<0)||decide (126<c.Week)) with
 |true=>rfl
 |false=>
  cases decide (64<(c.Closed.length:Int)) with
  |true=>rfl
  |false=>
   cases c.Closed.all (fun x=>!(decide (x<0)||decide (109572<x))) with
   |false=>rfl
   |true=>
    simp only[cond_false,cond_true]
    cases incr c.Closed<;>rfl
end Go.Proofs.YtpaidiaknfhclaaGreatDoor
namespace Go.Proofs.YtpaidiaknfhclaaGreatDoor
open Ev
open Go (IntKind)
theorem z9s (n lo hi:Int):qbw n lo hi=some (rng lo hi n):=by
 unfold qbw
 simp -zeta only[k_or,zaz]
 try rfl
theorem zem {lo hi n:Int}:rng lo hi n=true↔lo≤n∧n≤hi:=by
 unfold rng
 simp only[Bool.and_eq_true,decide_eq_true_eq]
theorem zj7 {n:Int} (h:rng 1 12 n=true):n=1∨n=2∨n=3∨n=4∨n=5∨n=6∨n=7∨n=8∨n=9∨n=10∨n=11∨n=12:=by
 have:=zem.1 h;omega
theorem zej {n:Int} (h:rng 1 15 n=true):n=1∨n=2∨n=3∨n=4∨n=5∨n=6∨n=7∨n=8∨n=9∨n=10∨n=11∨n=12∨n=13∨n=14∨n=15:=by
 have:=zem.1 h;omega
theorem za29 {s k:Int} (hs:rng 1 12 s=true) (hk:rng 1 15 k=true):qff s k=some (zg5 s k):=by
 rcases zj7 hs with h|h|h|h|h|h|h|h|h|h|h|h<;>subst h<;>
  rcases zej hk with h|h|h|h|h|h|h|h|h|h|h|h|h|h|h<;>subst h<;>rfl
theorem za3a (c:Custody):qfh c=some (zg0 c):=by
 unfold qfh zg0 zaij
 simp -zeta only[k_or,zaz,zkg,z9s,zd2]
 dsimp only
 cases hb:(decide (c.State<1)||decide (12<c.State)||(decide (c.Branch<1)||decide (4<c.Branch))) with
 |true=>
  have:(decide (c.State<1)||decide (12<c.State)||decide (c.Branch<1)||decide (4<c.Branch))=true:=by rw[←hb,Bool.or_assoc _ _ (decide (4<c.Branch))]
  rw[this];rfl
 |false=>
  have:(decide (c.State<1)||decide (12<c.State)||decide (c.Branch<1)||decide (4<c.Branch))=false:=by rw[←hb,Bool.or_assoc _ _ (decide (4<c.Branch))]
  rw[this]
  have hr:rng 1 12 c.State=true:=by
   simp only[Bool.or_eq_false_iff,decide_eq_false_iff_not]at hb
   rw[zem];omega
  unfold rng
  simp only[cond_false]
  generalize decide (0≤c.Who)=a1
  generalize decide (c.Who≤9999)=a2
  generalize decide (1≤c.Who)=a3
  generalize decide (1≤c.To)=a4
  generalize decide (c.To≤4)=a5
  generalize (c.To==0)=a6
  generalize (c.To==c.Branch)=a7
  generalize (c.Who==0)=a8
  rcases zj7 hr with h|h|h|h|h|h|h|h|h|h|h|h<;>rw[h]<;>revert a1 a2 a3 a4 a5 a6 a7 a8<;>decide
theorem zamb (c:Custody) (ok:Bool):qcp c ok=some (bif ok then (c,0) else (⟨0,0,0,0⟩,1)):=by
 cases ok<;>rfl
theorem za3b (c:Custody) (m:Move):qfj c m=some (bif !(m.Branch==c.Branch) then (⟨6,c.Branch,m.Who,m.Branch⟩,0) else (⟨0,0,0,0⟩,1)):=by
 unfold qfj
 rw[zamb]
theorem zamd (c:Custody) (m:Move):qd6 c m=some (zav c m):=by
 unfold qd6 zav
 simp -zeta only[k_or,zaz,zkg,z9s,za3a]
 dsimp only
 have hw:(!(rng 0 109572 m.Day)||!(rng 1 9999 m.Item)||!(rng 1 15 m.Kind)||!(rng 1 4 m.Branch)||!(rng 0 9999 m.Who))=!(zig m):=by
  unfold zig rng
  simp only[Bool.not_and,Bool.or_assoc]
 rw[show (!(zg0 c)||!(rng 0 109572 m.Day)||!(rng 1 9999 m.Item)||!(rng 1 15 m.Kind)||!(rng 1 4 m.Branch)||!(rng 0 9999 m.Who))=(!(zg0 c)||!(zig m)) by rw[←hw];simp only[Bool.or_assoc]]
 cases hb:(!(zg0 c)||!(zig m)) with
 |true=>rfl
 |false=>
  simp only[Bool.or_eq_false_iff,Bool.not_eq_false']at hb
  obtain ⟨h1,h2⟩:=hb
  rw[h2,Bool.not_true]at hw
  simp only[Bool.or_eq_false_iff,Bool.not_eq_false']at hw
  obtain ⟨⟨⟨⟨w1,w2⟩,w3⟩,w4⟩,w5⟩:=hw
  have hs:rng 1 12 c.State=true:=by
   unfold zg0 at h1
   rw[zem]
   cases hq:(decide (c.State<1)||decide (12<c.State)||decide (c.Branch<1)||decide (4<c.Branch)) with
   |true=>rw[hq]at h1;cases h1
   |false=>simp only[Bool.or_eq_false_iff,decide_eq_false_iff_not]at hq;omega
  rw[za29 hs w3]
  simp only[cond_false]
  cases ha:zg5 c.State m.Kind with
  |false=>rfl
  |true=>
   simp only[Bool.not_true,cond_false]
   have h0:=(zem.1 w5).1
   unfold zs3 zc6
   simp only[zamb,za3b]
   generalize (c.State==5)=g5
   generalize (m.Who==c.Who)=g7
   generalize (m.Branch==c.To)=g6
   by_cases hw0:m.Who=0
   ·have e2:decide (1≤m.Who)=false:=by rw[decide_eq_false_iff_not];omega
    rw[e2]
    simp only[hw0]
    by_cases hb:m.Branch=c.Branch
    ·simp only[hb,beq_self_eq_true]
     rcases zej w3 with h|h|h|h|h|h|h|h|h|h|h|h|h|h|h<;>
      (simp only[h];cases g5<;>cases g6<;>cases g7<;>rfl)
    ·have e3:(m.Branch==c.Branch)=false:=by simpa using hb
     simp only[e3]
     rcases zej w3 with h|h|h|h|h|h|h|h|h|h|h|h|h|h|h<;>
      (simp only[h];cases g5<;>cases g6<;>cases g7<;>rfl)
   ·have e2:decide (1≤m.Who)=true:=by rw[decide_eq_true_eq];omega
    have e1:(m.Who==0)=false:=by simpa using hw0
    rw[e2]
    simp only[e1]
    by_cases hb:m.Branch=c.Branch
    ·simp only[hb,beq_self_eq_true]
     rcases zej w3 with h|h|h|h|h|h|h|h|h|h|h|h|h|h|h<;>
      (simp only[h];cases g5<;>cases g6<;>cases g7<;>rfl)
    ·have e3:(m.Branch==c.Branch)=false:=by simpa using hb
     simp only[e3]
     rcases zej w3 with h|h|h|h|h|h|h|h|h|h|h|h|h|h|h<;>
      (simp only[h];cases g5<;>cases g6<;>cases g7<;>rfl)
end Go.Proofs.YtpaidiaknfhclaaGreatDoor
namespace Go.Proofs.YtpaidiaknfhclaaGreatDoor
open Ev
open Go (IntKind)
theorem za2r {branch:Int} {l:List Move} {item:Int} (hl:l.length<1000000000):qbq branch l item=some (zbf branch l item):=by
 unfold qbq zbf
 simp -zeta only[z9s,zd2]
 try dsimp only
 have h:=zdn (step:=zn2) (fun i c=>(item,l,(l.length:Int),(i:Int),(⟨0,0,0,0⟩:Custody),c,())) l
  (fun i x c=>bif x.Item==item then (bif (zav c x).2==0 then .inl (zav c x).1 else .inr (.inr ((i:Int),(zav c x).2,(⟨0,0,0,0⟩:Custody),()))) else .inl c)
  (fun c=>.inl (⟨0,0,0,0⟩,c,())) (by show l.length<18446744073709551616;omega) (fun c=>by simp only[zn2,dge,cond_false])
  (fun i x c hx=>by
   have hi:=(List.getElem?_eq_some_iff.1 hx).1
   simp only[zn2,dlt hi,zaj,hx,cond_true,zamd,zam (show i<9223372036854775807 by omega)]
   cases x.Item==item with
   |false=>rfl
   |true=>
    simp only[Bool.not_true,cond_false,cond_true]
    obtain ⟨d,e⟩:=zav c x
    cases he:e==0 with
    |true=>rfl
    |false=>rfl) (zif branch)
 rw[zlv item (fun c=>(.inl (⟨0,0,0,0⟩,c,()):(Custody×Custody×Unit)⊕(Int×Int×Custody×Unit))) (fun p=>.inr (p.1,p.2,(⟨0,0,0,0⟩:Custody),()))]at h
 cases (decide (branch<1)||decide (4<branch)) with
 |true=>rfl
 |false=>
  simp only[cond_false,qd5]
  rw[show zae zn2 (item,l,(l.length:Int),0,(⟨0,0,0,0⟩:Custody),(⟨1,branch,0,0⟩:Custody),())=_ from h]
  cases za8 0 l item (zif branch) with
  |inl c=>rfl
  |inr p=>rfl
theorem zalr {c:Circ} {item:Int} (hl:c.Items.length<1000000000):qao c item=some (fIdx (fun x=>x.ID==item) c.Items):=by
 unfold qao
 rw[zal9 (fun x=>x.ID==item) hl (fun x _=>rfl)]
theorem zle {c:Circ} {item:Int} (hl:c.Items.length<1000000000):(qao c item=some (-1)∧c.Items.find? (fun x=>x.ID==item)=none)∨
 ∃(i:Nat) (x:Item),qao c item=some (i:Int)∧c.Items[i]?=some x∧x.ID=item∧c.Items.find? (fun x=>x.ID==item)=some x:=by
 rw[zalr hl,←z91 hl]
 exact zjf hl
theorem zzj {c:Circ} {id:Int} (hl:c.Patrons.length<1000000000):qca id c=some (getP c.Patrons id).2:=by
 unfold qca
 rw[za2y hl]
theorem zamq {l:List Loan} {item:Int} (hl:l.length<1000000000):qed l item=some (zc8 l item):=by
 unfold qed qat qb3 zc8
 dsimp only
 rw[zamu (p:=fun (g:Unit×Int×Unit) x0=>qcd x0 g.2.1) (g:=((),(item,()))) (fun x=>x.Item==item) hl (fun x _=>rfl)]
 rcases zbq (fun x:Loan=>x.Item==item) l with ⟨h1,h2⟩|⟨i,x,h1,h2,h3,h4⟩
 ·simp only[h1,h2,zh3,cond_true]
  try rfl
 ·simp only[h1,h4,zgu,cond_false,zaj,h2]
  have:decide ((0:Int)≤(i:Int))=true:=by rw[decide_eq_true_eq];omega
  rw[this]
theorem za17 {c:Circ} {item:Int} (hl:c.Holds.length<1000000000):qa9 c item=some (ze3 c item):=by
 unfold qa9 ze3
 rw[zaly (p:=fun (g:Unit×Int×Unit) x0=>qcv x0 g.2.1) (g:=((),(item,()))) (fun x=>x.Got==item) hl (fun x _=>rfl)]
 rcases zbq (fun x:Hold=>x.Got==item) c.Holds with ⟨h1,h2⟩|⟨i,x,h1,h2,h3,h4⟩
 ·simp only[h1,h2,zh3,cond_true]
  try rfl
 ·simp only[h1,h4,zgu,cond_false,zaj,h2]
def za7 (x:Item):Bool:=rng 1 9999 x.ID&&rng 1 9999 x.Record&&rng 1 4 x.Branch&&rng 1 9 x.Kind&&rng 0 100000000 x.Price&&decide ((x.Call.length:Int)≤200)&&vld x.Call
theorem zamc (x:Item):qd4 x=some (za7 x):=by
 unfold qd4 za7
 simp -zeta only[zaz,zzi]
 dsimp only
 cases hb:(rng 1 9999 x.ID&&rng 1 9999 x.Record&&rng 1 4 x.Branch&&rng 1 9 x.Kind&&rng 0 100000000 x.Price&&decide ((x.Call.length:Int)≤200)) with
 |false=>rfl
 |true=>
  simp only[Bool.and_eq_true,decide_eq_true_eq]at hb
  have:decide (x.Call.length≤LIM)=true:=by rw[decide_eq_true_eq];unfold LIM;omega
  unfold qde
  rw[this]
  try rfl
theorem z93 {c:Circ} (hl:c.Items.length<1000000000):zae zvh (c.Items,(c.Items.length:Int),0,c,())=some (bif zch (fun i x=>!(!(za7 x)||zbb c.Items i (fun y=>decide (x.ID≤y.ID)))) 0 c.Items then .inl (c,()) else .inr (false,())):=by
 have h:=zat (step:=zvh) (fun i=>(c.Items,(c.Items.length:Int),(i:Int),c,())) c.Items (fun i x=>!(!(za7 x)||zbb c.Items i (fun y=>decide (x.ID≤y.ID)))) (.inr (false,())) (.inl (c,())) hl
  (by simp only[zvh,dge,cond_false])
  (fun i x hx=>by
   have hi:=(List.getElem?_eq_some_iff.1 hx).1
   rcases i with _|j
   ·simp -zeta only[zvh,dlt hi,zaj,hx,k_or,zme,cond_false,cond_true,zbb,zamc,zam (show 0<9223372036854775807 by omega)]
    dsimp only
    cases za7 x<;>rfl
   ·have hj:c.Items[j]?=some c.Items[j]:=List.getElem?_eq_getElem (by omega)
    simp -zeta only[zvh,dlt hi,zaj,hx,k_or,dpos,zep (show j<1000000000 by omega),hj,cond_false,cond_true,zbb,zamc,zam (show j+1<9223372036854775807 by omega)]
    dsimp only
    cases za7 x<;>cases decide (x.ID≤c.Items[j].ID)<;>rfl)
 exact h
def zbk (c:Circ) (x:Item):Bool:=!(!((zbf x.Branch c.Moves x.ID).2.2==0)||!(za1 (zbf x.Branch c.Moves x.ID).1 x.Custody))
def zpr (c:Circ):Bool:=c.Moves.all (fun m=>(c.Items.find? (fun x=>x.ID==m.Item)).isSome)
def zdd (c:Circ):Bool:=!(decide (64<(c.Items.length:Int))||decide (2000<(c.Moves.length:Int)))&&(zch (fun i x=>!(!(za7 x)||zbb c.Items i (fun y=>decide (x.ID≤y.ID)))) 0 c.Items&&(zpr c&&c.Items.all (zbk c)))
theorem za40 {c:Circ} (hs:Short c):qt c=some (zdd c):=by
 have h2:=zat (step:=zn9) (fun i=>(c.Moves,(c.Moves.length:Int),(i:Int),c,())) c.Moves (fun _ m=>(c.Items.find? (fun x=>x.ID==m.Item)).isSome) (.inr (false,())) (.inl (c,())) hs.moves
  (by simp only[zn9,dge,cond_false])
  (fun i x hx=>by
   have hi:=(List.getElem?_eq_some_iff.1 hx).1
   have:=hs.moves
   simp only[zn9,dlt hi,zaj,hx,cond_true,zam (show i<9223372036854775807 by omega)]
   rcases zle (item:=x.Item) hs.items with ⟨h1,h2⟩|⟨k,y,h1,h2,h3,h4⟩
   ·simp only[h1,h2,zh3,cond_true,Option.isSome_none,cond_false]
   ·simp only[h1,h4,zgu,cond_false,Option.isSome_some,cond_true])
 have h3:=zat (step:=zoa) (fun i=>(c.Items,(c.Items.length:Int),(i:Int),c,())) c.Items (fun _=>zbk c) (.inr (false,())) (.inl ()) hs.items
  (by simp only[zoa,dge,cond_false])
  (fun i x hx=>by
   have hi:=(List.getElem?_eq_some_iff.1 hx).1
   have:=hs.items
   unfold zbk
   simp -zeta only[zoa,dlt hi,zaj,hx,cond_true,k_or,za2r hs.moves,zam (show i<9223372036854775807 by omega)]
   dsimp only
   cases (!((zbf x.Branch c.Moves x.ID).2.2==0)||!(za1 (zbf x.Branch c.Moves x.ID).1 x.Custody))<;>rfl)
 unfold qt zdd zpr
 simp -zeta only[k_or]
 dsimp only
 rw[z93 hs.items]
 cases (decide (64<(c.Items.length:Int))||decide (2000<(c.Moves.length:Int))) with
 |true=>rfl
 |false=>
  cases zch (fun i x=>!(!(za7 x)||zbb c.Items i (fun y=>decide (x.ID≤y.ID)))) 0 c.Items with
  |false=>rfl
  |true=>
   simp only[cond_false,cond_true]
   rw[show zae zn9 (c.Moves,(c.Moves.length:Int),0,c,())=_ from h2,zay]
   cases c.Moves.all (fun m=>(c.Items.find? (fun x=>x.ID==m.Item)).isSome) with
   |false=>rfl
   |true=>
    simp only[cond_true]
    rw[show zae zoa (c.Items,(c.Items.length:Int),0,c,())=_ from h3,zay]
    cases c.Items.all (zbk c)<;>rfl
theorem z92 {c:Circ} (hs:Short c):zae zs5 (c.Cals,0,c,())=some (bif zd6 c then .inl (c,()) else .inr (false,())):=by
 have st:∀(i:Int) (w:Int) (cl:List Int) (hl:cl.length<1000000000),(match qv (⟨w,cl⟩:Calendar) with
  |some r16=>(bif !(r16==0) then some (.inr (.inr (false,()))) else some (.inl (c.Cals,i,c,())):Option (((V4 Calendar)×Int×Circ×Unit)⊕((Circ×Unit)⊕(Bool×Unit))))
  |none=>none)=bif zbi ⟨w,cl⟩==0 then some (.inl (c.Cals,i,c,())) else some (.inr (.inr (false,()))):=fun i w cl hl=>by
  rw[za41 (c:=⟨w,cl⟩) hl]
  dsimp only
  cases zbi ⟨w,cl⟩==0<;>rfl
 have s0:zs5 (c.Cals,0,c,())=bif zbi c.Cals.x0==0 then some (.inl (c.Cals,1,c,())) else some (.inr (.inr (false,()))):=st 1 _ _ hs.cal0
 have s1:zs5 (c.Cals,1,c,())=bif zbi c.Cals.x1==0 then some (.inl (c.Cals,2,c,())) else some (.inr (.inr (false,()))):=st 2 _ _ hs.cal1
 have s2:zs5 (c.Cals,2,c,())=bif zbi c.Cals.x2==0 then some (.inl (c.Cals,3,c,())) else some (.inr (.inr (false,()))):=st 3 _ _ hs.cal2
 have s3:zs5 (c.Cals,3,c,())=bif zbi c.Cals.x3==0 then some (.inl (c.Cals,4,c,())) else some (.inr (.inr (false,()))):=st 4 _ _ hs.cal3
 have s4:zs5 (c.Cals,4,c,())=some (.inr (.inl (c,()))):=rfl
 refine zfn 5 (by rw[zhy];omega) ?_
 unfold zd6
 simp only[zcw,s0,s1,s2,s3,s4]
 cases zbi c.Cals.x0==0 with
 |false=>rfl
 |true=>
  simp only[cond_true,zcw,s1]
  cases zbi c.Cals.x1==0 with
  |false=>rfl
  |true=>
   simp only[cond_true,zcw,s2]
   cases zbi c.Cals.x2==0 with
   |false=>rfl
   |true=>
    simp only[cond_true,zcw,s3]
    cases zbi c.Cals.x3==0 with
    |false=>rfl
    |true=>simp only[cond_true,zcw,s4];rfl
def zzf (c:Circ):Bool:=!(!(rng 1 100000 c.NextHold)||!(rng 1 100000 c.NextCharge))
def zy0 (c:Circ):Bool:=zdx c&&(zd6 c&&(zzf c&&(c.Holds.all (fun x=>!(decide (c.NextHold≤x.ID)))&&c.Charges.all (fun x=>!(decide (c.NextCharge≤x.ID))))))
theorem za4z {c:Circ} (hs:Short c):qs c=some (zy0 c):=by
 have h1:=zat (step:=zn7) (fun i=>(c.Holds,(c.Holds.length:Int),(i:Int),c,())) c.Holds (fun _ x=>!(decide (c.NextHold≤x.ID))) (.inr (false,())) (.inl (c,())) hs.holds
  (by simp only[zn7,dge,cond_false])
  (fun i x hx=>by
   have hi:=(List.getElem?_eq_some_iff.1 hx).1
   have:=hs.holds
   simp only[zn7,dlt hi,zaj,hx,cond_true,zam (show i<9223372036854775807 by omega)]
   cases decide (c.NextHold≤x.ID)<;>rfl)
 have h2:=zat (step:=zn8) (fun i=>(c.Charges,(c.Charges.length:Int),(i:Int),c,())) c.Charges (fun _ x=>!(decide (c.NextCharge≤x.ID))) (.inr (false,())) (.inl ()) hs.charges
  (by simp only[zn8,dge,cond_false])
  (fun i x hx=>by
   have hi:=(List.getElem?_eq_some_iff.1 hx).1
   have:=hs.charges
   simp only[zn8,dlt hi,zaj,hx,cond_true,zam (show i<9223372036854775807 by omega)]
   cases decide (c.NextCharge≤x.ID)<;>rfl)
 unfold qs zy0 zdx zzf
 simp -zeta only[k_or,za16 hs.patrons hs.name,za2l hs.loans,za4v hs.holds,za2m hs.charges,za42 hs.rules,zzi]
 dsimp only
 rw[z92 hs]
 have e:(!(zce c.Patrons==0)||!(zcl c.Loans==0)||!(zb7 c.Holds==0)||!(zcd c.Charges==0)||!(zda c.Rules==0))=(!(zce c.Patrons==0)||!(zcl c.Loans==0)||!(zb7 c.Holds==0)||!(zcd c.Charges==0)||!(zda c.Rules==0)):=rfl
 generalize (!(zce c.Patrons==0)||!(zcl c.Loans==0)||!(zb7 c.Holds==0)||!(zcd c.Charges==0)||!(zda c.Rules==0))=b1
 cases b1 with
 |true=>rfl
 |false=>
  cases zd6 c with
  |false=>rfl
  |true=>
   simp -zeta only[cond_false,cond_true,k_or,zzi]
   try dsimp only
   cases (!(rng 1 100000 c.NextHold)||!(rng 1 100000 c.NextCharge)) with
   |true=>rfl
   |false=>
    simp only[cond_false]
    rw[show zae zn7 (c.Holds,(c.Holds.length:Int),0,c,())=_ from h1,zay]
    cases c.Holds.all (fun x=>!(decide (c.NextHold≤x.ID))) with
    |false=>rfl
    |true=>
     simp only[cond_true]
     rw[show zae zn8 (c.Charges,(c.Charges.length:Int),0,c,())=_ from h2,zay]
     cases c.Charges.all (fun x=>!(decide (c.NextCharge≤x.ID)))<;>rfl
end Go.Proofs.YtpaidiaknfhclaaGreatDoor
namespace Go.Proofs.YtpaidiaknfhclaaGreatDoor
open Ev
open Go (IntKind)
def zhi (c:Circ) (item:Int):Bool:=(c.Items.find? (fun x=>x.ID==item)).isSome
def zw9 (c:Circ):Bool:=c.Loans.all (fun n=>!(!((getP c.Patrons n.Patron).2)||!(zhi c n.Item)))&&(c.Holds.all (fun h=>(getP c.Patrons h.Patron).2)&&c.Charges.all (fun x=>(getP c.Patrons x.Patron).2))
theorem za4t {c:Circ} (hs:Short c):qh c=some (zw9 c):=by
 have h1:=zat (step:=zvb) (fun i=>(c.Loans,(c.Loans.length:Int),(i:Int),c,())) c.Loans (fun _ n=>!(!((getP c.Patrons n.Patron).2)||!(zhi c n.Item))) (.inr (false,())) (.inl (c,())) hs.loans
  (by simp only[zvb,dge,cond_false])
  (fun i x hx=>by
   have hi:=(List.getElem?_eq_some_iff.1 hx).1
   have:=hs.loans
   unfold zhi
   rcases zle (item:=x.Item) hs.items with ⟨h1,h2⟩|⟨k,y,h1,h2,h3,h4⟩
   ·simp -zeta only[zvb,dlt hi,zaj,hx,cond_true,zzj hs.patrons,h1,h2,zh3,k_or,zam (show i<9223372036854775807 by omega)]
    dsimp only
    cases (getP c.Patrons x.Patron).2<;>rfl
   ·simp -zeta only[zvb,dlt hi,zaj,hx,cond_true,zzj hs.patrons,h1,h4,zgu,k_or,zam (show i<9223372036854775807 by omega)]
    dsimp only
    cases (getP c.Patrons x.Patron).2<;>rfl)
 have h2:=zat (step:=z2d) (fun i=>(c.Holds,(c.Holds.length:Int),(i:Int),c,())) c.Holds (fun _ h=>(getP c.Patrons h.Patron).2) (.inr (false,())) (.inl (c,())) hs.holds
  (by simp only[z2d,dge,cond_false])
  (fun i x hx=>by
   have hi:=(List.getElem?_eq_some_iff.1 hx).1
   have:=hs.holds
   simp only[z2d,dlt hi,zaj,hx,cond_true,zzj hs.patrons,zam (show i<9223372036854775807 by omega)]
   cases (getP c.Patrons x.Patron).2<;>rfl)
 have h3:=zat (step:=zn5) (fun i=>(c.Charges,(c.Charges.length:Int),(i:Int),c,())) c.Charges (fun _ h=>(getP c.Patrons h.Patron).2) (.inr (false,())) (.inl ()) hs.charges
  (by simp only[zn5,dge,cond_false])
  (fun i x hx=>by
   have hi:=(List.getElem?_eq_some_iff.1 hx).1
   have:=hs.charges
   simp only[zn5,dlt hi,zaj,hx,cond_true,zzj hs.patrons,zam (show i<9223372036854775807 by omega)]
   cases (getP c.Patrons x.Patron).2<;>rfl)
 unfold qh zw9
 rw[show zae zvb (c.Loans,(c.Loans.length:Int),0,c,())=_ from h1,zay]
 cases c.Loans.all (fun n=>!(!((getP c.Patrons n.Patron).2)||!(zhi c n.Item))) with
 |false=>rfl
 |true=>
  simp only[cond_true]
  rw[show zae z2d (c.Holds,(c.Holds.length:Int),0,c,())=_ from h2,zay]
  cases c.Holds.all (fun h=>(getP c.Patrons h.Patron).2) with
  |false=>rfl
  |true=>
   simp only[cond_true]
   rw[show zae zn5 (c.Charges,(c.Charges.length:Int),0,c,())=_ from h3,zay]
   cases c.Charges.all (fun x=>(getP c.Patrons x.Patron).2)<;>rfl
def zea (c:Circ) (x:Item):Bool:=!(!((zc8 c.Loans x.ID).2==zht x.Custody)||((zc8 c.Loans x.ID).2&&!((zc8 c.Loans x.ID).1.Patron==x.Custody.Who)))
theorem za2s {c:Circ} (hs:Short c):qbu c=some (c.Items.all (zea c)):=by
 have h1:=zat (step:=zn3) (fun i=>(c.Items,(c.Items.length:Int),(i:Int),c,())) c.Items (fun _=>zea c) (.inr (false,())) (.inl ()) hs.items
  (by simp only[zn3,dge,cond_false])
  (fun i x hx=>by
   have hi:=(List.getElem?_eq_some_iff.1 hx).1
   have:=hs.items
   unfold zea zht
   simp -zeta only[zn3,dlt hi,zaj,hx,cond_true,zamq hs.loans,k_or,zaz,zam (show i<9223372036854775807 by omega)]
   dsimp only
   cases (!((zc8 c.Loans x.ID).2==(x.Custody.State==4||x.Custody.State==9||x.Custody.State==10))||((zc8 c.Loans x.ID).2&&!((zc8 c.Loans x.ID).1.Patron==x.Custody.Who)))<;>rfl)
 unfold qbu
 rw[show zae zn3 (c.Items,(c.Items.length:Int),0,c,())=_ from h1,zay]
 cases c.Items.all (zea c)<;>rfl
def zw8 (x:Hold) (y:Item):Bool:=y.Record==x.Record&&(bif x.State==2 then za1 y.Custody ⟨6,y.Custody.Branch,x.Patron,x.Pickup⟩ else za1 y.Custody ⟨5,x.Pickup,x.Patron,0⟩)
def zq5 (c:Circ) (x:Hold):Bool:=x.State==1||(match c.Items.find? (fun y=>y.ID==x.Got) with|some y=>zw8 x y|none=>false)
theorem za2b {c:Circ} (hs:Short c):qae c=some (c.Holds.all (zq5 c)&&c.Items.all (zcc c)):=by
 have h1:=zat (step:=zld) (fun i=>(c.Holds,(c.Holds.length:Int),(i:Int),c,())) c.Holds (fun _=>zq5 c) (.inr (false,())) (.inl (c,())) hs.holds
  (by simp only[zld,dge,cond_false])
  (fun i x hx=>by
   have hi:=(List.getElem?_eq_some_iff.1 hx).1
   have:=hs.holds
   unfold zq5 zw8
   rcases zle (item:=x.Got) hs.items with ⟨h1,h2⟩|⟨k,y,h1,h2,h3,h4⟩
   ·simp -zeta only[zld,dlt hi,zaj,hx,cond_true,h1,h2,zh3,zam (show i<9223372036854775807 by omega)]
    dsimp only
    cases x.State==1<;>rfl
   ·simp -zeta only[zld,dlt hi,zaj,hx,cond_true,h1,h2,h4,zgu,cond_false,zam (show i<9223372036854775807 by omega)]
    dsimp only
    generalize za1 y.Custody ⟨6,y.Custody.Branch,x.Patron,x.Pickup⟩=b1
    generalize za1 y.Custody ⟨5,x.Pickup,x.Patron,0⟩=b2
    cases x.State==1<;>cases x.State==2<;>cases y.Record==x.Record<;>cases b1<;>cases b2<;>rfl)
 have h2:=zat (step:=zie) (fun i=>(c.Items,(c.Items.length:Int),(i:Int),c,())) c.Items (fun _=>zcc c) (.inr (false,())) (.inl ()) hs.items
  (by simp only[zie,dge,cond_false])
  (fun i x hx=>by
   have hi:=(List.getElem?_eq_some_iff.1 hx).1
   have:=hs.items
   unfold zcc
   simp -zeta only[zie,dlt hi,zaj,hx,cond_true,k_or,zaz,za17 hs.holds,zam (show i<9223372036854775807 by omega)]
   dsimp only
   cases x.Custody.State==5<;>cases (ze3 c x.ID).2<;>cases (ze3 c x.ID).1.State==3<;>rfl)
 unfold qae
 rw[show zae zld (c.Holds,(c.Holds.length:Int),0,c,())=_ from h1,zay]
 cases c.Holds.all (zq5 c) with
 |false=>rfl
 |true=>
  simp only[cond_true]
  rw[show zae zie (c.Items,(c.Items.length:Int),0,c,())=_ from h2,zay]
  cases c.Items.all (zcc c)<;>rfl
def zzp (c:Circ):Bool:=rng 0 109572 c.Today&&zdd c&&zy0 c&&zw9 c&&c.Items.all (zea c)&&(c.Holds.all (zq5 c)&&c.Items.all (zcc c))
theorem zau1 {c:Circ} (hs:Short c):qdr c=some (zzp c):=by
 unfold qdr zzp
 simp -zeta only[zaz,zzi,za40 hs,za4z hs,za4t hs,za2s hs,za2b hs]
 try dsimp only
theorem zhx {X:Type} {key:X→Int} {l:List X} (h:∀i x,l[i]?=some x→zbb l i (fun y=>decide (key x≤key y))=false):∀(j i:Nat) (x y:X),i<j→l[i]?=some x→l[j]?=some y→key x<key y:=by
 intro j
 induction j with
 |zero=>intro i x y hi;omega
 |succ j ih=>
  intro i x y hi hx hy
  have hj:=(List.getElem?_eq_some_iff.1 hy).1
  have hz:l[j]?=some l[j]:=List.getElem?_eq_getElem (by omega)
  have:=h _ _ hy
  simp only[zbb,hz,decide_eq_false_iff_not]at this
  by_cases e:i=j
  ·subst e
   rw[hz]at hx;cases hx;omega
  ·have:=ih i x l[j] (by omega) hx hz
   omega
theorem zl1 {X:Type} {key:X→Int} {l:List X} (h:∀i x,l[i]?=some x→zbb l i (fun y=>decide (key x≤key y))=false) {x:X} (hx:x∈l):l.find? (fun y=>key y==key x)=some x:=by
 rcases zbq (fun y=>key y==key x) l with ⟨h1,h2⟩|⟨i,y,h1,h2,h3,h4⟩
 ·rw[List.find?_eq_none]at h2
  exact absurd (beq_self_eq_true _) (h2 x hx)
 ·rw[h4]
  obtain ⟨j,hj⟩:=List.getElem?_of_mem hx
  have e:key y=key x:=by simpa using h3
  by_cases hij:i=j
  ·subst hij;rw[h2]at hj;exact hj
  ·rcases Nat.lt_or_gt_of_ne hij with hlt|hlt
   ·have:=zhx h _ _ _ _ hlt h2 hj;omega
   ·have:=zhx h _ _ _ _ hlt hj h2;omega
theorem zhh {X:Type} {f:Nat→X→Int}:∀{l:List X} {k:Nat},zbj f k l=0→∀i x,l[i]?=some x→f (k+i) x=0:=by
 intro l
 induction l with
 |nil=>intro k _ i x hx;simp at hx
 |cons y l ih=>
  intro k h i x hx
  unfold zbj at h
  by_cases e:f k y=0
  ·rw[e]at h
   simp only[beq_self_eq_true,if_true]at h
   cases i with
   |zero=>simp at hx;subst hx;exact e
   |succ i=>have:=ih h i x (by simpa using hx);rwa [show k+(i+1)=k+1+i by omega]
  ·have:(f k y==0)=false:=by simpa using e
   rw[this]at h
   exact absurd h e
theorem zca {b:Bool} {n m:Int} (h:(bif b then n else m)=0) (hn:n≠0):b=false:=by
 cases b with
 |false=>rfl
 |true=>exact absurd h hn
theorem zrq {l:List Loan} (h:zcl l=0):∀i x,l[i]?=some x→zbb l i (fun y=>decide (x.Item≤y.Item))=false:=by
 intro i x hx
 unfold zcl at h
 have hb:=zca h (by decide)
 rw[hb]at h
 have:=zhh (k:=0) h i x hx
 rw[Nat.zero_add]at this
 unfold zd1 at this
 exact zca this (by decide)
theorem zhn {l:List Hold} (h:zb7 l=0):zbj (zcj l) 0 l=0:=by
 unfold zb7 at h
 rw[zca h (by decide)]at h
 simp only[cond_false]at h
 by_cases e:zbj (zcj l) 0 l=0
 ·exact e
 ·have h2:(zbj (zcj l) 0 l==0)=false:=by simpa using e
  rw[h2]at h
  exact h
theorem zq6 {l:List Hold} (h:zb7 l=0):∀i x,l[i]?=some x→zbb l i (fun y=>decide (x.ID≤y.ID))=false:=by
 intro i x hx
 have:=zhh (k:=0) (zhn h) i x hx
 rw[Nat.zero_add,zfs]at this
 exact zca this (by decide)
theorem zh5 {l:List Hold} (h:zb7 l=0) {x:Hold} (hx:x∈l):za6 x=0:=by
 obtain ⟨i,hi⟩:=List.getElem?_of_mem hx
 have:=zhh (k:=0) (zhn h) i x hi
 rw[Nat.zero_add,zfs]at this
 rw[zca this (by decide)]at this
 exact this
theorem zm8 {x:Hold} (h:za6 x=0):x.State=1∨x.State=2∨x.State=3:=by
 unfold za6 at h
 rw[zca h (by decide)]at h
 simp only[cond_false]at h
 have:=zca h (by decide)
 simp only[Bool.or_eq_false_iff,decide_eq_false_iff_not]at this
 omega
def zaib (c:Custody):Prop:=c.State=6∨c.To=0
theorem zz1 {c:Custody} {m:Move} (h:((zav c m).2==0)=true):zaib (zav c m).1:=by
 unfold zav at h ⊢
 cases e1:(!(zg0 c)||!(zig m)) with
 |true=>rw[e1]at h;cases h
 |false=>
  rw[e1]at h
  simp only[cond_false]at h ⊢
  cases e2:!(zg5 c.State m.Kind) with
  |true=>rw[e2]at h;cases h
  |false=>
   rw[e2]at h
   simp only[cond_false]at h ⊢
   cases e3:(m.Kind==3&&c.State==5&&!(m.Who==c.Who)) with
   |true=>rw[e3]at h;cases h
   |false=>
    rw[e3]at h
    simp only[cond_false]at h ⊢
    cases e4:!(zs3 c m) with
    |true=>rw[e4]at h;cases h
    |false=>
     simp only[cond_false]
     cases (zc6 m.Kind==2) with
     |true=>exact .inr rfl
     |false=>
      simp only[cond_false]
      cases (zc6 m.Kind==4||(zc6 m.Kind==5||zc6 m.Kind==8)) with
      |true=>exact .inr rfl
      |false=>
       simp only[cond_false]
       cases e5:(zc6 m.Kind==6) with
       |true=>exact .inl (by simpa using e5)
       |false=>
        simp only[cond_false]
        cases (zc6 m.Kind==9||zc6 m.Kind==10) with
        |true=>exact .inr rfl
        |false=>exact .inr rfl
theorem zvn:∀{l:List Move} {i:Nat} {item:Int} {c d:Custody},zaib c→za8 i l item c=.inl d→zaib d:=by
 intro l
 induction l with
 |nil=>intro i item c d hc h;simp only[za8]at h;cases h;exact hc
 |cons x l ih=>
  intro i item c d hc h
  simp only[za8]at h
  cases e:x.Item==item with
  |false=>rw[e]at h;exact ih hc h
  |true=>
   rw[e]at h
   simp only[cond_true]at h
   cases e2:(zav c x).2==0 with
   |true=>rw[e2]at h;exact ih (zz1 e2) h
   |false=>rw[e2]at h;cases h
theorem zb2 {a b:Custody}:za1 a b=true↔a=b:=by
 obtain ⟨a1,a2,a3,a4⟩:=a
 obtain ⟨b1,b2,b3,b4⟩:=b
 unfold za1
 simp[Bool.and_eq_true]
 try (constructor<;>(intro h;simp_all))
theorem zs7 {c:Circ} {x:Item} (h:zbk c x=true):zaib x.Custody:=by
 unfold zbk at h
 simp only[Bool.not_eq_true',Bool.or_eq_false_iff,Bool.not_eq_false']at h
 obtain ⟨h1,h2⟩:=h
 have e:=zb2.1 h2
 rw[←e]
 unfold zbf at h1 ⊢
 cases hb:(decide (x.Branch<1)||decide (4<x.Branch)) with
 |true=>exact .inr rfl
 |false=>
  rw[hb]at h1
  simp only[cond_false]at h1 ⊢
  cases hr:za8 0 c.Moves x.ID (zif x.Branch) with
  |inl d=>exact zvn (.inr rfl) hr
  |inr p=>exact .inr rfl
end Go.Proofs.YtpaidiaknfhclaaGreatDoor
namespace Go.Proofs.YtpaidiaknfhclaaGreatDoor
open Ev
open Go (IntKind)
theorem zuq (c:Circ) (i:Nat) (x:Item):zd9 c i x=(!(!(za7 x)||zbb c.Items i (fun y=>decide (x.ID≤y.ID)))&&zbk c x):=by
 unfold zd9 zbk za7
 rw[Bool.eq_iff_iff]
 simp only[Bool.and_eq_true,Bool.not_eq_true',Bool.or_eq_false_iff,decide_eq_false_iff_not,Bool.not_eq_false',zem,decide_eq_true_eq]
 constructor
 ·rintro ⟨⟨h1,h2⟩,h3⟩
  obtain ⟨⟨⟨⟨⟨⟨a1,a2⟩,a3⟩,a4⟩,a5⟩,a6⟩,a7⟩:=h1
  obtain ⟨⟨⟨⟨⟨b1,b2⟩,b3⟩,b4⟩,b5⟩,b6⟩:=h2
  refine ⟨⟨⟨⟨⟨⟨⟨⟨⟨?_,?_⟩,⟨?_,?_⟩⟩,⟨?_,?_⟩⟩,⟨?_,?_⟩⟩,⟨?_,?_⟩⟩,?_⟩,b6⟩,a3⟩,h3⟩<;>omega
 ·rintro ⟨⟨h1,a3⟩,h3⟩
  obtain ⟨⟨⟨⟨⟨⟨⟨a1,a2⟩,⟨a4,a5⟩⟩,⟨a6,a7⟩⟩,⟨a8,a9⟩⟩,⟨b1,b2⟩⟩,b3⟩,b4⟩:=h1
  refine ⟨⟨⟨⟨⟨⟨⟨⟨?_,?_⟩,a3⟩,?_⟩,?_⟩,?_⟩,?_⟩,⟨⟨⟨⟨⟨?_,?_⟩,?_⟩,?_⟩,?_⟩,b4⟩⟩,h3⟩<;>omega
theorem zf9 (c:Circ):zfg c=zdd c:=by
 have key:zch (zd9 c) 0 c.Items=(zch (fun i x=>!(!(za7 x)||zbb c.Items i (fun y=>decide (x.ID≤y.ID)))) 0 c.Items&&c.Items.all (zbk c)):=by
  have gen:∀(l:List Item) (k:Nat),zch (zd9 c) k l=(zch (fun i x=>!(!(za7 x)||zbb c.Items i (fun y=>decide (x.ID≤y.ID)))) k l&&l.all (zbk c)):=by
   intro l
   induction l with
   |nil=>intro k;rfl
   |cons x l ih=>
    intro k
    simp only[zch,List.all_cons]
    rw[ih,zuq]
    generalize (!(!(za7 x)||zbb c.Items k (fun y=>decide (x.ID≤y.ID))))=b1
    generalize zch (fun i x=>!(!(za7 x)||zbb c.Items i (fun y=>decide (x.ID≤y.ID)))) (k+1) l=b2
    cases b1<;>cases b2<;>cases zbk c x<;>cases l.all (zbk c)<;>rfl
  exact gen _ _
 unfold zfg zdd zpr
 rw[key]
 generalize (!(decide (64<(c.Items.length:Int))||decide (2000<(c.Moves.length:Int))))=b1
 generalize zch (fun i x=>!(!(za7 x)||zbb c.Items i (fun y=>decide (x.ID≤y.ID)))) 0 c.Items=b2
 generalize c.Moves.all (fun m=>(c.Items.find? (fun x=>x.ID==m.Item)).isSome)=b3
 cases b1<;>cases b2<;>cases b3<;>cases c.Items.all (zbk c)<;>rfl
theorem ziq {c:Circ} (h:zdd c=true):∀i x,c.Items[i]?=some x→zbb c.Items i (fun y=>decide (x.ID≤y.ID))=false:=by
 intro i x hx
 unfold zdd at h
 simp only[Bool.and_eq_true]at h
 have:=(zjl.1 h.2.1) i x hx
 rw[Nat.zero_add]at this
 simp only[Bool.not_eq_true',Bool.or_eq_false_iff]at this
 exact this.2
theorem zex {c:Circ} (h:zdd c=true) {x:Item} (hx:x∈c.Items):zbk c x=true:=by
 unfold zdd at h
 simp only[Bool.and_eq_true,List.all_eq_true]at h
 exact h.2.2.2 x hx
theorem zmj {c:Circ} (h:zdx c=true):zcl c.Loans=0∧zb7 c.Holds=0:=by
 unfold zdx at h
 simp only[Bool.not_eq_true',Bool.or_eq_false_iff,Bool.not_eq_false',beq_iff_eq]at h
 exact ⟨h.1.1.1.2,h.1.1.2⟩
theorem z02 {l:List Loan} {n:Loan} (h:l.find? (fun y=>y.Item==n.Item)=some n):zc8 l n.Item=(n,true):=by
 unfold zc8;rw[h]
theorem zuu {c:Circ} (hi:zdd c=true) (hl:zcl c.Loans=0) (hk:∀n∈c.Loans,(getP c.Patrons n.Patron).2=true) :
 zcp c=(c.Loans.all (fun n=>zhi c n.Item)&&c.Items.all (zea c)):=by
 rw[Bool.eq_iff_iff]
 unfold zcp
 simp only[Bool.and_eq_true,List.all_eq_true]
 constructor
 ·rintro ⟨h1,h2⟩
  refine ⟨fun n hn=>?_,fun x hx=>?_⟩
  ·have:=h1 n hn
   unfold zc9 at this
   unfold zhi
   cases hf:c.Items.find? (fun x=>x.ID==n.Item) with
   |none=>rw[hf]at this;cases this
   |some y=>rfl
  ·have e:=h2 x hx
   unfold zea
   rw[e,Bool.not_true,Bool.false_or]
   cases hf:(zc8 c.Loans x.ID).2 with
   |false=>rfl
   |true=>
    unfold zc8 at hf ⊢
    cases hg:c.Loans.find? (fun n=>n.Item==x.ID) with
    |none=>rw[hg]at hf;cases hf
    |some n=>
     have hm:=List.mem_of_find?_eq_some hg
     have hit:n.Item=x.ID:=by have:=List.find?_some hg;simpa using this
     have:=h1 n hm
     unfold zc9 at this
     have hs:=zl1 (key:=fun y:Item=>y.ID) (ziq hi) hx
     rw[hit,hs]at this
     simp only[Bool.not_eq_true',Bool.or_eq_false_iff,Bool.not_eq_false',beq_iff_eq]at this
     simp[this.2]
 ·rintro ⟨h1,h2⟩
  refine ⟨fun n hn=>?_,fun x hx=>?_⟩
  ·have hf:=h1 n hn
   unfold zhi at hf
   cases hg:c.Items.find? (fun x=>x.ID==n.Item) with
   |none=>rw[hg]at hf;cases hf
   |some x=>
    have hm:=List.mem_of_find?_eq_some hg
    have hit:x.ID=n.Item:=by have:=List.find?_some hg;simpa using this
    have:=h2 x hm
    unfold zea at this
    have hs:=z02 (zl1 (key:=fun y:Loan=>y.Item) (zrq hl) hn)
    rw[hit,hs]at this
    simp only[Bool.not_eq_true',Bool.or_eq_false_iff,Bool.true_and,Bool.not_eq_false',beq_iff_eq]at this
    unfold zc9
    rw[hg]
    show (!(!(getP c.Patrons n.Patron).2||!(zht x.Custody)||!(x.Custody.Who==n.Patron)))=true
    have e1:zht x.Custody=true:=by have:=this.1;simpa using this.symm
    rw[hk n hn,e1,this.2]
    simp
  ·have:=h2 x hx
   unfold zea at this
   simp only[Bool.not_eq_true',Bool.or_eq_false_iff,Bool.not_eq_false']at this
   exact this.1
theorem zum {c:Circ} (hi:zdd c=true) {h:Hold} (hh:za6 h=0):zd8 c h=((getP c.Patrons h.Patron).2&&!(decide (c.NextHold≤h.ID))&&zq5 c h):=by
 unfold zd8 zq5
 have e:(!(!(getP c.Patrons h.Patron).2||decide (c.NextHold≤h.ID)))=((getP c.Patrons h.Patron).2&&!(decide (c.NextHold≤h.ID))):=by cases (getP c.Patrons h.Patron).2<;>rfl
 rw[e]
 congr 1
 rcases zm8 hh with hs|hs|hs
 ·simp[hs]
 ·have e1:(h.State==1)=false:=by rw[hs];rfl
  have e2:(h.State==2)=true:=by rw[hs];rfl
  have e3:(h.State==3)=false:=by rw[hs];rfl
  rw[e1,Bool.false_or,Bool.false_or]
  cases hg:c.Items.find? (fun x=>x.ID==h.Got) with
  |none=>rfl
  |some y=>
   unfold zw8
   simp only[e2,e3,Bool.false_and,Bool.not_false,Bool.and_true,Bool.true_and,Bool.not_not,cond_true]
   congr 1
   unfold za1
   simp only[beq_self_eq_true,Bool.true_and,Bool.and_true]
   cases y.Custody.State==6<;>cases y.Custody.To==h.Pickup<;>cases y.Custody.Who==h.Patron<;>rfl
 ·have e1:(h.State==1)=false:=by rw[hs];rfl
  have e2:(h.State==2)=false:=by rw[hs];rfl
  have e3:(h.State==3)=true:=by rw[hs];rfl
  rw[e1,Bool.false_or,Bool.false_or]
  cases hg:c.Items.find? (fun x=>x.ID==h.Got) with
  |none=>rfl
  |some y=>
   have ha:=zs7 (zex hi (List.mem_of_find?_eq_some hg))
   unfold zw8
   simp only[e2,e3,Bool.false_and,Bool.not_false,Bool.and_true,Bool.true_and,Bool.not_not,cond_false]
   congr 1
   unfold za1
   simp only[Bool.and_true]
   cases h5:y.Custody.State==5 with
   |false=>simp
   |true=>
    have:y.Custody.To=0:=by
     rcases ha with h6|h6
     ·simp at h5;omega
     ·exact h6
    rw[this]
    cases y.Custody.Branch==h.Pickup<;>cases y.Custody.Who==h.Patron<;>rfl
theorem zok {X:Type} {p q:X→Bool} {l:List X}:l.all (fun x=>p x&&q x)=(l.all p&&l.all q):=by
 induction l with
 |nil=>rfl
 |cons x l ih=>simp only[List.all_cons];rw[ih];cases p x<;>cases q x<;>cases l.all p<;>rfl
theorem zjm {X:Type} {p q:X→Bool} {l:List X} (h:∀x∈l,p x=q x):l.all p=l.all q:=by
 induction l with
 |nil=>rfl
 |cons x l ih=>simp only[List.all_cons];rw[h x (List.mem_cons_self ..),ih (fun y hy=>h y (List.mem_cons_of_mem _ hy))]
theorem zaad (c:Circ):zzp c=zel c:=by
 unfold zzp zel
 rw[zf9]
 have en:zgj c=(rng 0 109572 c.Today&&zzf c):=by
  unfold zgj zzf
  rw[Bool.eq_iff_iff]
  simp only[Bool.and_eq_true,Bool.not_eq_true',Bool.or_eq_false_iff,decide_eq_false_iff_not,Bool.not_eq_false',zem]
  omega
 have ec:c.Charges.all (zdj c)=(c.Charges.all (fun x=>(getP c.Patrons x.Patron).2)&&c.Charges.all (fun x=>!(decide (c.NextCharge≤x.ID)))):=by
  rw[←zok]
  exact zjm (fun x _=>by unfold zdj;rw[Bool.not_or,Bool.not_not])
 rw[en,ec]
 unfold zy0 zw9
 have ek:c.Loans.all (fun n=>!(!((getP c.Patrons n.Patron).2)||!(zhi c n.Item)))=(c.Loans.all (fun n=>(getP c.Patrons n.Patron).2)&&c.Loans.all (fun n=>zhi c n.Item)):=by
  rw[←zok]
  exact zjm (fun x _=>by rw[Bool.not_or,Bool.not_not,Bool.not_not])
 rw[ek]
 cases hi:zdd c with
 |false=>simp
 |true=>
  cases hl:zdx c with
  |false=>simp
  |true=>
   obtain ⟨l1,l2⟩:=zmj hl
   have eh:zdw c=((c.Holds.all (fun h=>(getP c.Patrons h.Patron).2)&&c.Holds.all (fun x=>!(decide (c.NextHold≤x.ID)))&&c.Holds.all (zq5 c))&&c.Items.all (zcc c)):=by
    unfold zdw
    congr 1
    rw[←zok,←zok]
    exact zjm (fun x hx=>zum hi (zh5 l2 hx))
   rw[eh]
   cases hp:c.Loans.all (fun n=>(getP c.Patrons n.Patron).2) with
   |true=>
    rw[zuu hi l1 (fun n hn=>by rw[List.all_eq_true]at hp;exact hp n hn)]
    simp only[Bool.true_and,Bool.and_true]
    rw[Bool.eq_iff_iff]
    simp only[Bool.and_eq_true]
    constructor
    ·rintro ⟨⟨⟨⟨a1,a2,a3,a4,a5⟩,a6,a7,a8⟩,a9⟩,b1,b2⟩
     exact ⟨⟨a1,a3⟩,a2,⟨a8,a5⟩,⟨a6,a9⟩,⟨⟨a7,a4⟩,b1⟩,b2⟩
    ·rintro ⟨⟨a1,a3⟩,a2,⟨a8,a5⟩,⟨a6,a9⟩,⟨⟨a7,a4⟩,b1⟩,b2⟩
     exact ⟨⟨⟨⟨a1,a2,a3,a4,a5⟩,a6,a7,a8⟩,a9⟩,b1,b2⟩
   |false=>
    have:zcp c=false:=by
     cases hg:zcp c with
     |false=>rfl
     |true=>
      exfalso
      have:c.Loans.all (fun n=>(getP c.Patrons n.Patron).2)=true:=by
       rw[List.all_eq_true]
       intro n hn
       unfold zcp at hg
       simp only[Bool.and_eq_true,List.all_eq_true]at hg
       have:=hg.1 n hn
       unfold zc9 at this
       cases hf:c.Items.find? (fun x=>x.ID==n.Item) with
       |none=>rw[hf]at this;cases this
       |some x=>
        rw[hf]at this
        simp only[Bool.not_eq_true',Bool.or_eq_false_iff,Bool.not_eq_false']at this
        exact this.1.1
      rw[this]at hp;cases hp
    rw[this]
    simp
theorem zaml {c:Circ} (hs:Short c):qdr c=some (zel c):=by
 rw[zau1 hs,zaad]
end Go.Proofs.YtpaidiaknfhclaaGreatDoor
namespace Go.Proofs.YtpaidiaknfhclaaGreatDoor
open Ev
open Go (IntKind)
end Go.Proofs.YtpaidiaknfhclaaGreatDoor
namespace Go.Proofs.YtpaidiaknfhclaaGreatDoor
open Ev
open Go (IntKind)
theorem zki {n m:Nat} (h:n+m≤1000000100):decide (n+m≤LIM)=true:=by rw[decide_eq_true_eq];unfold LIM;omega
theorem zou {X:Type} {s:List X} (h:s.length<1000000000):decide (([]:List X).length+s.length≤LIM)=true:=zki (by simp;omega)
def zc4:Circ:=⟨0,[],[],[],[],[],[],⟨⟨0,[]⟩,⟨0,[]⟩,⟨0,[]⟩,⟨0,[]⟩⟩,[],0,0,false⟩
end Go.Proofs.YtpaidiaknfhclaaGreatDoor
namespace Go.Proofs.YtpaidiaknfhclaaGreatDoor
open Ev
open Go (IntKind)
def owed (p:Int):List Charge→Int
 | []=>0
 |x::l=>(bif x.Patron==p then x.Amount-x.Paid else 0)+owed p l
end Go.Proofs.YtpaidiaknfhclaaGreatDoor
namespace Go.Proofs.YtpaidiaknfhclaaGreatDoor
open Ev
open Go (IntKind)
end Go.Proofs.YtpaidiaknfhclaaGreatDoor
namespace Go.Proofs.YtpaidiaknfhclaaGreatDoor
open Ev
open Go (IntKind)
def calS (c:Circ) (b:Int):Calendar:=bif b==1 then c.Cals.x0 else bif b==2 then c.Cals.x1 else bif b==3 then c.Cals.x2 else c.Cals.x3
end Go.Proofs.YtpaidiaknfhclaaGreatDoor
namespace Go.Proofs.YtpaidiaknfhclaaGreatDoor
open Ev
open Go (IntKind)
end Go.Proofs.YtpaidiaknfhclaaGreatDoor
namespace Go.Proofs.YtpaidiaknfhclaaGreatDoor
open Ev
open Go (IntKind)
structure CalOk (c:Calendar):Prop where
 w1:0≤c.Week
 w2:c.Week≤126
 len:c.Closed.length<1000000000
 inc:incr c.Closed=true
theorem zadv {c:Calendar} (h:(zbi c==0)=true):CalOk c:=by
 have h:zbi c=0:=by simpa using h
 unfold zbi at h
 have h1:=zca h (by decide)
 rw[h1]at h
 simp only[cond_false]at h
 have h2:=zca h (by decide)
 rw[h2]at h
 simp only[cond_false]at h
 simp only[Bool.or_eq_false_iff,decide_eq_false_iff_not]at h1 h2
 cases h3:c.Closed.all (fun x=>!(decide (x<0)||decide (109572<x))) with
 |false=>rw[h3]at h;cases h
 |true=>
  rw[h3]at h
  cases h4:incr c.Closed with
  |false=>rw[h4]at h;cases h
  |true=>exact ⟨by omega,by omega,by omega,h4⟩
end Go.Proofs.YtpaidiaknfhclaaGreatDoor
namespace Go.Proofs.YtpaidiaknfhclaaGreatDoor
open Ev
open Go (IntKind)
end Go.Proofs.YtpaidiaknfhclaaGreatDoor
namespace Go.Proofs.YtpaidiaknfhclaaGreatDoor
open Ev
open Go (IntKind)
theorem zpf {l:List Loan} {item:Int} (hl:l.length<1000000000):qb3 (fun (g:Unit×Int×Unit) x0=>qcd x0 g.2.1) l ((),(item,())) =
 some (match l.find? (fun n=>n.Item==item) with|some x=>(x,fIdx (fun n=>n.Item==item) l)|none=>((⟨0,0,0,0,0,false⟩:Loan),-1)):=by
 unfold qb3
 rw[zamu (p:=fun (g:Unit×Int×Unit) x0=>qcd x0 g.2.1) (g:=((),(item,()))) (fun x=>x.Item==item) hl (fun x _=>rfl)]
 rcases zbq (fun x:Loan=>x.Item==item) l with ⟨h1,h2⟩|⟨i,x,h1,h2,h3,h4⟩
 ·simp only[h1,h2,zh3,cond_true]
 ·simp only[h1,h4,zgu,cond_false,zaj,h2]
def zj4 (c:Circ) (l:List Loan):Circ:=⟨c.Today,c.Items,c.Patrons,l,c.Holds,c.Charges,c.Rules,c.Cals,c.Moves,c.NextHold,c.NextCharge,c.Local⟩
end Go.Proofs.YtpaidiaknfhclaaGreatDoor
namespace Go.Proofs.YtpaidiaknfhclaaGreatDoor
open Ev
open Go (IntKind)
structure FitP (c:Circ):Prop where
 charges:zcd c.Charges=0
 loans:zcl c.Loans=0
 holds:zb7 c.Holds=0
 rules:zda c.Rules=0
 patrons:zce c.Patrons=0
 cal0:CalOk c.Cals.x0
 cal1:CalOk c.Cals.x1
 cal2:CalOk c.Cals.x2
 cal3:CalOk c.Cals.x3
 items:zdd c=true
 loanG:∀n∈c.Loans,zc9 c n=true
 itemG:∀x∈c.Items,(zc8 c.Loans x.ID).2=zht x.Custody
 holdG:∀h∈c.Holds,zd8 c h=true
 readyG:∀x∈c.Items,zcc c x=true
 nums:zgj c=true
theorem fitP {c:Circ} (h:zel c=true):FitP c:=by
 unfold zel at h
 rw[zf9]at h
 simp only[Bool.and_eq_true]at h
 obtain ⟨h1,h2,h3,h4,h5,h6,h7⟩:=h
 unfold zdx at h2
 simp only[Bool.not_eq_true',Bool.or_eq_false_iff,Bool.not_eq_false',beq_iff_eq]at h2
 unfold zd6 at h3
 simp only[Bool.and_eq_true]at h3
 unfold zcp at h6
 unfold zdw at h7
 simp only[Bool.and_eq_true,List.all_eq_true,beq_iff_eq]at h6 h7
 exact ⟨h2.1.2,h2.1.1.1.2,h2.1.1.2,h2.2,h2.1.1.1.1,zadv h3.1,zadv h3.2.1,zadv h3.2.2.1,zadv h3.2.2.2,h5,h6.1,h6.2,h7.1,h7.2,h1⟩
theorem zaod {c:Circ} (h:FitP c) (b:Int):CalOk (calS c b):=by
 unfold calS
 cases b==1 with
 |true=>exact h.cal0
 |false=>
  cases b==2 with
  |true=>exact h.cal1
  |false=>
   cases b==3 with
   |true=>exact h.cal2
   |false=>exact h.cal3
theorem zau4 {c:Circ} (h:FitP c) {r:Rule} (hr:r∈c.Rules):zhu r=true:=by
 have h:=h.rules
 unfold zda at h
 rw[zca h (by decide)]at h
 obtain ⟨i,hi⟩:=List.getElem?_of_mem hr
 have:=zhh (k:=0) h i r hi
 rw[Nat.zero_add]at this
 unfold zd3 at this
 have:=zca this (by decide)
 simpa using this
def zfo (c:Custody):Prop:=rng 1 4 c.Branch=true
theorem ztb {c:Custody} (h:zg0 c=true):zfo c:=by
 unfold zg0 at h
 unfold zfo
 cases hq:(decide (c.State<1)||decide (12<c.State)||decide (c.Branch<1)||decide (4<c.Branch)) with
 |true=>rw[hq]at h;cases h
 |false=>
  simp only[Bool.or_eq_false_iff,decide_eq_false_iff_not]at hq
  rw[zem];omega
theorem zp5 {m:Move} (h:zig m=true):rng 1 4 m.Branch=true:=by
 unfold zig at h
 simp only[Bool.and_eq_true,decide_eq_true_eq]at h
 rw[zem];omega
theorem zg6 {c:Custody} {m:Move} (h:((zav c m).2==0)=true):zfo (zav c m).1:=by
 unfold zav at h ⊢
 cases e1:(!(zg0 c)||!(zig m)) with
 |true=>rw[e1]at h;cases h
 |false=>
  have e0:=e1
  simp only[Bool.or_eq_false_iff,Bool.not_eq_false']at e0
  have b1:=ztb e0.1
  have b2:=zp5 e0.2
  rw[e1]at h
  simp only[cond_false]at h ⊢
  cases e2:!(zg5 c.State m.Kind) with
  |true=>rw[e2]at h;cases h
  |false=>
   rw[e2]at h
   simp only[cond_false]at h ⊢
   cases e3:(m.Kind==3&&c.State==5&&!(m.Who==c.Who)) with
   |true=>rw[e3]at h;cases h
   |false=>
    rw[e3]at h
    simp only[cond_false]at h ⊢
    cases e4:!(zs3 c m) with
    |true=>rw[e4]at h;cases h
    |false=>
     simp only[cond_false]
     cases (zc6 m.Kind==2) with
     |true=>exact b2
     |false=>
      simp only[cond_false]
      cases (zc6 m.Kind==4||(zc6 m.Kind==5||zc6 m.Kind==8)) with
      |true=>exact b1
      |false=>
       simp only[cond_false]
       cases e5:(zc6 m.Kind==6) with
       |true=>exact b1
       |false=>
        simp only[cond_false]
        cases (zc6 m.Kind==9||zc6 m.Kind==10) with
        |true=>exact b1
        |false=>exact b1
theorem zmo:∀{l:List Move} {i:Nat} {item:Int} {c d:Custody},zfo c→za8 i l item c=.inl d→zfo d:=by
 intro l
 induction l with
 |nil=>intro i item c d hc h;simp only[za8]at h;cases h;exact hc
 |cons x l ih=>
  intro i item c d hc h
  simp only[za8]at h
  cases e:x.Item==item with
  |false=>rw[e]at h;exact ih hc h
  |true=>
   rw[e]at h
   simp only[cond_true]at h
   cases e2:(zav c x).2==0 with
   |true=>rw[e2]at h;exact ih (zg6 e2) h
   |false=>rw[e2]at h;cases h
theorem zlq {c:Circ} {x:Item} (h:zbk c x=true):zfo x.Custody:=by
 unfold zbk at h
 simp only[Bool.not_eq_true',Bool.or_eq_false_iff,Bool.not_eq_false',beq_iff_eq]at h
 obtain ⟨h1,h2⟩:=h
 have e:=zb2.1 h2
 rw[←e]
 unfold zbf at h1 ⊢
 cases hb:(decide (x.Branch<1)||decide (4<x.Branch)) with
 |true=>rw[hb]at h1;cases h1
 |false=>
  rw[hb]at h1
  simp only[cond_false]at h1 ⊢
  have hb2:zfo (zif x.Branch):=by
   simp only[Bool.or_eq_false_iff,decide_eq_false_iff_not]at hb
   show rng 1 4 x.Branch=true
   rw[zem];omega
  cases hr:za8 0 c.Moves x.ID (zif x.Branch) with
  |inl d=>exact zmo hb2 hr
  |inr p=>
   rw[hr]at h1
   exfalso
   obtain ⟨i,e⟩:=p
   simp only at h1
   have key:∀(l:List Move) (i:Nat) (c:Custody) (p:Int×Int),za8 i l x.ID c=.inr p→p.2≠0:=by
    intro l
    induction l with
    |nil=>intro i c p h;simp only[za8]at h;cases h
    |cons y l ih=>
     intro i c p h
     simp only[za8]at h
     cases e:y.Item==x.ID with
     |false=>rw[e]at h;exact ih _ _ _ h
     |true=>
      rw[e]at h
      simp only[cond_true]at h
      cases e2:(zav c y).2==0 with
      |true=>rw[e2]at h;exact ih _ _ _ h
      |false=>rw[e2]at h;cases h;simpa using e2
   exact key _ _ _ _ hr h1
theorem zm5 {c:Circ} (h:FitP c) {x:Item} (hx:x∈c.Items):rng 1 4 x.Custody.Branch=true:=zlq (zex h.items hx)
theorem z1o {c:Circ} (h:FitP c) {n:Loan} (hn:n∈c.Loans):∃x p,c.Items.find? (fun x=>x.ID==n.Item)=some x∧x∈c.Items∧x.ID=n.Item∧getP c.Patrons n.Patron=(p,true)∧p.ID=n.Patron∧zht x.Custody=true∧x.Custody.Who=n.Patron:=by
 have hg:=h.loanG n hn
 unfold zc9 at hg
 cases hf:c.Items.find? (fun x=>x.ID==n.Item) with
 |none=>rw[hf]at hg;cases hg
 |some x=>
  rw[hf]at hg
  simp only[Bool.not_eq_true',Bool.or_eq_false_iff,Bool.not_eq_false',beq_iff_eq]at hg
  obtain ⟨⟨g1,g2⟩,g3⟩:=hg
  unfold getP at g1 ⊢
  cases hp:c.Patrons.find? (fun p=>p.ID==n.Patron) with
  |none=>rw[hp]at g1;cases g1
  |some p=>exact ⟨x,p,rfl,List.mem_of_find?_eq_some hf,by have:=List.find?_some hf;simpa using this,rfl,by have:=List.find?_some hp;simpa using this,g2,g3⟩
end Go.Proofs.YtpaidiaknfhclaaGreatDoor
namespace Go.Proofs.YtpaidiaknfhclaaGreatDoor
open Ev
open Go (IntKind)
end Go.Proofs.YtpaidiaknfhclaaGreatDoor
namespace Go.Proofs.YtpaidiaknfhclaaGreatDoor
open Ev
open Go (IntKind)
end Go.Proofs.YtpaidiaknfhclaaGreatDoor
namespace Go.Proofs.YtpaidiaknfhclaaGreatDoor
open Ev
open Go (IntKind)
def za12:Loan:=⟨0,0,0,0,0,false⟩
end Go.Proofs.YtpaidiaknfhclaaGreatDoor
namespace Go.Proofs.YtpaidiaknfhclaaGreatDoor
open Ev
open Go (IntKind)
section
variable {γ:Type} {p:γ→Hold→Hold→Option Int} {g:γ} {lt:Hold→Hold→Bool}
end
end Go.Proofs.YtpaidiaknfhclaaGreatDoor
namespace Go.Proofs.YtpaidiaknfhclaaGreatDoor
open Ev
open Go (IntKind)
end Go.Proofs.YtpaidiaknfhclaaGreatDoor
namespace Go.Proofs.YtpaidiaknfhclaaGreatDoor
open Ev
open Go (IntKind)
end Go.Proofs.YtpaidiaknfhclaaGreatDoor
namespace Go.Proofs.YtpaidiaknfhclaaGreatDoor
open Ev
open Go (IntKind)
theorem z05 {c:Circ} (h:FitP c) {o:Hold} (ho:o∈c.Holds):rng 0 9 o.Rank=true∧o.ID≠0:=by
 have:=zh5 h.holds ho
 unfold za6 at this
 have:=zca this (by decide)
 simp only[Bool.or_eq_false_iff,decide_eq_false_iff_not]at this
 obtain ⟨⟨hx,h1⟩,h2⟩:=this
 refine ⟨by rw[zem];omega,?_⟩
 have:=hx.1.1.1.1.1.1.1.1.1.1
 omega
end Go.Proofs.YtpaidiaknfhclaaGreatDoor
namespace Go.Proofs.YtpaidiaknfhclaaGreatDoor
open Ev
open Go (IntKind)
end Go.Proofs.YtpaidiaknfhclaaGreatDoor
namespace Go.Proofs.YtpaidiaknfhclaaGreatDoor
open Ev
open Go (IntKind)
end Go.Proofs.YtpaidiaknfhclaaGreatDoor
namespace Go.Proofs.YtpaidiaknfhclaaGreatDoor
open Ev
open Go (IntKind)
def zmr {X:Type} (i:Int) (upd:X→X):Nat→List X→List X
 |_,[]=>[]
 |k,x::l=>(bif (k:Int)==i then upd x else x)::zmr i upd (k+1) l
theorem z2z {X:Type} {i:Nat} {upd:X→X}:∀{l:List X} {k:Nat},i<k→zmr (i:Int) upd k l=l:=by
 intro l
 induction l with
 |nil=>intros;rfl
 |cons x l ih=>
  intro k h
  have:((k:Int)==(i:Int))=false:=by
   have hne:¬(k:Int)=(i:Int):=by omega
   simpa using hne
  simp only[zmr,this,cond_false]
  rw[ih (by omega)]
theorem zac5 {X:Type} {upd:X→X} {x:X}:∀{l:List X} {k j:Nat},l[j]?=some x→zmr ((k+j:Nat):Int) upd k l=l.set j (upd x):=by
 intro l
 induction l with
 |nil=>intro k j h;simp at h
 |cons y l ih=>
  intro k j h
  cases j with
  |zero=>
   simp at h
   subst h
   have:((k:Int)==((k+0:Nat):Int))=true:=by simp
   simp only[zmr,this,cond_true,List.set_cons_zero]
   rw[z2z (by omega)]
  |succ j=>
   have hne:((k:Int)==((k+(j+1):Nat):Int))=false:=by
    have:¬(k:Int)=((k+(j+1):Nat):Int):=by omega
    simpa using this
   simp only[zmr,hne,cond_false,List.set_cons_succ]
   have:=ih (k:=k+1) (j:=j) (by simpa using h)
   rw[show k+1+j=k+(j+1) by omega]at this
   rw[this]
theorem zaag {X β:Type} {i:Int} {upd:X→X} {g:List X→β}:∀{l:List X} {k:Nat} {s:List X},zfw (fun (k:Nat) x (s:List X)=>.inl (s++[bif (k:Int)==i then upd x else x])) g k l s=g (s++zmr i upd k l):=by
 intro l
 induction l with
 |nil=>intro k s;simp[zfw,zmr]
 |cons x l ih=>intro k s;simp only[zfw,zmr];rw[ih];simp
def zik (u:Custody) (x:Item):Item:=⟨x.ID,x.Record,x.Branch,x.Kind,x.Price,x.Call,u⟩
def zfu (c:Circ) (i:Nat) (x:Item) (m:Move) (u:Custody):Circ:=⟨c.Today,c.Items.set i (zik u x),c.Patrons,c.Loans,c.Holds,c.Charges,c.Rules,c.Cals,c.Moves++[m],c.NextHold,c.NextCharge,c.Local⟩
def zi3 (c:Circ) (e:Int):Int:=bif e==0&&decide (2000≤(c.Moves.length:Int)) then 13 else e
theorem zio {c:Circ} {i:Nat} {x:Item} {kind branch who:Int} (hs:Short c) (hm:c.Moves.length<100000000) (hx:c.Items[i]?=some x) :
 qbi (i:Int) kind branch who ⟨c,0⟩=some ((),bif zi3 c (zav x.Custody ⟨c.Today,x.ID,kind,branch,who⟩).2==0 then ⟨zfu c i x ⟨c.Today,x.ID,kind,branch,who⟩ (zav x.Custody ⟨c.Today,x.ID,kind,branch,who⟩).1,0⟩ else ⟨c,zi3 c (zav x.Custody ⟨c.Today,x.ID,kind,branch,who⟩).2⟩):=by
 have hc1:qck c.Items=some c.Items:=by unfold qck;rw[zou hs.items];rfl
 have hc2:qdk c.Moves=some c.Moves:=by unfold qdk;rw[zou hs.moves];rfl
 have l1:decide (c.Moves.length+([(⟨c.Today,x.ID,kind,branch,who⟩:Move)]:List Move).length≤LIM)=true:=zki (by simp;omega)
 unfold qbi zi3
 simp -zeta only[beq_self_eq_true,Bool.not_true,cond_false,zaj,hx,zamd,zaz]
 generalize zav x.Custody ⟨c.Today,x.ID,kind,branch,who⟩=q
 obtain ⟨u,e⟩:=q
 dsimp only
 cases hb:(e==0&&decide (2000≤(c.Moves.length:Int))) with
 |true=>
  simp only[cond_true,qu,beq_self_eq_true]
  try rfl
 |false=>
  simp only[cond_false]
  cases he:e==0 with
  |true=>
   have:e=0:=by simpa using he
   subst this
   simp only[Bool.not_true,cond_false,cond_true,hc1,hc2,zaj,hx,Int.toNat_natCast,l1]
   try rfl
  |false=>
   simp only[Bool.not_false,cond_true,cond_false,qu,beq_self_eq_true]
theorem zu8 {c:Circ} {i:Nat} {m:Move} {u:Custody} (hs:Short c):zae zgz ((i:Int),0,c,zc4,m,u,[],())=some (c,zc4,m,zmr (i:Int) (zik u) 0 c.Items,()):=by
 have h:=zc5 (step:=zgz) (fun (k:Nat) (s:List Item)=>s.length≤k) (fun k s=>((i:Int),(k:Int),c,zc4,m,u,s,())) c.Items
  (fun k x s=>.inl (s++[bif (k:Int)==(i:Int) then zik u x else x])) (fun s=>(c,zc4,m,s,())) (by rw[zhy];have:=hs.items;omega)
  (fun s _=>by simp only[zgz,dge,cond_false])
  (fun k x s hx hi=>by
   have hlt:=(List.getElem?_eq_some_iff.1 hx).1
   have:=hs.items
   have l1:∀y:Item,decide (s.length+([y]:List Item).length≤LIM)=true:=fun y=>zki (by simp;omega)
   refine ⟨?_,fun s' hs'=>?_⟩
   ·simp only[zgz,dlt hlt,zaj,hx,cond_true,l1,zam (show k<9223372036854775807 by omega)]
    cases (k:Int)==(i:Int)<;>rfl
   ·cases hs'
    simp
    omega) [] (by simp)
 rw[zaag]at h
 exact h
theorem za2p {c:Circ} {item:Int} {i:Nat} {x:Item} {kind branch who:Int} (hs:Short c) (hm:c.Moves.length<100000000) (hat:qp c item=some (i:Int)) (hx:c.Items[i]?=some x) (hid:x.ID=item) :
 qbe c item kind branch who=some (bif zi3 c (zav x.Custody ⟨c.Today,x.ID,kind,branch,who⟩).2==0 then (zfu c i x ⟨c.Today,x.ID,kind,branch,who⟩ (zav x.Custody ⟨c.Today,x.ID,kind,branch,who⟩).1,0) else (zc4,zi3 c (zav x.Custody ⟨c.Today,x.ID,kind,branch,who⟩).2)):=by
 subst hid
 unfold qbe zi3
 rw[hat]
 simp only[zaj,hx,zama]
 generalize zav x.Custody ⟨c.Today,x.ID,kind,branch,who⟩=q
 obtain ⟨u,e⟩:=q
 simp only
 cases he:e==0 with
 |false=>simp only[Bool.not_false,cond_true,Bool.false_and,cond_false,he];rfl
 |true=>
  have:e=0:=by simpa using he
  subst this
  simp only[Bool.not_true,cond_false,Bool.true_and]
  cases decide (2000≤(c.Moves.length:Int)) with
  |true=>rfl
  |false=>
   have hw:=zu8 (i:=i) (m:=⟨c.Today,x.ID,kind,branch,who⟩) (u:=u) hs
   have l1:decide (c.Moves.length≤LIM)=true:=by rw[decide_eq_true_eq];unfold LIM;omega
   have l2:decide (c.Moves.length+([(⟨c.Today,x.ID,kind,branch,who⟩:Move)]:List Move).length≤LIM)=true:=zki (by simp;omega)
   have es:=zac5 (upd:=zik u) (l:=c.Items) (k:=0) (j:=i) hx
   rw[Nat.zero_add]at es
   rw[es]at hw
   simp only[cond_false]
   rw[show zae zgz ((i:Int),0,c,(⟨0,[],[],[],[],[],[],⟨⟨0,[]⟩,⟨0,[]⟩,⟨0,[]⟩,⟨0,[]⟩⟩,[],0,0,false⟩:Circ),(⟨c.Today,x.ID,kind,branch,who⟩:Move),u,([]:List Item),())=_ from hw]
   simp only[l1,l2,cond_true]
   try rfl
end Go.Proofs.YtpaidiaknfhclaaGreatDoor
namespace Go.Proofs.YtpaidiaknfhclaaGreatDoor
open Ev
open Go (IntKind)
end Go.Proofs.YtpaidiaknfhclaaGreatDoor
namespace Go.Proofs.YtpaidiaknfhclaaGreatDoor
open Ev
open Go (IntKind)
end Go.Proofs.YtpaidiaknfhclaaGreatDoor
namespace Go.Proofs.YtpaidiaknfhclaaGreatDoor
open Ev
open Go (IntKind)
end Go.Proofs.YtpaidiaknfhclaaGreatDoor
namespace Go.Proofs.YtpaidiaknfhclaaGreatDoor
open Ev
open Go (IntKind)
theorem zgq (c:Circ) (l:List Loan) (e e0:Int) (h0:e0≠0):qcq l e ⟨c,e0⟩=some ((),⟨zj4 c c.Loans,e0⟩):=by
 have h:(e0==0)=false:=by simpa using h0
 unfold qcq qu
 simp only[h,cond_false]
 cases !(e==0)<;>simp only[cond_true,cond_false,h]<;>rfl
end Go.Proofs.YtpaidiaknfhclaaGreatDoor
namespace Go.Proofs.YtpaidiaknfhclaaGreatDoor
open Ev
open Go (IntKind)
theorem zu0 {c:Circ} {i:Nat} {x:Item} {m:Move} {u:Custody} (hs:Short c) (hm:c.Moves.length<100000000) (hx:c.Items[i]?=some x):Short (zfu c i x m u):=by
 obtain ⟨h1,h2,h3,h4,h5,h6,h7,h8,h9,h10,h11,h12,h13⟩:=hs
 refine ⟨?_,h2,h3,h4,h5,h6,?_,fun z hz=>?_,h9,h10,h11,h12,h13⟩
 ·show (c.Items.set i _).length<_
  rw[List.length_set];exact h1
 ·show (c.Moves++[m]).length<_
  simp;omega
 ·rcases List.mem_or_eq_of_mem_set hz with h|h
  ·exact h8 z h
  ·rw[h];exact h8 x (List.mem_of_getElem? hx)
end Go.Proofs.YtpaidiaknfhclaaGreatDoor
namespace Go.Proofs.YtpaidiaknfhclaaGreatDoor
open Ev
open Go (IntKind)
theorem zqw {c:Circ} {id:Int} (hs:Short c):qcs id ⟨c,0⟩=some (fIdx (fun x=>x.ID==id) c.Items,⟨c,bif decide (fIdx (fun x=>x.ID==id) c.Items<0) then 9 else 0⟩):=by
 unfold qcs
 simp only[zalr hs.items]
 cases decide (fIdx (fun x:Item=>x.ID==id) c.Items<0)<;>rfl
end Go.Proofs.YtpaidiaknfhclaaGreatDoor
namespace Go.Proofs.YtpaidiaknfhclaaGreatDoor
open Ev
open Go (IntKind)
structure MidP (c:Circ):Prop where
 short:Short c
 moves:c.Moves.length<10000000
 holdsN:c.Holds.length<1000000
 sorted:∀(i:Nat) (x:Hold),c.Holds[i]?=some x→zbb c.Holds i (fun y=>decide (x.ID≤y.ID))=false
 rank:∀o∈c.Holds,rng 0 9 o.Rank=true∧o.ID≠0
 few:∀r,(c.Holds.filter (fun o=>o.Record==r)).length<20
 cal:∀b,CalOk (calS c b)
 rules:∀r∈c.Rules,zhu r=true
 branch:∀x∈c.Items,rng 1 4 x.Custody.Branch=true
 ids:∀(i:Nat) (x:Item) (j:Nat) (y:Item),c.Items[i]?=some x→c.Items[j]?=some y→x.ID=y.ID→i=j
 chN:c.Charges.length<1000000
theorem zatc {c:Circ} (hm:SmallP c) (h:FitP c):MidP c:=by
 refine ⟨hm.short,by have:=hm.moves;omega,by have:=hm.holds;omega,zq6 h.holds,fun o ho=>z05 h ho,fun r=>?_,zaod h,fun r hr=>zau4 h hr,fun x hx=>zm5 h hx,fun i x j y hx hy e=>?_,by have:=hm.charges;omega⟩
 ·have:=List.length_filter_le (fun o:Hold=>o.Record==r) c.Holds
  have:=hm.holds
  omega
 ·have hs:=ziq h.items
  rcases Nat.lt_trichotomy i j with hl|hl|hl
  ·have:=zhx (key:=fun y:Item=>y.ID) hs j i x y hl hx hy;omega
  ·exact hl
  ·have:=zhx (key:=fun y:Item=>y.ID) hs i j y x hl hy hx;omega
theorem za10 {c:Circ} (h:MidP c) {i:Nat} {x:Item} (hx:c.Items[i]?=some x):qp c x.ID=some (i:Int):=by
 rw[z91 h.short.items]
 rcases zbq (fun y:Item=>y.ID==x.ID) c.Items with ⟨h1,h2⟩|⟨j,y,h1,h2,h3,h4⟩
 ·have:=List.find?_eq_none.1 h2 x (List.mem_of_getElem? hx)
  simp at this
 ·rw[h1,h.ids i x j y hx h2 (by simpa using (by simpa using h3:y.ID=x.ID).symm)]
theorem zsv {X Y:Type} {f:X→Y} {l:List X} {j:Nat} {x y:X} (hx:l[j]?=some x) (hf:f y=f x):(l.set j y).map f=l.map f:=by
 rw[List.map_set,hf]
 apply List.ext_getElem?
 intro k
 rw[List.getElem?_set]
 split
 ·rename_i e
  subst e
  split
  ·rw[List.getElem?_map,hx];rfl
  ·rename_i hk
   have:=(List.getElem?_eq_some_iff.1 hx).1
   exact absurd (by simpa using this) hk
 ·rfl
theorem zate {l m:List Item} (e:m.map (fun x=>x.ID)=l.map (fun x=>x.ID)) (h:∀(i:Nat) (x:Item) (j:Nat) (y:Item),l[i]?=some x→l[j]?=some y→x.ID=y.ID→i=j) :
 ∀(i:Nat) (x:Item) (j:Nat) (y:Item),m[i]?=some x→m[j]?=some y→x.ID=y.ID→i=j:=by
 have key:∀(i:Nat) (x:Item),m[i]?=some x→∃x',l[i]?=some x'∧x'.ID=x.ID:=by
  intro i x hx
  have h1:(m.map (fun x=>x.ID))[i]?=some x.ID:=by rw[List.getElem?_map,hx];rfl
  rw[e,List.getElem?_map]at h1
  cases hl:l[i]? with
  |none=>rw[hl]at h1;cases h1
  |some x'=>rw[hl]at h1;exact ⟨x',rfl,by simpa using h1⟩
 intro i x j y hx hy hxy
 obtain ⟨x',hx',ex⟩:=key i x hx
 obtain ⟨y',hy',ey⟩:=key j y hy
 exact h i x' j y' hx' hy' (by rw[ex,ey,hxy])
theorem z9b {c:Circ} (h:MidP c) {i:Nat} {x:Item} (hx:c.Items[i]?=some x) {m:Move} {u:Custody} (hu:rng 1 4 u.Branch=true) (hl:c.Moves.length<5000000):MidP (zfu c i x m u):=by
 refine ⟨zu0 h.short (by omega) hx,?_,h.holdsN,h.sorted,h.rank,h.few,h.cal,h.rules,fun y hy=>?_,?_,h.chN⟩
 ·show (c.Moves++[m]).length<_
  simp;omega
 ·rcases List.mem_or_eq_of_mem_set hy with hy|hy
  ·exact h.branch y hy
  ·rw[hy];exact hu
 ·exact zate (zsv hx rfl) h.ids
theorem zmb {c:Custody} {m:Move} {u:Custody} (h:zav c m=(u,0)):rng 1 4 u.Branch=true:=by
 have:=zg6 (c:=c) (m:=m) (by rw[h];rfl)
 rw[h]at this
 exact this
theorem zah9 {c:Circ} (h:MidP c) {i:Nat} {x:Item} (hx:c.Items[i]?=some x) (kind branch who:Int) :
 (∃u,zav x.Custody ⟨c.Today,x.ID,kind,branch,who⟩=(u,0)∧qbi (i:Int) kind branch who ⟨c,0⟩=some ((),⟨zfu c i x ⟨c.Today,x.ID,kind,branch,who⟩ u,0⟩)∧
  qbe c x.ID kind branch who=some (zfu c i x ⟨c.Today,x.ID,kind,branch,who⟩ u,0)∧MidP (zfu c i x ⟨c.Today,x.ID,kind,branch,who⟩ u))∨
 (∃e,e≠0∧qbi (i:Int) kind branch who ⟨c,0⟩=some ((),⟨c,e⟩)∧qbe c x.ID kind branch who=some (zc4,e)):=by
 have hmv:=h.moves
 have dm:=zio (kind:=kind) (branch:=branch) (who:=who) h.short (by omega) hx
 have rm:=za2p (kind:=kind) (branch:=branch) (who:=who) h.short (by omega) (za10 h hx) hx rfl
 rw[dm,rm]
 cases ha:zav x.Custody ⟨c.Today,x.ID,kind,branch,who⟩ with
 |mk u e=>
  by_cases hE:zi3 c e=0
  ·left
   simp only[hE,beq_self_eq_true,cond_true]
   have he:e=0∧c.Moves.length<2000:=by
    unfold zi3 at hE
    cases hb:(e==0&&decide (2000≤(c.Moves.length:Int))) with
    |true=>rw[hb]at hE;cases hE
    |false=>
     rw[hb]at hE
     simp only[cond_false]at hE
     subst hE
     simp only[beq_self_eq_true,Bool.true_and,decide_eq_false_iff_not]at hb
     exact ⟨rfl,by omega⟩
   obtain ⟨rfl,hlen⟩:=he
   exact ⟨u,rfl,rfl,rfl,z9b h hx (zmb ha) (by omega)⟩
  ·right
   have hE2:(zi3 c e==0)=false:=by simpa using hE
   simp only[hE2,cond_false]
   exact ⟨zi3 c e,hE,rfl,rfl⟩
end Go.Proofs.YtpaidiaknfhclaaGreatDoor
namespace Go.Proofs.YtpaidiaknfhclaaGreatDoor
open Ev
open Go (IntKind)
def z61 (o:Hold):Int×Int×Int:=(o.ID,o.Rank,o.Record)
end Go.Proofs.YtpaidiaknfhclaaGreatDoor
namespace Go.Proofs.YtpaidiaknfhclaaGreatDoor
open Ev
open Go (IntKind)
structure Frame (c d:Circ):Prop where
 ids:d.Items.map (fun x=>x.ID)=c.Items.map (fun x=>x.ID)
 holds:d.Holds.map z61=c.Holds.map z61
 patrons:d.Patrons=c.Patrons
 loans:d.Loans=c.Loans
 charges:d.Charges=c.Charges
 rules:d.Rules=c.Rules
 cals:d.Cals=c.Cals
 today:d.Today=c.Today
 here:d.Local=c.Local
 nh:d.NextHold=c.NextHold
 nc:d.NextCharge=c.NextCharge
 br:d.Items.map (fun x=>x.Custody.Branch)=c.Items.map (fun x=>x.Custody.Branch)
 recs:d.Items.map (fun x=>x.Record)=c.Items.map (fun x=>x.Record)
theorem Frame.refl (c:Circ):Frame c c:=⟨rfl,rfl,rfl,rfl,rfl,rfl,rfl,rfl,rfl,rfl,rfl,rfl,rfl⟩
theorem Frame.trans {a b c:Circ} (h:Frame a b) (k:Frame b c):Frame a c:=
 ⟨k.ids.trans h.ids,k.holds.trans h.holds,k.patrons.trans h.patrons,k.loans.trans h.loans,k.charges.trans h.charges,k.rules.trans h.rules,k.cals.trans h.cals,k.today.trans h.today,k.here.trans h.here,k.nh.trans h.nh,k.nc.trans h.nc,k.br.trans h.br,k.recs.trans h.recs⟩
theorem zc7 (c:Circ) (e0:Int) (h0:e0≠0):qa5 ⟨c,e0⟩=some ((zc4,e0),⟨c,e0⟩):=by
 have h:(e0==0)=false:=by simpa using h0
 unfold qa5
 simp only[h,Bool.not_false,cond_true]
 try rfl
theorem zqv {c:Circ} {i:Nat} {x:Item} (hx:c.Items[i]?=some x) (kind:Int):qct (i:Int) kind ⟨c,0⟩=qbi (i:Int) kind x.Custody.Branch 0 ⟨c,0⟩:=by
 unfold qct
 simp only[beq_self_eq_true,cond_true,zaj,hx]
 cases qbi (i:Int) kind x.Custody.Branch 0 ⟨c,0⟩ with
 |none=>rfl
 |some p=>rfl
theorem zhd (c:Circ) (i kind e0:Int) (h0:e0≠0):qct i kind ⟨c,e0⟩=some ((),⟨c,e0⟩):=by
 have h:(e0==0)=false:=by simpa using h0
 unfold qct
 simp only[h,cond_false]
end Go.Proofs.YtpaidiaknfhclaaGreatDoor
namespace Go.Proofs.YtpaidiaknfhclaaGreatDoor
open Ev
open Go (IntKind)
theorem z08 {c:Circ} (h:MidP c) (item:Int):(fIdx (fun x=>x.ID==item) c.Items = -1∧qp c item=some (-1)∧c.Items.find? (fun x=>x.ID==item)=none)∨
 ∃(i:Nat) (x:Item),fIdx (fun x=>x.ID==item) c.Items=(i:Int)∧qp c item=some (i:Int)∧c.Items[i]?=some x∧x.ID=item∧c.Items.find? (fun x=>x.ID==item)=some x:=by
 rcases zbq (fun x:Item=>x.ID==item) c.Items with ⟨h1,h2⟩|⟨i,x,h1,h2,h3,h4⟩
 ·exact .inl ⟨h1,by rw[z91 h.short.items,h1],h2⟩
 ·exact .inr ⟨i,x,h1,by rw[z91 h.short.items,h1],h2,by simpa using h3,h4⟩
end Go.Proofs.YtpaidiaknfhclaaGreatDoor
namespace Go.Proofs.YtpaidiaknfhclaaGreatDoor
open Ev
open Go (IntKind)
def Rest (r:Int) (c d:Circ):Prop:=d.Items.map (fun x=>x.Record)=c.Items.map (fun x=>x.Record)∧∀(j:Nat) (y:Item),c.Items[j]?=some y→¬y.Record=r→d.Items[j]?=some y
theorem Rest.refl (r:Int) (c:Circ):Rest r c c:=⟨rfl,fun _ _ h _=>h⟩
theorem Rest.trans {r:Int} {a b c:Circ} (h:Rest r a b) (k:Rest r b c):Rest r a c:=⟨k.1.trans h.1,fun j y hy hr=>k.2 j y (h.2 j y hy hr) hr⟩
end Go.Proofs.YtpaidiaknfhclaaGreatDoor
namespace Go.Proofs.YtpaidiaknfhclaaGreatDoor
open Ev
open Go (IntKind)
end Go.Proofs.YtpaidiaknfhclaaGreatDoor
namespace Go.Proofs.YtpaidiaknfhclaaGreatDoor
open Ev
open Go (IntKind)
end Go.Proofs.YtpaidiaknfhclaaGreatDoor
namespace Go.Proofs.YtpaidiaknfhclaaGreatDoor
open Ev
open Go (IntKind)
end Go.Proofs.YtpaidiaknfhclaaGreatDoor
namespace Go.Proofs.YtpaidiaknfhclaaGreatDoor
open Ev
open Go (IntKind)
def zdz (l:List Loan) (item:Int):List Loan×Loan×Int:=
 match l.find? (fun n=>n.Item==item) with
 |some n=>(l.take (fIdx (fun n=>n.Item==item) l).toNat++l.drop ((fIdx (fun n=>n.Item==item) l).toNat+1),n,0)
 |none=>([],za12,9)
theorem za2x {l:List Loan} {item:Int} (hl:l.length<100000000):qdf l item=some (zdz l item):=by
 have hl2:l.length<1000000000:=by omega
 unfold qdf zdz qat
 dsimp only
 rw[zpf hl2]
 rcases zbq (fun x:Loan=>x.Item==item) l with ⟨h1,h2⟩|⟨i,x,h1,h2,h3,h4⟩
 ·rw[h2];rfl
 ·have hlt:=(List.getElem?_eq_some_iff.1 h2).1
  have hc:qei l=some l:=by unfold qei;rw[zou hl2];rfl
  have hd:qd1 l (i:Int) ((i+1:Nat):Int)=some (l.take i++l.drop (i+1)):=by
   show zh2 l (i:Int) ((i+1:Nat):Int)=_
   unfold zh2
   have d1:decide ((0:Int)≤(i:Int))=true:=by rw[decide_eq_true_eq];omega
   have d2:decide ((i:Int)≤((i+1:Nat):Int))=true:=by rw[decide_eq_true_eq];omega
   have d3:decide (((i+1:Nat):Int)≤(l.length:Int))=true:=by rw[decide_eq_true_eq];omega
   have d4:decide (l.length≤1073741824)=true:=by rw[decide_eq_true_eq];omega
   simp only[d1,d2,d3,d4,Bool.and_self,cond_true,Int.toNat_natCast]
  rw[h4,h1]
  unfold qfd
  simp only[zgu,cond_false,hc,zam (show i<9223372036854775807 by omega),hd,Int.toNat_natCast]
theorem za28 {l:List Loan} {item:Int} (hl:l.length<100000000):qfa l item=some (zdz l item):=by
 have hl2:l.length<1000000000:=by omega
 unfold qfa zdz
 rw[zalo hl2]
 rcases zbq (fun x:Loan=>x.Item==item) l with ⟨h1,h2⟩|⟨i,x,h1,h2,h3,h4⟩
 ·rw[h1,h2];rfl
 ·have hlt:=(List.getElem?_eq_some_iff.1 h2).1
  have d1:decide ((0:Int)≤(i:Int))=true:=by rw[decide_eq_true_eq];omega
  have d2:decide ((i:Int)≤(l.length:Int))=true:=by rw[decide_eq_true_eq];omega
  have d3:decide (((i+1:Nat):Int)≤(l.length:Int))=true:=by rw[decide_eq_true_eq];omega
  have d4:decide ((0:Int)≤((i+1:Nat):Int))=true:=by rw[decide_eq_true_eq];omega
  have d5:decide ((0:Int)≤0)=true:=rfl
  have d6:decide ((l.length:Int)≤(l.length:Int))=true:=by simp
  have t0:((l.take i).drop (0:Int).toNat)=l.take i:=by simp
  have t1:(l.take (l.length:Int).toNat)=l:=by simp
  have l1:decide (([]:List Loan).length+(l.take i).length≤LIM)=true:=zki (by rw[List.length_take];simp;omega)
  have l2:decide (([]++l.take i).length+(l.drop (i+1)).length≤LIM)=true:=zki (by rw[List.nil_append,List.length_take,List.length_drop];omega)
  rw[h1,h4]
  simp only[zgu,cond_false,d1,d2,d3,d4,d5,d6,Bool.and_self,cond_true,zam (show i<9223372036854775807 by omega),Int.toNat_natCast,t0,t1,l1,l2,zaj,h2,List.nil_append,List.take_length]
  have l3:decide ((l.take i).length+(l.drop (i+1)).length≤LIM)=true:=zki (by rw[List.length_take,List.length_drop];omega)
  rw[l3]
  try rfl
theorem zadq {l:List Loan} {item:Int} (hl:l.length<1000000000):(zdz l item).1.length<1000000000:=by
 unfold zdz
 cases l.find? (fun n=>n.Item==item) with
 |none=>simp
 |some n=>
  simp only[List.length_append,List.length_take,List.length_drop]
  omega
theorem z8x {c:Circ} (h:MidP c) {l:List Loan} (hl:l.length<1000000000):MidP (zj4 c l):=by
 obtain ⟨⟨a1,a2,a3,a4,a5,a6,a7,a8,a9,a10,a11,a12,a13⟩,h2,h3,h4,h5,h6,h7,h8,h9,h10,h11⟩:=h
 exact ⟨⟨a1,a2,hl,a4,a5,a6,a7,a8,a9,a10,a11,a12,a13⟩,h2,h3,h4,h5,h6,h7,h8,h9,h10,h11⟩
def zmd (y:Item) (record:Int):Bool:=y.Record==record&&!(y.Custody.State==12)
theorem zamk (y:Item) (record:Int):qdp y record=some (zmd y record):=by
 unfold qdp zmd
 simp -zeta only[zaz]
 try rfl
def zsy (c:Circ) (x:Item):Bool:=c.Items.any (fun y=>!(y.ID==x.ID)&&zmd y x.Record)
def zh9 (c:Circ) (x:Item) (o:Hold):Bool:=o.Item==x.ID||(zmd x x.Record&&!(zsy c x)&&o.Record==x.Record)
theorem za2c {c:Circ} {x:Item} (hs:Short c):qai c x=some (c.Holds.any (zh9 c x)):=by
 unfold qai
 rw[z9t (p:=fun (g:Unit×Item×Unit) x0=>qdb x0 g.2.1) (g:=((),(x,()))) (fun y=>!(y.ID==x.ID)&&zmd y x.Record) hs.items (fun y _=>by
  unfold qdb
  simp -zeta only[zamk,zaz]
  rfl)]
 simp -zeta only[zamk,zaz]
 dsimp only
 rw[z9q (p:=fun (g:Unit×Item×Bool×Unit) x0=>qcn x0 g.2.1 g.2.2.1) (g:=((),(x,(zmd x x.Record&&!(c.Items.any (fun y=>!(y.ID==x.ID)&&zmd y x.Record))),()))) (zh9 c x) hs.holds (fun o _=>by
  unfold qcn zh9 zsy
  simp -zeta only[k_or,zaz]
  rfl)]
theorem z6x {X:Type} (q:X→Bool):∀(l:List X) (b:Bool),l.foldl (fun s x=>s||q x) b=(b||l.any q):=by
 intro l
 induction l with
 |nil=>intro b;simp
 |cons x l ih=>intro b;rw[List.foldl_cons,ih,List.any_cons,Bool.or_assoc]
theorem z16 {c v:Circ} (h:MidP c) {i:Nat} {x:Item} (hx:c.Items[i]?=some x):zae zlc (x.ID,(i:Int),false,0,c,v,x,())=some (x.ID,zsy c x,c,v,x,()):=by
 have hs:=h.short.items
 have hw:=zg3 (step:=zlc) (fun (k:Nat) (s:Bool)=>(x.ID,(i:Int),s,(k:Int),c,v,x,())) c.Items (fun y s=>s||(!(y.ID==x.ID)&&zmd y x.Record)) (fun s=>(x.ID,s,c,v,x,())) hs
  (fun s=>by simp only[zlc,dge,cond_false])
  (fun k y s hy=>by
   have hlt:=(List.getElem?_eq_some_iff.1 hy).1
   have e:((k:Int)==(i:Int))=(y.ID==x.ID):=by
    rw[Bool.eq_iff_iff]
    simp only[beq_iff_eq]
    constructor
    ·intro hk
     have:k=i:=by omega
     subst this
     rw[hx]at hy;cases hy;rfl
    ·intro hk
     rw[h.ids k y i x hy hx hk]
   simp -zeta only[zlc,dlt hlt,zaj,hy,cond_true,k_or,zaz,e,zam (show k<9223372036854775807 by omega)]
   dsimp only
   unfold zmd
   cases s<;>cases y.ID==x.ID<;>cases y.Record==x.Record<;>rfl) false
 rw[z6x,Bool.false_or]at hw
 exact hw
theorem zu6 {c v:Circ} {x:Item} {b:Bool} (hl:c.Holds.length<1000000000):zae zid (x.ID,b,0,c,v,x,()) =
 some (match c.Holds.find? (fun o=>o.Item==x.ID||(o.Record==x.Record&&!b&&!(x.Custody.State==12))) with|some _=>.inr (10,zc4,())|none=>.inl (x.ID,c,v,x,())):=by
 have hw:=zbh (step:=zid) (fun k=>(x.ID,b,(k:Int),c,v,x,())) c.Holds (fun o=>o.Item==x.ID||(o.Record==x.Record&&!b&&!(x.Custody.State==12))) (fun _ _=>(.inr (10,zc4,()):(Int×Circ×Circ×Item×Unit)⊕(Int×Circ×Unit))) (.inl (x.ID,c,v,x,())) hl
  (by simp only[zid,dge,cond_false])
  (fun k o ho=>by
   have hlt:=(List.getElem?_eq_some_iff.1 ho).1
   simp -zeta only[zid,dlt hlt,zaj,ho,cond_true,k_or,zaz,zam (show k<9223372036854775807 by omega)]
   dsimp only
   cases o.Item==x.ID<;>cases o.Record==x.Record<;>cases b<;>cases x.Custody.State==12<;>rfl)
 rw[zm3]at hw
 refine Eq.trans hw ?_
 cases c.Holds.find? (fun o=>o.Item==x.ID||(o.Record==x.Record&&!b&&!(x.Custody.State==12)))<;>rfl
theorem zm4 {l:List Loan} {item:Int}:(zc8 l item).2=((zdz l item).2.2==0):=by
 unfold zc8 zdz
 cases l.find? (fun n=>n.Item==item)<;>rfl
end Go.Proofs.YtpaidiaknfhclaaGreatDoor
namespace Go.Proofs.YtpaidiaknfhclaaGreatDoor
open Go Ev
theorem zzv:qdc=some true:=by kernel_rfl
theorem za24 (c:Circ):qee c=some (zl0 c&&zel c):=by
 unfold qee
 rw[za4r]
 cases h:zl0 c with
 |false=>rfl
 |true=>
  simp only[cond_true,za2d (zanw h).short]
  rfl
def usF (item:Int) (x:Move) (s:Int×Int):Int×Int:=
 bif x.Item==item then (bif x.Kind==3 then (wr .i64 (s.1+1),if s.2<x.Day then x.Day else s.2) else bif x.Kind==1||x.Kind==4 then (s.1,if s.2<x.Day then x.Day else s.2) else s) else s
def usC (c:Circ) (item:Int):Int×Int:=c.Moves.foldl (fun s x=>usF item x s) (0,-1)
theorem za2n {c:Circ} (hs:c.Moves.length<1000000000) (item:Int):qbc c item=some (usC c item):=by
 have h:=zg3 (step:=zn0) (fun i (s:Int×Int)=>(item,s.1,s.2,c.Moves,(c.Moves.length:Int),(i:Int),())) c.Moves (usF item) (fun s=>(s.1,s.2,())) hs
  (fun s=>by simp only[zn0,dge,cond_false])
  (fun i x s hx=>by
   have hi:=(List.getElem?_eq_some_iff.1 hx).1
   simp only[zn0,dlt hi,cond_true,zaj,hx,zam (show i<9223372036854775807 by omega),usF]
   cases x.Item==item<;>cases x.Kind==3<;>cases x.Kind==1<;>cases x.Kind==4<;>rfl)
  (0,-1)
 unfold qbc
 rw[show zae zn0 (item,0,(-1),c.Moves,(c.Moves.length:Int),0,())=_ from h]
 rfl
def cpF (record:Int) (x:Item) (n:Int):Int:=bif x.Record==record&&!(x.Custody.State==12) then wr .i64 (n+1) else n
def cpC (c:Circ) (record:Int):Int:=c.Items.foldl (fun s x=>cpF record x s) 0
theorem zzh {c:Circ} (hs:c.Items.length<1000000000) (record:Int):qah c record=some (cpC c record):=by
 have h:=zg3 (step:=znt) (fun i (s:Int)=>(record,s,c.Items,(c.Items.length:Int),(i:Int),())) c.Items (cpF record) (fun s=>(s,())) hs
  (fun s=>by simp only[znt,dge,cond_false])
  (fun i x s hx=>by
   have hi:=(List.getElem?_eq_some_iff.1 hx).1
   simp only[znt,dlt hi,cond_true,zaj,hx,zam (show i<9223372036854775807 by omega),cpF]
   cases x.Record==record<;>cases x.Custody.State==12<;>rfl)
  0
 unfold qah
 rw[show zae znt (record,0,c.Items,(c.Items.length:Int),0,())=_ from h]
 rfl
end Go.Proofs.YtpaidiaknfhclaaGreatDoor
namespace Go.Proofs.YtpaidiaknfhclaaGreatDoor
open Go Ev
theorem zu2 {R:Int→Int→Prop} (ha:∀a b,R a b→R b a→a=b):∀{l m:List Int},l.Perm m→l.Pairwise R→m.Pairwise R→l=m:=by
 intro l
 induction l with
 |nil=>intro m hp _ _;exact (List.nil_perm.1 hp).symm
 |cons a l ih=>
  intro m hp hl hm
  cases m with
  |nil=>exact absurd hp.length_eq (by simp)
  |cons b m=>
   rw[List.pairwise_cons]at hl hm
   have hab:a=b:=by
    by_cases e:a=b
    ·exact e
    ·have h1:a∈m:=by
      have:=hp.mem_iff.1 (List.mem_cons_self (a:=a) (l:=l))
      rcases List.mem_cons.1 this with h|h
      ·exact absurd h e
      ·exact h
     have h2:b∈l:=by
      have:=hp.mem_iff.2 (List.mem_cons_self (a:=b) (l:=m))
      rcases List.mem_cons.1 this with h|h
      ·exact absurd h.symm e
      ·exact h
     exact ha a b (hl.1 b h2) (hm.1 a h1)
   subst hab
   rw[ih (List.perm_cons a |>.1 hp) hl.2 hm.2]
theorem zul {X Y:Type} (p:X→Bool) (f:X→Y):∀(l:List X) (acc:List Y),l.foldl (fun s x=>bif p x then s++[f x] else s) acc=acc++(l.filter p).map f:=by
 intro l
 induction l with
 |nil=>intro acc;simp
 |cons x l ih=>
  intro acc
  rw[List.foldl_cons,ih]
  cases hp:p x<;>simp[hp]
theorem z9o {l:List Int} (hl:l.length<1000000000):q9 l l=some true:=by
 have h:=zat (step:=z1z) (fun i=>(l,l,(i:Int),())) l (fun _ _=>true) (.inr (false,())) (.inl ()) hl
  (by simp only[z1z,dge,cond_false])
  (fun i x hx=>by
   have hi:=(List.getElem?_eq_some_iff.1 hx).1
   simp only[z1z,dlt hi,cond_true,zaj,hx,zam (show i<9223372036854775807 by omega),beq_self_eq_true,Bool.not_true,cond_false])
 unfold q9
 rw[show zae z1z (l,l,0,())=_ from h,zay,show (l.all fun _=>true)=true by simp]
 simp only[beq_self_eq_true,Bool.not_true,cond_false,cond_true]
def zq4 (c:Circ) (x:Item):Bool:=c.Holds.any fun h=>h.Record==x.Record||h.Item==x.ID
def okC (c:Circ) (days loans:Int) (x:Item):Bool:=x.Custody.State==3&&(decide ((usC c x.ID).1≤loans)&&(decide (days<wr .i64 (c.Today-(usC c x.ID).2))&&!zq4 c x))
def mkC (c:Circ) (x:Item):Weed_candidate:=⟨x.ID,x.Record,(usC c x.ID).1,(usC c x.ID).2⟩
def zeq (c:Circ) (days loans:Int):List Weed_candidate:=(c.Items.filter (okC c days loans)).map (mkC c)
structure WeedS (c:Circ):Prop where
 items:c.Items.length≤10
 holds:c.Holds.length≤12
 moves:c.Moves.length≤200
theorem za5d {c:Circ} (h:SmallP c):WeedS c:=⟨h.items,h.holds,h.moves⟩
theorem zjs {c:Circ} (h:WeedS c) (days loans:Int):(zeq c days loans).length≤10:=by
 unfold zeq
 rw[List.length_map]
 exact Nat.le_trans (List.length_filter_le _ _) h.items
theorem zade {c:Circ} (h:WeedS c) (x:Item):qb2 (fun (g:Unit×Item×Unit) x0=>qcj x0 g.2.1) c.Holds ((),(x,()))=some (zq4 c x):=by
 have:=h.holds
 exact z9q (fun h=>h.Record==x.Record||h.Item==x.ID) (by omega) (fun y _=>by
  simp only[qcj]
  cases y.Record==x.Record<;>rfl)
theorem za4u {c:Circ} (h:WeedS c) (days loans:Int):qi c days loans=some (pdqL cfC (zeq c days loans)):=by
 have h1:=h.items
 have h2:=h.moves
 have hw:=zc5 (step:=z2e) (fun i (l:List Weed_candidate)=>l.length≤i) (fun i l=>(days,loans,c.Items,(c.Items.length:Int),(i:Int),c,l,())) c.Items
  (fun _ x l=>.inl (bif okC c days loans x then l++[mkC c x] else l)) (fun l=>(l,())) (by show c.Items.length<18446744073709551616;omega)
  (fun l _=>by simp only[z2e,dge,cond_false])
  (fun i x l hx hl=>by
   have hi:=(List.getElem?_eq_some_iff.1 hx).1
   have hlim:decide (l.length+([mkC c x]:List Weed_candidate).length≤LIM)=true:=by rw[zjj];simp;omega
   refine ⟨?_,fun s' hs'=>?_⟩
   ·simp only[z2e,dlt hi,cond_true,zaj,hx,zade h,za2n (show c.Moves.length<1000000000 by omega),zam (show i<9223372036854775807 by omega),okC]
    rw[show (⟨x.ID,x.Record,(usC c x.ID).1,(usC c x.ID).2⟩:Weed_candidate)=mkC c x from rfl,hlim]
    cases x.Custody.State==3<;>cases decide ((usC c x.ID).1≤loans)<;>cases decide (days<wr .i64 (c.Today-(usC c x.ID).2))<;>cases zq4 c x<;>rfl
   ·cases hs'
    cases okC c days loans x<;>simp<;>omega)
  [] (by simp)
 unfold qi
 rw[show zae z2e (days,loans,c.Items,(c.Items.length:Int),0,c,([]:List Weed_candidate),())=_ from hw,zfl,zul]
 simp only[List.nil_append]
 have hl:=zjs h days loans
 have e:qdi (fun (g:Unit×Unit) x0 x1=>qeh x0 x1) (zeq c days loans) ((),())=some (pdqL cfC (zeq c days loans)):=by
  show (bif decide ((zeq c days loans).length≤LIM) then some (pdqL cfC (zeq c days loans)) else none)=_
  rw[zjj,decide_eq_true (by omega)]
  rfl
 rw[show (c.Items.filter (okC c days loans)).map (mkC c)=zeq c days loans from rfl,e]
theorem zk6 (L:List Weed_candidate):(pdqL cfC L).Perm L∧(pdqL cfC L).Pairwise (fun a b=>¬cfC b a<0):=by
 have h:=Go.Sort.pdq_sorts (Go.Proofs.ltOf cfC) ztv L.toArray 0 L.toArray.size (Go.Lib.bitLen L.toArray.size) true true (Nat.zero_le _) (Nat.le_refl _) (Or.inl rfl)
 generalize hd:Go.Sort.pdq (Go.Proofs.ltOf cfC) L.toArray 0 L.toArray.size (Go.Lib.bitLen L.toArray.size) true true=d at h
 have hd':pdqL cfC L=d.toList:=by rw[←hd];rfl
 obtain ⟨⟨hs,-,hp⟩,hso⟩:=h
 rw[hd']
 constructor
 ·have e1:d.extract 0 L.toArray.size=d:=by rw[←hs];simp
  have e2:L.toArray.extract 0 L.toArray.size=L.toArray:=by simp
  rw[e1,e2]at hp
  exact hp
 ·rw[List.pairwise_iff_getElem]
  intro i j hi hj hij
  have hj':j<L.toArray.size:=by rw[←hs];simpa using hj
  have:=hso i j (Nat.zero_le _) hij hj'
  unfold Go.Proofs.ltOf at this
  rw[decide_eq_false_iff_not]at this
  have hi2:i<d.size:=by simpa using hi
  have hj2:j<d.size:=by simpa using hj
  rw[getElem!_pos d i hi2,getElem!_pos d j hj2]at this
  simpa using this
theorem zzg (L:List Weed_candidate):(pdqL cfC L).length=L.length:=(zk6 L).1.length_eq
end Go.Proofs.YtpaidiaknfhclaaGreatDoor
namespace Go.Proofs.YtpaidiaknfhclaaGreatDoor
open Go Ev
def ltB (c:Circ) (a b:Int):Bool:=
 bif !((usC c a).1==(usC c b).1) then decide ((usC c a).1<(usC c b).1) else bif !((usC c a).2==(usC c b).2) then decide ((usC c a).2<(usC c b).2) else decide (a<b)
theorem zk2 (c:Circ) (a b:Int):ltB c a b=true↔(usC c a).1<(usC c b).1∨((usC c a).1=(usC c b).1∧((usC c a).2<(usC c b).2∨((usC c a).2=(usC c b).2∧a<b))):=by
 unfold ltB
 by_cases h1:(usC c a).1=(usC c b).1
 ·by_cases h2:(usC c a).2=(usC c b).2
  ·simp[h1,h2]
  ·simp[h1,h2]
 ·simp[h1]
theorem z88 {c:Circ} {a b:Int} (h:ltB c a b=true):ltB c b a=false:=by
 rw[zk2]at h
 cases e:ltB c b a with
 |false=>rfl
 |true=>rw[zk2]at e;omega
theorem z89 {c:Circ} {x y z:Int} (h1:ltB c x y=true) (h2:ltB c y z=true):ltB c x z=true:=by
 rw[zk2]at *;omega
theorem zauk {c:Circ} {a b:Int} (h1:ltB c a b=false) (h2:ltB c b a=false):a=b:=by
 have n1:¬ltB c a b=true:=by rw[h1];simp
 have n2:¬ltB c b a=true:=by rw[h2];simp
 rw[zk2]at n1 n2
 omega
theorem zaz0 (c:Circ) (x y:Item):cfC (mkC c x) (mkC c y)<0↔ltB c x.ID y.ID=true:=by rw[zw0,zk2];rfl
def insR (p:Int→Bool) (id:Int):List Int→List Int
 | []=>[id]
 |x::xs=>bif p x then id::x::xs else x::insR p id xs
theorem zrb (p:Int→Bool) (id:Int):∀l:List Int,(insR p id l).Perm (id::l):=by
 intro l
 induction l with
 |nil=>exact .refl _
 |cons x l ih=>
  unfold insR
  cases p x with
  |true=>exact .refl _
  |false=>exact (List.Perm.cons x ih).trans (List.Perm.swap id x l)
theorem zuo (c:Circ) (id:Int):∀l:List Int,l.Pairwise (fun a b=>ltB c b a=false)→(insR (ltB c id) id l).Pairwise (fun a b=>ltB c b a=false):=by
 intro l
 induction l with
 |nil=>intro _;simp[insR]
 |cons x l ih=>
  intro h
  unfold insR
  cases hp:ltB c id x with
  |true=>
   rw[cond_true,List.pairwise_cons]
   refine ⟨fun y hy=>?_,h⟩
   rcases List.mem_cons.1 hy with rfl|hy
   ·exact z88 hp
   ·have:=(List.pairwise_cons.1 h).1 y hy
    cases e:ltB c y id with
    |false=>rfl
    |true=>rw[z89 e hp]at this;cases this
  |false=>
   rw[List.pairwise_cons]at h
   rw[cond_false,List.pairwise_cons]
   refine ⟨fun y hy=>?_,ih h.2⟩
   rcases List.mem_cons.1 ((zrb _ _ l).mem_iff.1 hy) with rfl|hy
   ·exact hp
   ·exact h.1 y hy
theorem zkb (c:Circ):∀(l acc:List Int),acc.Pairwise (fun a b=>ltB c b a=false)→
 (l.foldl (fun s id=>insR (ltB c id) id s) acc).Pairwise (fun a b=>ltB c b a=false)∧(l.foldl (fun s id=>insR (ltB c id) id s) acc).Perm (l++acc):=by
 intro l
 induction l with
 |nil=>intro acc h;exact ⟨h,.refl _⟩
 |cons x l ih=>
  intro acc h
  rw[List.foldl_cons]
  obtain ⟨h1,h2⟩:=ih (insR (ltB c x) x acc) (zuo c x acc h)
  refine ⟨h1,h2.trans ?_⟩
  exact ((zrb _ _ _).append_left l).trans List.perm_middle
def refC (c:Circ) (days loans:Int):List Int:=((c.Items.filter (okC c days loans)).map (·.ID)).foldl (fun s id=>insR (ltB c id) id s) []
theorem z0i (c:Circ) (days loans:Int):(pdqL cfC (zeq c days loans)).map (·.id_)=refC c days loans:=by
 obtain ⟨p1,p2⟩:=zk6 (zeq c days loans)
 obtain ⟨q1,q2⟩:=zkb c ((c.Items.filter (okC c days loans)).map (·.ID)) [] .nil
 refine zu2 (R:=fun a b=>ltB c b a=false) (fun a b h1 h2=>zauk h2 h1) ?_ ?_ q1
 ·refine (p1.map _).trans ?_
  rw[List.append_nil]at q2
  refine List.Perm.trans ?_ q2.symm
  unfold zeq
  rw[List.map_map]
  exact .refl _
 ·rw[List.pairwise_map]
  refine List.Pairwise.imp_of_mem (fun {a b} ha hb hab=>?_) p2
  have ha:=p1.mem_iff.1 ha
  have hb:=p1.mem_iff.1 hb
  unfold zeq at ha hb
  obtain ⟨x,-,rfl⟩:=List.mem_map.1 ha
  obtain ⟨y,-,rfl⟩:=List.mem_map.1 hb
  rw[zaz0]at hab
  simpa[mkC]using hab
end Go.Proofs.YtpaidiaknfhclaaGreatDoor
namespace Go.Proofs.YtpaidiaknfhclaaGreatDoor
open Go Ev
theorem zaf4 (k n:Int) (e:MapI) (he:e.key=k):∀m:List MapI,getM MapI.key n (setM MapI.key k e m)=bif k==n then some e else getM MapI.key n m:=by
 intro m
 induction m with
 |nil=>
  unfold setM getM
  rw[he]
  cases k==n<;>rfl
 |cons x m ih=>
  unfold setM
  cases hx:x.key==k with
  |true=>
   rw[cond_true]
   unfold getM
   rw[he]
   have:x.key=k:=by simpa using hx
   rw[this]
   cases k==n<;>rfl
  |false=>
   rw[cond_false]
   unfold getM
   rw[ih]
   cases hn:x.key==n with
   |true=>
    have h1:x.key=n:=by simpa using hn
    have h2:(k==n)=false:=by
     rw[beq_eq_false_iff_ne]at hx ⊢
     intro q;exact hx (h1.trans q.symm)
    rw[h2];rfl
   |false=>cases k==n<;>rfl
def cnt (T:List Weed_candidate) (r:Int):Int:=((T.filter (fun t=>t.record==r)).length:Int)
theorem zw1 (T:List Weed_candidate) (x:Weed_candidate) (r:Int):cnt (T++[x]) r=cnt T r+(bif x.record==r then 1 else 0):=by
 unfold cnt
 rw[List.filter_append,List.length_append]
 cases h:x.record==r<;>simp[h]
theorem zaz1 (T:List Weed_candidate) (r:Int):0≤cnt T r∧cnt T r≤T.length:=by
 unfold cnt
 have:=List.length_filter_le (fun t:Weed_candidate=>t.record==r) T
 omega
theorem za0o {c:Circ} (h:c.Items.length<1000000) (r:Int):0≤cpC c r∧cpC c r≤c.Items.length:=by
 unfold cpC
 have key:∀(l:List Item) (n:Int),0≤n→n+l.length<100000000→0≤l.foldl (fun s x=>cpF r x s) n∧l.foldl (fun s x=>cpF r x s) n≤n+l.length:=by
  intro l
  induction l with
  |nil=>intro n h1 h2;simp;omega
  |cons x l ih=>
   intro n h1 h2
   rw[List.foldl_cons]
   have hl:((x::l).length:Int)=l.length+1:=by simp
   have:cpF r x n=n∨cpF r x n=n+1:=by
    unfold cpF
    rw[zeo (by omega) (by omega)]
    cases x.Record==r&&!(x.Custody.State==12)<;>simp
   rcases this with e|e
   ·rw[e];obtain ⟨q1,q2⟩:=ih n h1 (by omega);omega
   ·rw[e];obtain ⟨q1,q2⟩:=ih (n+1) (by omega) (by omega);omega
 have:=key c.Items 0 (by omega) (by omega)
 omega
def zes (c:Circ) (most:Int) (T:List Weed_candidate) (x:Weed_candidate):List Weed_candidate:=
 bif decide ((T.length:Int)<most)&&decide (1<cpC c x.record-cnt T x.record) then T++[x] else T
def zfi (c:Circ) (days loans most:Int):List Weed_candidate:=(pdqL cfC (zeq c days loans)).foldl (zes c most) []
theorem zsz (c:Circ) (most:Int) (T:List Weed_candidate) (x:Weed_candidate):(zes c most T x).length≤T.length+1:=by
 unfold zes
 cases decide ((T.length:Int)<most)&&decide (1<cpC c x.record-cnt T x.record)<;>simp
theorem za2o {c:Circ} (h:WeedS c) (days loans most:Int):qbd c days loans most=some ((zfi c days loans most).map (·.id_)):=by
 have hi':=h.items
 have hl:=zjs h days loans
 have hn:=zzg (zeq c days loans)
 unfold qbd zfi
 rw[za4u h]
 simp only
 generalize pdqL cfC (zeq c days loans)=v at hn
 have hw:=zc5 (step:=zn1) (fun i (s:List Weed_candidate×List MapI)=>s.1.length≤i∧∀r,zuz MapI.key MapI.val s.2 r=cnt s.1 r)
  (fun i s=>(most,v,(v.length:Int),(i:Int),c,s.1.map (·.id_),s.2,())) v
  (fun _ x s=>.inl (zes c most s.1 x,bif decide ((s.1.length:Int)<most)&&decide (1<cpC c x.record-cnt s.1 x.record) then setM MapI.key x.record (⟨x.record,cnt s.1 x.record+1⟩:MapI) s.2 else s.2)) (fun s=>(s.1.map (·.id_),())) (by show v.length<18446744073709551616;omega)
  (fun s _=>by simp only[zn1,dge,cond_false])
  (fun i x s hx hs=>by
   have hi:=(List.getElem?_eq_some_iff.1 hx).1
   obtain ⟨T,m⟩:=s
   obtain ⟨s1,s2⟩:=hs
   simp only at s1 s2
   have hlim:decide (T.length+([x.id_]:List Int).length≤LIM)=true:=by rw[zjj];simp;omega
   have hc:=zaz1 T x.record
   have hp:=za0o (c:=c) (by omega) x.record
   refine ⟨?_,fun s' hs'=>?_⟩
   ·simp only[zn1,dlt hi,cond_true,zaj,hx,zzh (show c.Items.length<1000000000 by omega),zam (show i<9223372036854775807 by omega),s2,hlim,List.length_map,
     zeo (show -9223372036854775808≤cpC c x.record-cnt T x.record by omega) (by omega),zeo (show -9223372036854775808≤cnt T x.record+1 by omega) (by omega),zes]
    cases decide ((T.length:Int)<most)<;>cases decide (1<cpC c x.record-cnt T x.record)<;>simp
   ·cases hs'
    simp only
    refine ⟨by have:=zsz c most T x;omega,fun r=>?_⟩
    unfold zes
    cases hb:decide ((T.length:Int)<most)&&decide (1<cpC c x.record-cnt T x.record) with
    |false=>rw[cond_false,cond_false];exact s2 r
    |true=>
     rw[cond_true,cond_true,zw1]
     unfold zuz
     rw[zaf4 x.record r ⟨x.record,cnt T x.record+1⟩ rfl]
     cases hr:x.record==r with
     |true=>
      have:x.record=r:=by simpa using hr
      subst this
      simp
     |false=>
      rw[cond_false,cond_false,Int.add_zero]
      exact s2 r)
  ([],[]) ⟨by simp,fun r=>rfl⟩
 rw[show zae zn1 (most,v,(v.length:Int),0,c,([]:List Int),([]:List MapI),())=_ from hw,zfl]
 have e:∀(l:List Weed_candidate) (s:List Weed_candidate×List MapI),(l.foldl (fun (s:List Weed_candidate×List MapI) x=>(zes c most s.1 x,bif decide ((s.1.length:Int)<most)&&decide (1<cpC c x.record-cnt s.1 x.record) then setM MapI.key x.record (⟨x.record,cnt s.1 x.record+1⟩:MapI) s.2 else s.2)) s).1=l.foldl (zes c most) s.1:=by
  intro l
  induction l with
  |nil=>intro s;rfl
  |cons x l ih=>intro s;rw[List.foldl_cons,List.foldl_cons,ih]
 rw[e]
theorem z9j (c:Circ) (most:Int) (T:List Weed_candidate) (x t:Weed_candidate) (h:t∈zes c most T x):t∈T∨t=x:=by
 unfold zes at h
 cases hb:decide ((T.length:Int)<most)&&decide (1<cpC c x.record-cnt T x.record) with
 |false=>rw[hb]at h;exact .inl h
 |true=>rw[hb]at h;simpa using h
theorem z9k {c:Circ} (h:WeedS c) (days loans most:Int):(zfi c days loans most).length≤10:=by
 have hl:=zjs h days loans
 have hn:=zzg (zeq c days loans)
 unfold zfi
 generalize pdqL cfC (zeq c days loans)=v at hn
 have key:∀(l T:List Weed_candidate),(l.foldl (zes c most) T).length≤T.length+l.length:=by
  intro l
  induction l with
  |nil=>intro T;simp
  |cons x l ih=>
   intro T
   rw[List.foldl_cons]
   have:=ih (zes c most T x)
   have:=zsz c most T x
   simp only[List.length_cons]
   omega
 have:=key v []
 simp at this
 omega
end Go.Proofs.YtpaidiaknfhclaaGreatDoor
namespace Go.Proofs.YtpaidiaknfhclaaGreatDoor
open Go Ev
theorem zaio (c:Circ) (days loans:Int) (id:Int):id∈refC c days loans↔∃x∈c.Items,okC c days loans x=true∧x.ID=id:=by
 obtain ⟨-,q2⟩:=zkb c ((c.Items.filter (okC c days loans)).map (·.ID)) [] .nil
 rw[List.append_nil]at q2
 unfold refC
 rw[q2.mem_iff,List.mem_map]
 constructor
 ·rintro ⟨x,hx,rfl⟩
  exact ⟨x,(List.mem_filter.1 hx).1,(List.mem_filter.1 hx).2,rfl⟩
 ·rintro ⟨x,h1,h2,rfl⟩
  exact ⟨x,List.mem_filter.2 ⟨h1,h2⟩,rfl⟩
theorem z9l (c:Circ) (days loans most:Int):((zfi c days loans most).map (·.id_)).Sublist (refC c days loans)∧((zfi c days loans most).length:Int)≤if most<0 then 0 else most:=by
 rw[←z0i]
 unfold zfi
 generalize pdqL cfC (zeq c days loans)=v
 have key:∀(l T pre:List Weed_candidate),T.Sublist pre→((T.length:Int)≤if most<0 then 0 else most)→(l.foldl (zes c most) T).Sublist (pre++l)∧(((l.foldl (zes c most) T).length:Int)≤if most<0 then 0 else most):=by
  intro l
  induction l with
  |nil=>intro T pre h1 h2;simpa using ⟨h1,h2⟩
  |cons x l ih=>
   intro T pre h1 h2
   rw[List.foldl_cons]
   have h3:(zes c most T x).Sublist (pre++[x])∧(((zes c most T x).length:Int)≤if most<0 then 0 else most):=by
    unfold zes
    by_cases q:(T.length:Int)<most
    ·rw[decide_eq_true q,Bool.true_and]
     cases decide (1<cpC c x.record-cnt T x.record) with
     |true=>
      refine ⟨h1.append (List.Sublist.refl _),?_⟩
      rw[cond_true,List.length_append]
      have:¬most<0:=by omega
      rw[if_neg this]
      simp;omega
     |false=>exact ⟨h1.trans (List.sublist_append_left _ _),h2⟩
    ·rw[decide_eq_false q]
     exact ⟨h1.trans (List.sublist_append_left _ _),h2⟩
   have:=ih _ _ h3.1 h3.2
   rwa [List.append_assoc]at this
 have:=key v [] [] (List.Sublist.refl _) (by split<;>simp<;>omega)
 exact ⟨by simpa using this.1.map (·.id_),this.2⟩
end Go.Proofs.YtpaidiaknfhclaaGreatDoor
namespace Go.Proofs.YtpaidiaknfhclaaGreatDoor
open Go Ev
structure WdI (c:Circ):Prop where
 mid:MidP c
 loans:c.Loans.length<100000000
 known:∀n∈c.Loans,(c.Items.find? (fun x=>x.ID==n.Item)).isSome=true
theorem zadr {l:List Loan} {item:Int}:∀n∈(zdz l item).1,n∈l:=by
 intro n hn
 unfold zdz at hn
 split at hn
 ·rcases List.mem_append.1 hn with h|h
  ·exact List.mem_of_mem_take h
  ·exact List.mem_of_mem_drop h
 ·exact absurd hn (by simp)
theorem zaob {l:List Loan} {item:Int}:(zdz l item).1.length≤l.length:=by
 unfold zdz
 split
 ·simp only[List.length_append,List.length_take,List.length_drop];omega
 ·simp
theorem zaf1 {l:List Item} {i:Nat} {x:Item} {u:Custody} (hx:l[i]?=some x) (id:Int):((l.set i (zik u x)).find? (fun y=>y.ID==id)).isSome=(l.find? (fun y=>y.ID==id)).isSome:=by
 rw[Bool.eq_iff_iff,List.find?_isSome,List.find?_isSome]
 constructor
 ·rintro ⟨y,hy,h⟩
  rcases List.mem_or_eq_of_mem_set hy with hy|rfl
  ·exact ⟨y,hy,h⟩
  ·exact ⟨x,List.mem_of_getElem? hx,h⟩
 ·rintro ⟨y,hy,h⟩
  obtain ⟨j,hj⟩:=List.mem_iff_getElem?.1 hy
  by_cases e:i=j
  ·subst e
   rw[hx]at hj;cases hj
   exact ⟨zik u x,List.mem_of_getElem? (by rw[List.getElem?_set_self (List.getElem?_eq_some_iff.1 hx).1]),h⟩
  ·exact ⟨y,List.mem_of_getElem? (by rw[List.getElem?_set_ne e];exact hj),h⟩
def wdC (c:Circ) (i:Nat) (x:Item) (u:Custody):Circ:=
 bif (zdz c.Loans x.ID).2.2==0 then zj4 (zfu c i x ⟨c.Today,x.ID,15,x.Custody.Branch,0⟩ u) (zdz c.Loans x.ID).1 else zfu c i x ⟨c.Today,x.ID,15,x.Custody.Branch,0⟩ u
theorem zadb (c:Circ) (i:Nat) (x:Item) (u:Custody):(wdC c i x u).Items=c.Items.set i (zik u x):=by
 unfold wdC;cases (zdz c.Loans x.ID).2.2==0<;>rfl
theorem ztj (c:Circ) (i:Nat) (x:Item) (u:Custody):(wdC c i x u).Loans=bif (zdz c.Loans x.ID).2.2==0 then (zdz c.Loans x.ID).1 else c.Loans:=by
 unfold wdC;cases (zdz c.Loans x.ID).2.2==0<;>rfl
theorem zadc {c:Circ} (w:WdI c) {i:Nat} {x:Item} {u:Custody} (hx:c.Items[i]?=some x) (hm:MidP (zfu c i x ⟨c.Today,x.ID,15,x.Custody.Branch,0⟩ u)):WdI (wdC c i x u):=by
 refine ⟨?_,?_,fun n hn=>?_⟩
 ·unfold wdC
  cases (zdz c.Loans x.ID).2.2==0 with
  |true=>exact z8x hm (zadq w.mid.short.loans)
  |false=>exact hm
 ·rw[ztj]
  have:=w.loans
  have:=zaob (l:=c.Loans) (item:=x.ID)
  cases (zdz c.Loans x.ID).2.2==0
  ·exact w.loans
  ·simp only[cond_true];omega
 ·rw[zadb,zaf1 hx]
  rw[ztj]at hn
  refine w.known n ?_
  cases h:(zdz c.Loans x.ID).2.2==0 with
  |true=>rw[h]at hn;exact zadr n hn
  |false=>rw[h]at hn;exact hn
def WdNo (c:Circ) (item:Int):Prop:=∀(i:Nat) (x:Item),c.Items[i]?=some x→x.ID=item→c.Holds.find? (zh9 c x)=none→c.Moves.length<2000→(zav x.Custody ⟨c.Today,x.ID,15,x.Custody.Branch,0⟩).2≠0
theorem zadd {c:Circ} (h:MidP c) {i:Nat} {x:Item} (hx:c.Items[i]?=some x) (hq:c.Holds.find? (zh9 c x)=none→c.Moves.length<2000→(zav x.Custody ⟨c.Today,x.ID,15,x.Custody.Branch,0⟩).2≠0):WdNo c x.ID:=by
 intro j y hj hid
 have:=h.ids j y i x hj hx hid
 subst this
 rw[hx]at hj
 cases hj
 exact hq
theorem zgf {c:Circ} (w:WdI c) (item:Int) :
 (∃i x u,c.Items[i]?=some x∧x.ID=item∧c.Items.find? (fun x=>x.ID==item)=some x∧c.Holds.find? (zh9 c x)=none∧zav x.Custody ⟨c.Today,x.ID,15,x.Custody.Branch,0⟩=(u,0)∧WdI (wdC c i x u)∧
  qe5 c item=some (wdC c i x u,0)∧qad c item=some (wdC c i x u,0))∨
 (∃e,e≠0∧qe5 c item=some (zc4,e)∧qad c item=some (zc4,e)∧WdNo c item):=by
 have h:=w.mid
 have hln:=w.loans
 have hk:=w.known
 unfold qe5 qad
 simp -zeta only[qch,zqw h.short,zamq h.short.loans,za2x hln]
 rcases z08 h item with ⟨h1,h2,h3⟩|⟨i,x,h1,h2,hx,hid,hfd⟩
 ·have hf:(zc8 c.Loans item).2=false:=by
   unfold zc8
   cases hq:c.Loans.find? (fun n=>n.Item==item) with
   |none=>rfl
   |some n=>
    have a:=hk n (List.mem_of_find?_eq_some hq)
    have b:n.Item=item:=by have:=List.find?_some hq;simpa using this
    rw[b,h3]at a
    cases a
  have d0:decide ((0:Int)≤-1)=false:=rfl
  rw[h1,h2]
  simp only[d0,cond_false,zh3,cond_true,hf,zhd c _ _ 9 (by decide),zc7 c 9 (by decide)]
  refine .inr ⟨9,by decide,rfl,rfl,fun i x hx hid=>?_⟩
  exact absurd (List.find?_eq_none.1 h3 x (List.mem_of_getElem? hx)) (by simp[hid])
 ·subst hid
  have d0:decide ((0:Int)≤(i:Int))=true:=by rw[decide_eq_true_eq];omega
  rw[h1,h2]
  simp only[d0,cond_true,zgu,cond_false,zaj,hx,za2c h.short]
  rw[show zae zlc (x.ID,(i:Int),false,0,c,(⟨0,[],[],[],[],[],[],⟨⟨0,[]⟩,⟨0,[]⟩,⟨0,[]⟩,⟨0,[]⟩⟩,[],0,0,false⟩:Circ),x,())=_ from z16 h hx]
  simp only
  rw[zu6 h.short.holds]
  have e:(fun o:Hold=>o.Item==x.ID||(o.Record==x.Record&&!(zsy c x)&&!(x.Custody.State==12)))=zh9 c x:=by
   funext o
   unfold zh9 zmd
   simp only[beq_self_eq_true,Bool.true_and]
   cases o.Item==x.ID<;>cases o.Record==x.Record<;>cases zsy c x<;>cases x.Custody.State==12<;>rfl
  rw[e]
  have ea:c.Holds.any (zh9 c x)=(c.Holds.find? (zh9 c x)).isSome:=by rw[Bool.eq_iff_iff,List.find?_isSome,List.any_eq_true]
  rw[ea]
  cases hneed:c.Holds.find? (zh9 c x) with
  |some o=>
   right
   have hno:WdNo c x.ID:=zadd h hx (fun q=>by rw[hneed]at q;cases q)
   simp only[Option.isSome_some,cond_true,qu,beq_self_eq_true,zhd c _ _ 10 (by decide)]
   cases (zc8 c.Loans x.ID).2 with
   |false=>
    simp only[cond_false,zc7 c 10 (by decide)]
    exact ⟨10,by decide,rfl,rfl,hno⟩
   |true=>
    generalize zdz c.Loans x.ID=q
    obtain ⟨l,n,e⟩:=q
    simp only[cond_true,zgq c l e 10 (by decide),zc7 _ 10 (by decide)]
    exact ⟨10,by decide,rfl,rfl,hno⟩
  |none=>
   simp only[Option.isSome_none,cond_false,zqv hx]
   rcases zah9 h hx 15 x.Custody.Branch 0 with ⟨u,ha,m1,m2,hm2⟩|⟨e,he,m1,m2⟩
   ·left
    have hkeep:=zadc w hx hm2
    refine ⟨i,x,u,hx,rfl,hfd,hneed,ha,hkeep,?_⟩
    rw[m1,m2]
    simp only[beq_self_eq_true,Bool.not_true,cond_false]
    rw[show (zfu c i x ⟨c.Today,x.ID,15,x.Custody.Branch,0⟩ u).Loans=c.Loans from rfl]
    rw[za28 hln,zm4]
    unfold wdC
    have hL:(zfu c i x ⟨c.Today,x.ID,15,x.Custody.Branch,0⟩ u).Loans=c.Loans:=rfl
    generalize zfu c i x ⟨c.Today,x.ID,15,x.Custody.Branch,0⟩ u=c2 at hL ⊢
    generalize zdz c.Loans x.ID=q
    obtain ⟨l,n,e⟩:=q
    by_cases he:e=0
    ·subst he
     exact ⟨rfl,rfl⟩
    ·have he2:(e==0)=false:=by simpa using he
     simp only[he2,cond_false]
     rw[←hL]
     exact ⟨rfl,rfl⟩
   ·right
    have hno:WdNo c x.ID:=zadd h hx (fun _ hm2 h0=>by
     have hmv:=h.moves
     have dm:=zio (kind:=15) (branch:=x.Custody.Branch) (who:=0) h.short (by omega) hx
     have hE:zi3 c (zav x.Custody ⟨c.Today,x.ID,15,x.Custody.Branch,0⟩).2=0:=by
      rw[h0]
      unfold zi3
      rw[decide_eq_false (by omega)]
      rfl
     rw[hE,m1]at dm
     simp only[beq_self_eq_true,cond_true,Option.some.injEq,Prod.mk.injEq,Circ_desk.mk.injEq,true_and]at dm
     exact he dm.2)
    have he2:(e==0)=false:=by simpa using he
    rw[m1,m2]
    simp only[he2,Bool.not_false,cond_true]
    cases (zc8 c.Loans x.ID).2 with
    |false=>
     simp only[cond_false,zc7 c e he]
     exact ⟨e,he,rfl,rfl,hno⟩
    |true=>
     generalize zdz c.Loans x.ID=q
     obtain ⟨l,n,e2⟩:=q
     simp only[cond_true,zgq c l e2 e he,zc7 _ e he]
     exact ⟨e,he,rfl,rfl,hno⟩
def wdF (s:Circ×List Int) (id:Int):Circ×List Int:=
 match qad s.1 id with
 |some (d,e)=>bif e==0 then (d,s.2++[id]) else s
 |none=>s
theorem za4d {c:Circ} (w:WdI c) (out:List Int) (id:Int):WdI (wdF (c,out) id).1∧(wdF (c,out) id).2.length≤out.length+1:=by
 unfold wdF
 rcases zgf w id with ⟨i,x,u,-,-,-,-,-,hk,-,h2⟩|⟨e,he,-,h2,-⟩
 ·simp only[h2,beq_self_eq_true,cond_true]
  exact ⟨hk,by simp⟩
 ·have he2:(e==0)=false:=by simpa using he
  simp only[h2,he2,cond_false]
  exact ⟨w,by omega⟩
def zaiz (c:Circ) (l:List Int):Circ×List Int×Int:=
 bif l.all (fun id=>(c.Items.find? (fun x=>x.ID==id)).isSome) then ((l.foldl wdF (c,[])).1,(l.foldl wdF (c,[])).2,0) else (zc4,[],9)
theorem z9c:zc4=(⟨0,[],[],[],[],[],[],⟨⟨0,[]⟩,⟨0,[]⟩,⟨0,[]⟩,⟨0,[]⟩⟩,[],0,0,false⟩:Circ):=rfl
theorem za3c {c:Circ} (w:WdI c) {l:List Int} (hl:l.length≤1000):qg c l=some (zaiz c l):=by
 have h:=w.mid
 have hw1:=zat (step:=z2c) (fun i=>(l,l,(l.length:Int),(i:Int),c,zc4,())) l (fun _ id=>(c.Items.find? (fun x=>x.ID==id)).isSome) (.inr ([],9,zc4,())) (.inl (l,c,zc4,())) (by omega)
  (by simp only[z2c,dge,cond_false])
  (fun i id hx=>by
   have hi:=(List.getElem?_eq_some_iff.1 hx).1
   have hc:=z9t (p:=fun (g:Unit×Int×Unit) x0=>qc3 x0 g.2.1) (g:=((),(id,()))) (fun x=>x.ID==id) (l:=c.Items) h.short.items (fun y _=>rfl)
   have ea:c.Items.any (fun x=>x.ID==id)=(c.Items.find? (fun x=>x.ID==id)).isSome:=by rw[Bool.eq_iff_iff,List.find?_isSome,List.any_eq_true]
   simp only[z2c,dlt hi,cond_true,zaj,hx,hc,ea,zam (show i<9223372036854775807 by omega)]
   cases (c.Items.find? (fun x=>x.ID==id)).isSome<;>rfl)
 have hw2:=zc5 (step:=zva) (fun i (s:Circ×List Int)=>WdI s.1∧s.2.length≤i) (fun i s=>(l,(l.length:Int),(i:Int),s.1,zc4,s.2,())) l
  (fun _ id s=>.inl (wdF s id)) (fun s=>(s.1,zc4,s.2,())) (by show l.length<18446744073709551616;omega)
  (fun s _=>by simp only[zva,dge,cond_false])
  (fun i id s hx hs=>by
   have hi:=(List.getElem?_eq_some_iff.1 hx).1
   obtain ⟨s1,s2⟩:=s
   obtain ⟨q1,q2⟩:=hs
   simp only at q1 q2
   have hlim:decide (s2.length+([id]:List Int).length≤LIM)=true:=by rw[zjj];simp;omega
   have hok:=za4d q1 s2 id
   refine ⟨?_,fun s' hs'=>by cases hs';exact ⟨hok.1,by omega⟩⟩
   unfold wdF
   rcases zgf q1 id with ⟨j,x,u,-,-,-,-,-,hk,h1,h2⟩|⟨e,he,h1,h2,-⟩
   ·simp only[zva,dlt hi,cond_true,zaj,hx,h1,h2,beq_self_eq_true,hlim,zam (show i<9223372036854775807 by omega)]
   ·have he2:(e==0)=false:=by simpa using he
    simp only[zva,dlt hi,cond_true,zaj,hx,h1,h2,he2,cond_false,zam (show i<9223372036854775807 by omega)])
  (c,[]) ⟨w,by simp⟩
 unfold qg zaiz
 rw[←z9c,show zae z2c (l,l,(l.length:Int),0,c,zc4,())=_ from hw1,zay]
 cases l.all (fun id=>(c.Items.find? (fun x=>x.ID==id)).isSome) with
 |false=>rfl
 |true=>
  simp only[cond_true]
  rw[show zae zva (l,(l.length:Int),0,c,zc4,([]:List Int),())=_ from hw2,zfl]
theorem za1s {c:Circ} (hm:SmallP c) (hf:FitP c):WdI c:=⟨zatc hm hf,by have:=hm.loans;omega,fun n hn=>by obtain ⟨x,p,hx,-⟩:=z1o hf hn;rw[hx];rfl⟩
end Go.Proofs.YtpaidiaknfhclaaGreatDoor
namespace Go.Proofs.YtpaidiaknfhclaaGreatDoor
open Go Ev
theorem zus {c:Circ} (h:zdd c=true):∀x∈c.Items,za7 x=true:=by
 intro x hx
 unfold zdd at h
 simp only[Bool.and_eq_true]at h
 obtain ⟨k,hk⟩:=List.mem_iff_getElem?.1 hx
 have:=zjl.1 h.2.1 k x hk
 simp only[Bool.not_eq_true',Bool.or_eq_false_iff,Bool.not_eq_false']at this
 exact this.1
end Go.Proofs.YtpaidiaknfhclaaGreatDoor
namespace Go.Proofs.YtpaidiaknfhclaaGreatDoor
open Go Ev
theorem zit (m:Move) (item:Int):∀(l:List Move) (i:Nat) (c:Custody),
 za8 i (l++[m]) item c=(match za8 i l item c with
  |.inl c'=>bif m.Item==item then (bif (zav c' m).2==0 then .inl (zav c' m).1 else .inr (((i+l.length:Nat):Int),(zav c' m).2)) else .inl c'
  |.inr p=>.inr p):=by
 intro l
 induction l with
 |nil=>
  intro i c
  simp only[List.nil_append,za8,List.length_nil,Nat.add_zero]
 |cons x l ih=>
  intro i c
  simp only[List.cons_append,za8]
  rw[ih,ih]
  have e:i+1+l.length=i+(x::l).length:=by simp;omega
  rw[e]
  cases x.Item==item with
  |false=>rfl
  |true=>
   simp only[cond_true]
   cases (zav c x).2==0<;>rfl
theorem zs8 {branch:Int} {l:List Move} {m:Move} {item:Int} (h:(m.Item==item)=false) (hr:(zbf branch l item).2.2=0):zbf branch (l++[m]) item=zbf branch l item:=by
 unfold zbf at *
 rw[zit,h]
 cases decide (branch<1)||decide (4<branch) with
 |true=>rfl
 |false=>cases za8 0 l item (zif branch)<;>rfl
theorem zvp {branch:Int} {l:List Move} {m:Move} {item:Int} {u:Custody} (h:m.Item=item) (hr:(zbf branch l item).2.2=0) (ha:zav (zbf branch l item).1 m=(u,0)):zbf branch (l++[m]) item=(u,-1,0):=by
 unfold zbf at *
 rw[zit,show (m.Item==item)=true by simpa using h]
 cases hb:(decide (branch<1)||decide (4<branch)) with
 |true=>rw[hb]at hr;cases hr
 |false=>
  rw[hb]at hr ha
  simp only[cond_false]at hr ha ⊢
  cases hf:za8 0 l item (zif branch) with
  |inr p=>
   obtain ⟨i,e⟩:=p
   rw[hf]at hr ha
   simp only at hr ha
   subst hr
   exact absurd hf (by
    have key:∀(l:List Move) (i:Nat) (c:Custody) (j:Int),za8 i l item c≠.inr (j,0):=by
     intro l
     induction l with
     |nil=>intro i c j h;cases h
     |cons x l ih=>
      intro i c j h
      unfold za8 at h
      cases hx:x.Item==item with
      |false=>rw[hx]at h;exact ih _ _ _ h
      |true=>
       rw[hx]at h
       simp only[cond_true]at h
       cases hz:(zav c x).2==0 with
       |true=>rw[hz]at h;exact ih _ _ _ h
       |false=>
        rw[hz]at h
        simp only[cond_false]at h
        have h2:=Sum.inr.inj h
        have h3:(zav c x).2=0:=(Prod.mk.inj h2).2
        rw[h3]at hz
        cases hz
    exact key _ _ _ _)
  |inl c'=>
   rw[hf]at ha
   simp only at ha ⊢
   rw[ha]
   rfl
def setG (x:Item) (u:Custody) (z:Item):Item:=bif z.ID==x.ID then zik u z else z
theorem zp1 {l:List Item} {i:Nat} {x:Item} {u:Custody} (hi:∀(i:Nat) (x:Item) (j:Nat) (y:Item),l[i]?=some x→l[j]?=some y→x.ID=y.ID→i=j) (hx:l[i]?=some x):l.set i (zik u x)=l.map (setG x u):=by
 apply List.ext_getElem?
 intro j
 rw[List.getElem?_map]
 by_cases e:i=j
 ·subst e
  rw[List.getElem?_set_self (List.getElem?_eq_some_iff.1 hx).1,hx]
  unfold setG
  simp
 ·rw[List.getElem?_set_ne e]
  cases hj:l[j]? with
  |none=>rfl
  |some y=>
   have:(y.ID==x.ID)=false:=by
    rw[beq_eq_false_iff_ne]
    intro q
    exact e (hi i x j y hx hj q.symm)
   show some y=some (setG x u y)
   unfold setG
   rw[this];rfl
theorem zii (x:Item) (u:Custody) (z:Item):(setG x u z).ID=z.ID:=by unfold setG;cases z.ID==x.ID<;>rfl
theorem z2u (x:Item) (u:Custody) (z:Item):za7 (setG x u z)=za7 z:=by unfold setG;cases z.ID==x.ID<;>rfl
theorem zv1 (x:Item) (u:Custody) (z:Item):(setG x u z).Branch=z.Branch:=by unfold setG;cases z.ID==x.ID<;>rfl
theorem zj8 (x:Item) (u:Custody) (id:Int) (l:List Item):(l.map (setG x u)).find? (fun z=>z.ID==id)=(l.find? (fun z=>z.ID==id)).map (setG x u):=by
 rw[List.find?_map]
 congr 2
 funext z
 show ((setG x u z).ID==id)=_
 rw[zii]
theorem zip {x:Item} {u:Custody} {id:Int} {l:List Item} (h:(id==x.ID)=false):(l.map (setG x u)).find? (fun z=>z.ID==id)=l.find? (fun z=>z.ID==id):=by
 rw[zj8]
 cases hf:l.find? (fun z=>z.ID==id) with
 |none=>rfl
 |some z=>
  have hz:z.ID=id:=by have:=List.find?_some hf;simpa using this
  show some (setG x u z)=some z
  unfold setG
  rw[hz,h];rfl
theorem z9n {X Y:Type} (g:X→Y) (f:Y→Bool) (l:List X) (i:Nat):zbb (l.map g) i f=zbb l i (fun z=>f (g z)):=by
 unfold zbb
 cases i with
 |zero=>rfl
 |succ j=>
  simp only
  rw[List.getElem?_map]
  cases l[j]?<;>rfl
theorem z09 {c:Circ} (h:zdd c=true) (hi:∀(i:Nat) (x:Item) (j:Nat) (y:Item),c.Items[i]?=some x→c.Items[j]?=some y→x.ID=y.ID→i=j) {i:Nat} {x:Item} (hx:c.Items[i]?=some x) {m:Move} {u:Custody}
 (hm:m.Item=x.ID) (ha:zav x.Custody m=(u,0)) (hl:c.Moves.length<2000):zdd (zfu c i x m u)=true:=by
 have hall:=fun (y:Item) (hy:y∈c.Items)=>zex h hy
 have hmem:=List.mem_of_getElem? hx
 unfold zdd at h ⊢
 simp only[Bool.and_eq_true]at h ⊢
 obtain ⟨h1,h2,h3,h4⟩:=h
 have hit:(zfu c i x m u).Items=c.Items.map (setG x u):=zp1 hi hx
 have hmv:(zfu c i x m u).Moves=c.Moves++[m]:=rfl
 rw[hit,hmv]
 refine ⟨?_,?_,?_,?_⟩
 ·rw[List.length_map,List.length_append]
  simp only[Bool.not_eq_true',Bool.or_eq_false_iff,decide_eq_false_iff_not]at h1 ⊢
  refine ⟨h1.1,?_⟩
  simp
  omega
 ·rw[zjl]at h2 ⊢
  intro k y hk
  rw[List.getElem?_map]at hk
  cases hz:c.Items[k]? with
  |none=>rw[hz]at hk;cases hk
  |some z=>
   rw[hz]at hk
   cases hk
   have:=h2 k z hz
   rw[z2u,z9n,zii]
   simp only[zii]
   exact this
 ·unfold zpr at h3 ⊢
  rw[hmv,hit,List.all_append]
  simp only[Bool.and_eq_true,List.all_eq_true]at h3 ⊢
  refine ⟨fun w hw=>?_,fun w hw=>?_⟩
  ·rw[zj8,Option.isSome_map];exact h3 w hw
  ·have:w=m:=by simpa using hw
   subst this
   rw[zj8,Option.isSome_map,hm,List.find?_isSome]
   exact ⟨x,hmem,by simp⟩
 ·rw[List.all_eq_true]
  intro y hy
  obtain ⟨z,hz,rfl⟩:=List.mem_map.1 hy
  have hr:=hall z hz
  unfold zbk at hr ⊢
  simp only[Bool.not_eq_true',Bool.or_eq_false_iff,Bool.not_eq_false',beq_iff_eq]at hr ⊢
  obtain ⟨r1,r2⟩:=hr
  have r2:=zb2.1 r2
  rw[hmv,zv1,zii]
  cases hq:z.ID==x.ID with
  |true=>
   have hid:z.ID=x.ID:=by simpa using hq
   have hzx:z=x:=by
    obtain ⟨j,hj⟩:=List.mem_iff_getElem?.1 hz
    have:=hi j z i x hj hx hid
    subst this
    rw[hx]at hj;cases hj;rfl
   subst hzx
   have:=zvp (branch:=z.Branch) (l:=c.Moves) (item:=z.ID) hm r1 (by rw[r2];exact ha)
   rw[this]
   refine ⟨rfl,?_⟩
   rw[zb2]
   unfold setG
   rw[hq];rfl
  |false=>
   have hmz:(m.Item==z.ID)=false:=by
    rw[hm,beq_eq_false_iff_ne]
    rw[beq_eq_false_iff_ne]at hq
    exact fun e=>hq e.symm
   rw[zs8 hmz r1]
   refine ⟨r1,?_⟩
   rw[zb2,r2]
   unfold setG
   rw[hq];rfl
end Go.Proofs.YtpaidiaknfhclaaGreatDoor
namespace Go.Proofs.YtpaidiaknfhclaaGreatDoor
open Go Ev
theorem zvo (item:Int):∀(l:List Move) (i:Nat) (c c':Custody),za8 i l item c=.inl c'→c'=c∨∃c0 m,zav c0 m=(c',0):=by
 intro l
 induction l with
 |nil=>intro i c c' h;cases h;exact .inl rfl
 |cons x l ih=>
  intro i c c' h
  unfold za8 at h
  cases hx:x.Item==item with
  |false=>rw[hx]at h;exact ih _ _ _ h
  |true=>
   rw[hx]at h
   simp only[cond_true]at h
   cases hz:(zav c x).2==0 with
   |false=>rw[hz]at h;cases h
   |true=>
    rw[hz]at h
    rcases ih _ _ _ h with rfl|h
    ·refine .inr ⟨c,x,?_⟩
     have:(zav c x).2=0:=by simpa using hz
     rw[←this]
    ·exact .inr h
theorem ztq {c:Custody} {m:Move} {u:Custody} (h:zav c m=(u,0)) (hs:u.State=3):u.Who=0∧u.To=0:=by
 unfold zav at h
 cases e1:(!(zg0 c)||!(zig m)) with
 |true=>rw[e1]at h;cases h
 |false=>
  rw[e1]at h
  simp only[cond_false]at h
  cases e2:!(zg5 c.State m.Kind) with
  |true=>rw[e2]at h;cases h
  |false=>
   rw[e2]at h
   simp only[cond_false]at h
   cases e3:(m.Kind==3&&c.State==5&&!(m.Who==c.Who)) with
   |true=>rw[e3]at h;cases h
   |false=>
    rw[e3]at h
    simp only[cond_false]at h
    cases e4:!(zs3 c m) with
    |true=>rw[e4]at h;cases h
    |false=>
     rw[e4]at h
     simp only[cond_false]at h
     generalize zc6 m.Kind=k at h
     cases e7:k==2 with
     |true=>rw[e7]at h;cases h;exact ⟨rfl,rfl⟩
     |false=>
      rw[e7]at h
      simp only[cond_false]at h
      cases e5:(k==4||(k==5||k==8)) with
      |true=>
       rw[e5]at h;cases h
       simp only at hs
       subst hs
       cases e5
      |false=>
       rw[e5]at h
       simp only[cond_false]at h
       cases e6:(k==6) with
       |true=>
        rw[e6]at h;cases h
        simp only at hs
        subst hs
        cases e6
       |false=>
        rw[e6]at h
        simp only[cond_false]at h
        cases e8:(k==9||k==10) with
        |true=>
         rw[e8]at h;cases h
         simp only at hs
         subst hs
         cases e8
        |false=>rw[e8]at h;cases h;exact ⟨rfl,rfl⟩
theorem zv3 {c:Circ} {x:Item} (h:zbk c x=true) (hs:x.Custody.State=3):x.Custody.Who=0∧x.Custody.To=0:=by
 unfold zbk at h
 simp only[Bool.not_eq_true',Bool.or_eq_false_iff,Bool.not_eq_false',beq_iff_eq]at h
 obtain ⟨h1,h2⟩:=h
 have e:=zb2.1 h2
 unfold zbf at h1 e
 cases hb:(decide (x.Branch<1)||decide (4<x.Branch)) with
 |true=>rw[hb]at h1;cases h1
 |false=>
  rw[hb]at h1 e
  simp only[cond_false]at h1 e
  cases hf:za8 0 c.Moves x.ID (zif x.Branch) with
  |inr p=>
   obtain ⟨i,q⟩:=p
   rw[hf]at e
   simp only at e
   rw[←e]at hs
   cases hs
  |inl c'=>
   rw[hf]at e
   simp only at e
   subst e
   rcases zvo _ _ _ _ _ hf with e|⟨c0,m,e⟩
   ·rw[e]at hs;cases hs
   ·exact ztq e hs
def zhm (x:Item):Custody:=⟨12,x.Custody.Branch,0,0⟩
theorem z2v {x:Item} {t:Int} (hs:x.Custody.State=3) (hw:x.Custody.Who=0) (ht:x.Custody.To=0) (hb:rng 1 4 x.Custody.Branch=true) (h1:rng 0 109572 t=true) (h2:rng 1 9999 x.ID=true) :
 zav x.Custody ⟨t,x.ID,15,x.Custody.Branch,0⟩=(zhm x,0):=by
 unfold zhm
 obtain ⟨id,rc,br,kd,pr,cl,s,b,w,t2⟩:=x
 simp only at *
 subst hs hw ht
 unfold rng at hb h1 h2
 simp only[Bool.and_eq_true,decide_eq_true_eq]at hb h1 h2
 unfold zav
 have e1:zg0 ⟨3,b,0,0⟩=true:=by
  unfold zg0
  have p:zaij 3=false:=rfl
  simp[p]
  omega
 have e2:zig ⟨t,id,15,b,0⟩=true:=by
  unfold zig
  simp
  omega
 have e3:zg5 3 15=true:=rfl
 have e4:zs3 ⟨3,b,0,0⟩ ⟨t,id,15,b,0⟩=true:=by
  unfold zs3
  simp
 have e5:zc6 15=12:=rfl
 simp only[e1,e2,e3,e4,e5]
 rfl
theorem z2p {c:Circ} (h:zel c=true) (mid:MidP c) {i:Nat} {x:Item} (hx:c.Items[i]?=some x) (hs:x.Custody.State=3) (hl:c.Moves.length<2000) :
 zav x.Custody ⟨c.Today,x.ID,15,x.Custody.Branch,0⟩=(zhm x,0)∧zel (zfu c i x ⟨c.Today,x.ID,15,x.Custody.Branch,0⟩ (zhm x))=true∧(zc8 c.Loans x.ID).2=false:=by
 have hf:=fitP h
 have hmem:=List.mem_of_getElem? hx
 have hrep:=zex hf.items hmem
 obtain ⟨hw,ht⟩:=zv3 hrep hs
 have hsh:=zus hf.items x hmem
 unfold za7 at hsh
 simp only[Bool.and_eq_true]at hsh
 have hid:rng 1 9999 x.ID=true:=hsh.1.1.1.1.1.1
 have htoday:rng 0 109572 c.Today=true:=by
  have:=hf.nums
  unfold zgj at this
  simp only[Bool.not_eq_true',Bool.or_eq_false_iff,decide_eq_false_iff_not]at this
  unfold rng
  simp only[Bool.and_eq_true,decide_eq_true_eq]
  omega
 have ha:=z2v hs hw ht (zm5 hf hmem) htoday hid
 have hnl:(zc8 c.Loans x.ID).2=false:=by
  rw[hf.itemG x hmem]
  unfold zht
  rw[hs];rfl
 refine ⟨ha,?_,hnl⟩
 have hit:(zfu c i x ⟨c.Today,x.ID,15,x.Custody.Branch,0⟩ (zhm x)).Items=c.Items.map (setG x (zhm x)):=zp1 mid.ids hx
 have hitems:=z09 hf.items mid.ids hx (m:=⟨c.Today,x.ID,15,x.Custody.Branch,0⟩) rfl ha hl
 have hl0:∀n∈c.Loans,(n.Item==x.ID)=false:=by
  intro n hn
  unfold zc8 at hnl
  cases hq:c.Loans.find? (fun n=>n.Item==x.ID) with
  |some k=>rw[hq]at hnl;cases hnl
  |none=>
   have:=List.find?_eq_none.1 hq n hn
   simpa using this
 have hh0:∀o∈c.Holds,o.State≠1→(o.Got==x.ID)=false:=by
  intro o ho ho1
  cases hq:o.Got==x.ID with
  |false=>rfl
  |true=>
   have hq:o.Got=x.ID:=by simpa using hq
   have hg:=hf.holdG o ho
   unfold zd8 at hg
   simp only[Bool.and_eq_true]at hg
   have hg:=hg.2
   have ho1':(o.State==1)=false:=by simpa using ho1
   have hfd:c.Items.find? (fun z=>z.ID==o.Got)=some x:=by
    rw[hq]
    cases hz:c.Items.find? (fun z=>z.ID==x.ID) with
    |none=>exact absurd (List.find?_eq_none.1 hz x hmem) (by simp)
    |some z=>
     have hz1:=List.find?_some hz
     obtain ⟨j,hj⟩:=List.mem_iff_getElem?.1 (List.mem_of_find?_eq_some hz)
     have:=mid.ids j z i x hj hx (by simpa using hz1)
     subst this
     rw[hx]at hj;cases hj;rfl
   rw[ho1',hfd]at hg
   simp only[Bool.false_or,hs]at hg
   rcases zm8 (zh5 hf.holds ho) with e|e|e
   ·exact absurd e ho1
   ·rw[e]at hg;simp at hg
   ·rw[e]at hg;simp at hg
 unfold zel at h ⊢
 simp only[Bool.and_eq_true]at h ⊢
 obtain ⟨r1,r2,r3,r4,r5,r6,r7⟩:=h
 refine ⟨r1,r2,r3,r4,by rw[zf9];exact hitems,?_,?_⟩
 ·unfold zcp at r6 ⊢
  simp only[Bool.and_eq_true,List.all_eq_true,beq_iff_eq]at r6 ⊢
  refine ⟨fun n hn=>?_,fun y hy=>?_⟩
  ·have:=r6.1 n hn
   unfold zc9 at this ⊢
   rw[hit,zip (hl0 n hn)]
   exact this
  ·rw[hit]at hy
   obtain ⟨z,hz,rfl⟩:=List.mem_map.1 hy
   show (zc8 c.Loans (setG x (zhm x) z).ID).2=_
   rw[zii]
   cases hq:z.ID==x.ID with
   |true=>
    have e:z.ID=x.ID:=by simpa using hq
    rw[e,hnl]
    unfold setG
    rw[hq];rfl
   |false=>
    rw[r6.2 z hz]
    unfold setG
    rw[hq];rfl
 ·unfold zdw at r7 ⊢
  simp only[Bool.and_eq_true,List.all_eq_true]at r7 ⊢
  refine ⟨fun o ho=>?_,fun y hy=>?_⟩
  ·have hg:=r7.1 o ho
   unfold zd8 at hg ⊢
   by_cases ho1:o.State=1
   ·rw[show (o.State==1)=true by simpa using ho1]at hg ⊢
    exact hg
   ·rw[hit,zip (hh0 o ho ho1)]
    exact hg
  ·rw[hit]at hy
   obtain ⟨z,hz,rfl⟩:=List.mem_map.1 hy
   have hg:=r7.2 z hz
   unfold zcc at hg ⊢
   rw[zii]
   cases hq:z.ID==x.ID with
   |true=>
    unfold setG
    rw[hq];rfl
   |false=>
    unfold setG
    rw[hq]
    exact hg
end Go.Proofs.YtpaidiaknfhclaaGreatDoor
namespace Go.Proofs.YtpaidiaknfhclaaGreatDoor
open Go Ev
def zhl (done:List Int) (z:Item):Item:=bif done.contains z.ID then zik (zhm z) z else z
theorem zaf7 (done:List Int) (z:Item):(zhl done z).ID=z.ID:=by unfold zhl;cases done.contains z.ID<;>rfl
structure Wk (c s:Circ) (done:List Int):Prop where
 right:zel s=true
 wd:WdI s
 items:s.Items=c.Items.map (zhl done)
 holds:s.Holds=c.Holds
 today:s.Today=c.Today
 moves:s.Moves.length=c.Moves.length+done.length
theorem zax4 {c s:Circ} {done out:List Int} (k:Wk c s done) (mid:MidP c) {x:Item} (hx:x∈c.Items) (hs:x.Custody.State=3) (hh:zq4 c x=false) (hnd:done.contains x.ID=false) (hmv:c.Moves.length+done.length<2000) :
 ∃s',wdF (s,out) x.ID=(s',out++[x.ID])∧Wk c s' (done++[x.ID]):=by
 have hgx:zhl done x=x:=by unfold zhl;rw[hnd];rfl
 obtain ⟨i,hi⟩:=List.mem_iff_getElem?.1 hx
 have hsi:s.Items[i]?=some x:=by rw[k.items,List.getElem?_map,hi];show some (zhl done x)=_;rw[hgx]
 have hneed:s.Holds.find? (zh9 s x)=none:=by
  rw[List.find?_eq_none,k.holds]
  intro o ho
  unfold zq4 at hh
  rw[List.any_eq_false]at hh
  have:=hh o ho
  simp only[Bool.or_eq_true,not_or,Bool.not_eq_true]at this
  unfold zh9
  rw[this.1,this.2]
  simp
 obtain ⟨g1,g2,g3⟩:=z2p k.right k.wd.mid hsi hs (by rw[k.moves];exact hmv)
 rcases zgf k.wd x.ID with ⟨j,y,u,hj,hy,-,-,ha,hw,-,h2⟩|⟨e,-,-,-,hno⟩
 ·have hij:=k.wd.mid.ids j y i x hj hsi hy
  subst hij
  rw[hj]at hsi
  cases hsi
  rw[g1]at ha
  cases ha
  have hnb:((zdz s.Loans x.ID).2.2==0)=false:=by rw[←zm4];exact g3
  have hwd:wdC s j x (zhm x)=zfu s j x ⟨s.Today,x.ID,15,x.Custody.Branch,0⟩ (zhm x):=by
   unfold wdC
   rw[hnb];rfl
  rw[hwd]at hw h2
  refine ⟨_,?_,g2,hw,?_,k.holds,k.today,?_⟩
  ·unfold wdF
   simp only[h2,beq_self_eq_true,cond_true]
  ·show s.Items.set j (zik (zhm x) x)=_
   rw[zp1 k.wd.mid.ids hj,k.items,List.map_map]
   apply List.map_congr_left
   intro z hz
   show setG x (zhm x) (zhl done z)=zhl (done++[x.ID]) z
   unfold setG
   rw[zaf7]
   cases hq:z.ID==x.ID with
   |true=>
    have hid:z.ID=x.ID:=by simpa using hq
    have hzx:z=x:=by
     obtain ⟨l,hl⟩:=List.mem_iff_getElem?.1 hz
     have:=mid.ids l z j x hl hi hid
     subst this
     rw[hi]at hl;cases hl;rfl
    subst hzx
    rw[hgx,cond_true]
    unfold zhl
    have:(done++[z.ID]).contains z.ID=true:=by simp
    rw[this];rfl
   |false=>
    rw[cond_false]
    unfold zhl
    have hne:¬z.ID=x.ID:=by simpa using hq
    have:(done++[x.ID]).contains z.ID=done.contains z.ID:=by
     rw[Bool.eq_iff_iff]
     simp[hne]
    rw[this]
  ·show (s.Moves++[_]).length=_
   rw[List.length_append,k.moves,List.length_append]
   simp
   omega
 ·exact absurd (by rw[g1]) (hno i x hsi rfl hneed (by rw[k.moves];exact hmv))
theorem zax3 {c:Circ} (mid:MidP c):∀(l done out:List Int) (s:Circ),Wk c s done→(∀id∈l,∃x∈c.Items,x.ID=id∧x.Custody.State=3∧zq4 c x=false)→l.Nodup→(∀id∈l,done.contains id=false)→c.Moves.length+done.length+l.length<2000→
 ∃s',l.foldl wdF (s,out)=(s',out++l)∧Wk c s' (done++l):=by
 intro l
 induction l with
 |nil=>intro done out s k _ _ _ _;exact ⟨s,by simp,by simpa using k⟩
 |cons id l ih=>
  intro done out s k hl hnd hd hm
  obtain ⟨x,hx,rfl,hs,hh⟩:=hl id (List.mem_cons_self ..)
  simp only[List.length_cons]at hm
  obtain ⟨s1,e1,k1⟩:=zax4 (out:=out) k mid hx hs hh (hd _ (List.mem_cons_self ..)) (by omega)
  rw[List.nodup_cons]at hnd
  obtain ⟨s2,e2,k2⟩:=ih (done++[x.ID]) (out++[x.ID]) s1 k1 (fun id h=>hl id (List.mem_cons_of_mem _ h)) hnd.2 (fun id h=>by
   have h1:=hd id (List.mem_cons_of_mem _ h)
   have h2:¬id=x.ID:=fun e=>hnd.1 (e▸h)
   rw[Bool.eq_false_iff]at h1 ⊢
   intro q
   simp[h2]at q
   exact h1 (by simpa using q)) (by simp;omega)
  rw[List.foldl_cons,e1]
  exact ⟨s2,by rw[e2];simp,by simpa using k2⟩
theorem zps:∀{A B:List Int},A.Nodup→(∀a∈A,a∈B)→A.length≤B.length:=by
 intro A
 induction A with
 |nil=>intro B _ _;simp
 |cons a A ih=>
  intro B hn hs
  rw[List.nodup_cons]at hn
  have ha:=hs a (List.mem_cons_self ..)
  have:=ih (B:=B.erase a) hn.2 (fun b hb=>by
   have h1:b≠a:=fun e=>hn.1 (e▸hb)
   exact (List.mem_erase_of_ne h1).2 (hs b (List.mem_cons_of_mem _ hb)))
  rw[List.length_erase_of_mem ha]at this
  have hp:=List.length_pos_of_mem ha
  simp only[List.length_cons]
  omega
def isCp (r:Int) (x:Item):Bool:=x.Record==r&&!(x.Custody.State==12)
theorem za0p (r:Int):∀(l:List Item) (n:Int),0≤n→n+l.length<100000000→l.foldl (fun s x=>cpF r x s) n=n+((l.filter (isCp r)).length:Int):=by
 intro l
 induction l with
 |nil=>intro n _ _;simp
 |cons x l ih=>
  intro n h1 h2
  have hl:((x::l).length:Int)=l.length+1:=by simp
  have e:cpF r x n=bif isCp r x then n+1 else n:=by
   unfold cpF isCp
   rw[zeo (by omega) (by omega)]
  rw[List.foldl_cons,e]
  cases hq:isCp r x with
  |true=>
   rw[cond_true,ih (n+1) (by omega) (by omega),List.filter_cons,hq]
   simp
   omega
  |false=>
   rw[cond_false,ih n h1 (by omega),List.filter_cons,hq]
   simp
theorem z6n {c:Circ} (h:c.Items.length<1000000) (r:Int):cpC c r=((c.Items.filter (isCp r)).length:Int):=by
 unfold cpC
 rw[za0p r c.Items 0 (by omega) (by omega)]
 omega
theorem z01 {X:Type} (p q:X→Bool):∀l:List X,(l.filter p).length=(l.filter (fun x=>p x&&q x)).length+(l.filter (fun x=>p x&&!q x)).length:=by
 intro l
 induction l with
 |nil=>rfl
 |cons x l ih=>
  rw[List.filter_cons,List.filter_cons,List.filter_cons]
  cases p x<;>cases q x<;>simp[ih]<;>omega
theorem zadf {c s:Circ} {done:List Int} (k:Wk c s done) (r:Int):(s.Items.filter (isCp r)).length=(c.Items.filter (fun x=>isCp r x&&!(done.contains x.ID))).length:=by
 rw[k.items,List.filter_map,List.length_map]
 congr 2
 funext z
 show isCp r (zhl done z)=_
 unfold zhl
 cases done.contains z.ID with
 |true=>
  show isCp r (zik (zhm z) z)=_
  unfold isCp zik zhm
  simp
 |false=>simp
theorem zaig (c:Circ) (most:Int):∀(l T:List Weed_candidate),(∀r,cnt T r=0∨cnt T r+1≤cpC c r)→∀r,cnt (l.foldl (zes c most) T) r=0∨cnt (l.foldl (zes c most) T) r+1≤cpC c r:=by
 intro l
 induction l with
 |nil=>intro T h r;exact h r
 |cons x l ih=>
  intro T h
  rw[List.foldl_cons]
  refine ih _ (fun r=>?_)
  unfold zes
  cases hb:decide ((T.length:Int)<most)&&decide (1<cpC c x.record-cnt T x.record) with
  |false=>exact h r
  |true=>
   rw[cond_true,zw1]
   simp only[Bool.and_eq_true,decide_eq_true_eq]at hb
   cases hr:x.record==r with
   |true=>
    have:x.record=r:=by simpa using hr
    subst this
    right
    simp only[cond_true]
    omega
   |false=>
    rw[cond_false,Int.add_zero]
    exact h r
end Go.Proofs.YtpaidiaknfhclaaGreatDoor
namespace Go.Proofs.YtpaidiaknfhclaaGreatDoor
open Go Ev
theorem z7d (c:Circ) (l:List Int) (hl:l.length≤1000):zae z2l (l,wr .i64 ((l.length:Int)-1),c,([]:List Int),())=some (l,c,l.reverse,()):=by
 have hw:=zc5 (step:=z2l) (fun i (s:List Int)=>s.length≤i) (fun i s=>(l,(l.length:Int)-1-(i:Int),c,s,())) l.reverse
  (fun _ x s=>.inl (s++[x])) (fun s=>(l,c,s,())) (by rw[List.length_reverse];show l.length<18446744073709551616;omega)
  (fun s _=>by
   have:decide ((0:Int)≤(l.length:Int)-1-((l.reverse.length:Nat):Int))=false:=by rw[decide_eq_false_iff_not,List.length_reverse];omega
   simp only[z2l,this,cond_false])
  (fun i x s hx hs=>by
   have hi:=(List.getElem?_eq_some_iff.1 hx).1
   rw[List.length_reverse]at hi
   have h0:decide ((0:Int)≤(l.length:Int)-1-(i:Int))=true:=by rw[decide_eq_true_eq];omega
   have hg:getI l ((l.length:Int)-1-(i:Int))=some x:=by
    rw[show (l.length:Int)-1-(i:Int)=((l.length-1-i:Nat):Int) by omega,zaj]
    rw[List.getElem?_reverse hi]at hx
    exact hx
   have hlim:decide (s.length+([x]:List Int).length≤LIM)=true:=by rw[zjj];simp;omega
   refine ⟨?_,fun s' hs'=>by cases hs';simp;omega⟩
   simp only[z2l,h0,hg,hlim,cond_true,zeo (show -9223372036854775808≤(l.length:Int)-1-(i:Int)-1 by omega) (by omega)]
   congr 3
   rw[show (l.length:Int)-1-(i:Int)-1=(l.length:Int)-1-((i+1:Nat):Int) by omega])
  [] (by simp)
 rw[zeo (by omega) (by omega)]
 have e:(l.length:Int)-1=(l.length:Int)-1-((0:Nat):Int):=by omega
 rw[e,hw,zfl]
 have e2:∀(m acc:List Int),m.foldl (fun s x=>s++[x]) acc=acc++m:=by
  intro m
  induction m with
  |nil=>intro acc;simp
  |cons x m ih=>intro acc;rw[List.foldl_cons,ih];simp
 rw[e2]
 rfl
theorem zaih {c:Circ} (mid:MidP c) (days loans most:Int):((zfi c days loans most).map (·.id_)).Nodup∧∀id∈(zfi c days loans most).map (·.id_),∃x∈c.Items,x.ID=id∧x.Custody.State=3∧zq4 c x=false:=by
 obtain ⟨h1,-⟩:=z9l c days loans most
 obtain ⟨-,q2⟩:=zkb c ((c.Items.filter (okC c days loans)).map (·.ID)) [] .nil
 rw[List.append_nil]at q2
 have hids:(c.Items.map (·.ID)).Nodup:=by
  rw[List.nodup_iff_pairwise_ne,List.pairwise_iff_getElem]
  intro i j hi hj hij e
  simp only[List.getElem_map]at e
  have hi':i<c.Items.length:=by simpa using hi
  have hj':j<c.Items.length:=by simpa using hj
  have:=mid.ids i _ j _ (List.getElem?_eq_getElem hi') (List.getElem?_eq_getElem hj') e
  omega
 have hn:(refC c days loans).Nodup:=by
  unfold refC
  rw[q2.nodup_iff]
  exact ((List.filter_sublist (l:=c.Items)).map (·.ID)).nodup hids
 refine ⟨h1.nodup hn,fun id hid=>?_⟩
 have:=h1.subset hid
 rw[zaio]at this
 obtain ⟨x,hx,hok,e⟩:=this
 unfold okC at hok
 simp only[Bool.and_eq_true,beq_iff_eq,Bool.not_eq_true']at hok
 exact ⟨x,hx,e,hok.1,hok.2.2.2⟩
theorem za4f {c:Circ} (hr:zel c=true) (w:WdI c):Wk c c []:=by
 refine ⟨hr,w,?_,rfl,rfl,by simp⟩
 have:zhl []=id:=by funext z;rfl
 rw[this]
 simp
theorem zany {c:Circ} (hr:zel c=true) (w:WdI c) {l:List Int} (hl:∀id∈l,∃x∈c.Items,x.ID=id∧x.Custody.State=3∧zq4 c x=false) (hn:l.Nodup) (hm:c.Moves.length+l.length<2000) :
 ∃s,zaiz c l=(s,l,0)∧Wk c s l:=by
 obtain ⟨s,e,k⟩:=zax3 w.mid l [] [] c (za4f hr w) hl hn (fun id _=>rfl) (by simpa using hm)
 refine ⟨s,?_,by simpa using k⟩
 unfold zaiz
 have:l.all (fun id=>(c.Items.find? (fun x=>x.ID==id)).isSome)=true:=by
  rw[List.all_eq_true]
  intro id hid
  obtain ⟨x,hx,e,-⟩:=hl id hid
  rw[List.find?_isSome]
  exact ⟨x,hx,by simpa using e⟩
 rw[this,e]
 rfl
theorem zre {c s:Circ} (mid:MidP c) (h:WeedS c) (days loans most:Int) (k:Wk c s ((zfi c days loans most).map (·.id_))) (hs:s.Items.length<1000000) (r:Int) (hr:0<cpC c r):1≤cpC s r:=by
 have hi':=h.items
 rw[z6n hs,zadf k]
 have h1:=z6n (c:=c) (by omega) r
 have h2:=z01 (isCp r) (fun x=>((zfi c days loans most).map (·.id_)).contains x.ID) c.Items
 have h3:(c.Items.filter (fun x=>isCp r x&&((zfi c days loans most).map (·.id_)).contains x.ID)).length≤((zfi c days loans most).filter (fun t=>t.record==r)).length:=by
  have hids:(c.Items.map (·.ID)).Nodup:=by
   rw[List.nodup_iff_pairwise_ne,List.pairwise_iff_getElem]
   intro i j hi hj hij e
   simp only[List.getElem_map]at e
   have hi':i<c.Items.length:=by simpa using hi
   have hj':j<c.Items.length:=by simpa using hj
   have:=mid.ids i _ j _ (List.getElem?_eq_getElem hi') (List.getElem?_eq_getElem hj') e
   omega
  have a1:=zps (A:=(c.Items.filter (fun x=>isCp r x&&((zfi c days loans most).map (·.id_)).contains x.ID)).map (·.ID)) (B:=((zfi c days loans most).filter (fun t=>t.record==r)).map (·.id_)) (((List.filter_sublist (l:=c.Items)).map (·.ID)).nodup hids) (fun a ha=>?_)
  ·rw[List.length_map,List.length_map]at a1
   exact a1
  obtain ⟨z,hz,rfl⟩:=List.mem_map.1 ha
  obtain ⟨hz1,hz2⟩:=List.mem_filter.1 hz
  simp only[Bool.and_eq_true,List.contains_iff_mem]at hz2
  obtain ⟨hz2,hz3⟩:=hz2
  obtain ⟨t,ht,e⟩:=List.mem_map.1 hz3
  refine List.mem_map.2 ⟨t,List.mem_filter.2 ⟨ht,?_⟩,e⟩
  have htc:t∈zeq c days loans:=by
   have hsub:∀(l T:List Weed_candidate) (t:Weed_candidate),t∈l.foldl (zes c most) T→t∈T∨t∈l:=by
    intro l
    induction l with
    |nil=>intro T t h;exact .inl h
    |cons x l ih=>
     intro T t h
     rw[List.foldl_cons]at h
     rcases ih _ _ h with h|h
     ·rcases z9j c most T x t h with h|rfl
      ·exact .inl h
      ·exact .inr (List.mem_cons_self ..)
     ·exact .inr (List.mem_cons_of_mem _ h)
   unfold zfi at ht
   rcases hsub _ _ _ ht with h|h
   ·simp at h
   ·exact (zk6 _).1.mem_iff.1 h
  unfold zeq at htc
  obtain ⟨y,hy,rfl⟩:=List.mem_map.1 htc
  have hy1:=(List.mem_filter.1 hy).1
  obtain ⟨j,hj⟩:=List.mem_iff_getElem?.1 hy1
  obtain ⟨i,hi⟩:=List.mem_iff_getElem?.1 hz1
  have:=mid.ids j y i z hj hi e
  subst this
  rw[hj]at hi
  cases hi
  unfold isCp at hz2
  simp only[Bool.and_eq_true]at hz2
  exact hz2.1
 have h4:=zaig c most (pdqL cfC (zeq c days loans)) [] (fun r=>.inl rfl) r
 rw[show (pdqL cfC (zeq c days loans)).foldl (zes c most) []=zfi c days loans most from rfl]at h4
 unfold cnt at h4
 omega
theorem zmm (c:Circ) (days loans most:Int):qz c days loans most=some true:=by
 unfold qz
 simp only[za24,zzv]
 cases hb:zl0 c&&zel c with
 |false=>rfl
 |true=>
  simp only[Bool.and_eq_true]at hb
  have hm:=zanw hb.1
  have hf:=fitP hb.2
  have w:=za1s hm hf
  have h:=za5d hm
  have hmv:=h.moves
  obtain ⟨p1,p2⟩:=zaih w.mid days loans most
  have hlen:=z9k h days loans most
  have hl:((zfi c days loans most).map (·.id_)).length≤10:=by rw[List.length_map];exact hlen
  have hkc:=fun s (k:Wk c s ((zfi c days loans most).map (·.id_))) hs=>zre w.mid h days loans most k hs
  simp only[za2o h,Bool.not_true,cond_false]
  generalize (zfi c days loans most).map (·.id_)=l at p1 p2 hl hkc ⊢
  rw[z7d c l (by omega)]
  obtain ⟨s,e1,k1⟩:=zany hb.2 w p2 p1 (by omega)
  obtain ⟨s2,e2,k2⟩:=zany hb.2 w (l:=l.reverse) (fun id hid=>p2 id (by simpa using hid)) ((List.reverse_perm l).nodup_iff.2 p1) (by rw[List.length_reverse];omega)
  have hi1:s.Items.length=c.Items.length:=by rw[k1.items,List.length_map]
  have hi2:s2.Items.length=c.Items.length:=by rw[k2.items,List.length_map]
  have hii:=h.items
  have hsame:s2.Items=s.Items:=by
   rw[k2.items,k1.items]
   apply List.map_congr_left
   intro z _
   unfold zhl
   have:l.reverse.contains z.ID=l.contains z.ID:=by rw[Bool.eq_iff_iff];simp
   rw[this]
  have hcp:∀r,cpC s2 r=cpC s r:=fun r=>by unfold cpC;rw[hsame]
  have hrl:l.reverse.length≤10:=by rw[List.length_reverse];exact hl
  have hloop:zae zlo (0,c,s,s2,())=some (.inl ()):=by
   have hw:=zat (step:=zlo) (fun i=>((i:Int),c,s,s2,())) c.Items (fun _ _=>true) (.inr (false,())) (.inl ()) (by omega)
    (by simp only[zlo,dge,cond_false])
    (fun i x hx=>by
     have hi:=(List.getElem?_eq_some_iff.1 hx).1
     simp only[zlo,dlt hi,cond_true,zaj,hx,zzh (show c.Items.length<1000000000 by omega),zzh (show s.Items.length<1000000000 by omega),zzh (show s2.Items.length<1000000000 by omega),zam (show i<9223372036854775807 by omega),hcp,beq_self_eq_true,Bool.not_true,cond_false]
     by_cases q:0<cpC c x.Record
     ·have:=hkc s k1 (by omega) x.Record q
      rw[decide_eq_true q,decide_eq_false (show ¬cpC s x.Record<1 by omega)]
      rfl
     ·rw[decide_eq_false q]
      rfl)
   rw[show zae zlo (0,c,s,s2,())=_ from hw,zay,show (c.Items.all fun _=>true)=true by simp]
   rfl
  simp only[za3c w (show l.length≤1000 by omega),za3c w (show l.reverse.length≤1000 by omega),e1,e2,z9o (show l.length<1000000000 by omega),z9o (show l.reverse.length<1000000000 by omega),
   zaml k1.wd.mid.short,zaml k2.wd.mid.short,k1.right,k2.right,hloop]
  rfl
end Go.Proofs.YtpaidiaknfhclaaGreatDoor
