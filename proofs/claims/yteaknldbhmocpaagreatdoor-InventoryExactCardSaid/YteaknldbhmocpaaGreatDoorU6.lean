/- InventoryExact: a part of the proof of the given statement, which is proved without conditions. -/
import Derived.Test.YteaknldbhmocpaaGreatDoorU5
set_option linter.all false
namespace Go.Proofs.YteaknldbhmocpaaGreatDoor
open Ev
open Go (IntKind Lit)
theorem b8k {c:Circ} (h:InvS c) (b:Int):(a6m c b).Pairwise (fun a b=>a<b):=by
 unfold a6m;exact h.asc.sublist ((List.filter_sublist (l:=c.Items)).map (·.ID))
theorem d8h:∀{l:List Int},l.Pairwise (fun a b=>a<b)→∀n,tms l n≤1:=by
 intro l
 induction l with
 |nil=>intro _ n;simp[tms]
 |cons x l ih=>
  intro h n;rw[List.pairwise_cons]at h;rw[b1z];cases hx:x==n with
  |false=>have:=ih h.2 n;rw[yac];omega
  |true=>
   have e:x=n:=by simpa using hx
   subst e;have hz:=c0d l x;have:l.contains x=false:=by
    rw[Bool.eq_false_iff];intro hc;have:=h.1 x (by simpa using hc);omega
   rw[this]at hz;have:tms l x=0:=by simpa using hz
   rw[yae,this];omega
theorem e93 {c:Circ} (h:InvS c) {x:Item} (hx:x∈c.Items):itm c x.ID=(x,true):=by
 unfold itm;have hn:(c.Items.map (·.ID)).Pairwise (fun a b=>a<b):=h.asc;cases hf:c.Items.find? (fun y=>y.ID==x.ID) with
 |none=>
  have:=List.find?_eq_none.1 hf x hx;simp at this
 |some y=>
  have hy:=List.mem_of_find?_eq_some hf;have he:y.ID=x.ID:=by have:=List.find?_some hf;simpa using this
  obtain ⟨i,hi⟩:=ybb hx;obtain ⟨j,hj⟩:=ybb hy;have hi2:(c.Items.map (·.ID))[i]?=some x.ID:=by rw[yaQ,hi];rfl
  have hj2:(c.Items.map (·.ID))[j]?=some y.ID:=by rw[yaQ,hj];rfl
  rcases Nat.lt_trichotomy i j with q|q|q
  ·have:=d41 hn hi2 hj2 q;omega
  ·subst q;rw[hi]at hj;cases hj;rfl
  ·have:=d41 hn hj2 hi2 q;omega
theorem b3d {c:Circ} (h:InvS c) {b:Int}:f2i c b (a6m c b)=[]:=by
 have hc:=a4h (b8k h b);have hm:d3s c b (a6m c b)=[]:=by
  unfold d3s;rw[ybo];intro n hn;rw[c0d,show (a6m c b).contains n=true by simpa using hn];simp
 have hi:∀n∈a6m c b,(itm c n).2=true∧c5j b (itm c n).1=true:=by
  intro n hn;unfold a6m at hn;rw[ya4]at hn;obtain ⟨x,hx,rfl⟩:=hn;rw[List.mem_filter]at hx;rw[e93 h hx.1];exact ⟨rfl,hx.2⟩
 have hf:(a6m c b).filter (fnd c b)=[]:=by
  rw[ybo];intro n hn;obtain ⟨h1,h2⟩:=hi n hn;unfold fnd;rw[h1,h2];cases hk:kn b with
  |true=>simp
  |false=>
   rw[h.exp hk (e2p h1).1]at h2;cases h2
 have hu:(a6m c b).filter (fun n=>!(itm c n).2)=[]:=by
  rw[ybo];intro n hn;rw[(hi n hn).1];simp
 have hd:(a6m c b).filter (dup (a6m c b))=[]:=by
  rw[ybo];intro n hn;unfold dup;have:=d8h (b8k h b) n;rw[yaf];omega
 unfold f2i;rw[hc,hm,hf,hu,hd];have e:(bif kn b then ([]:List Int) else [])=[]:=by cases kn b<;>rfl
 rw[e,a4h (l:=[]) List.Pairwise.nil];rfl
theorem c76:∀{v l:List Int},(∀x∈v,l.contains x=true)→∀n:Int,0≤n→n+v.length<100000000→v.foldl (fun s x=>c2h l x s) n=n+v.length:=by
 intro v
 induction v with
 |nil=>intro l _ n _ _;simp
 |cons x v ih=>
  intro l h n h1 h2;have hl:((x::v).length:Int)=v.length+1:=by simp
  rw[List.foldl_cons];unfold c2h;rw[h x (yba ..),yae,a2c (by omega) (by omega)];have:=ih (l:=l) (fun y hy=>h y (List.mem_cons_of_mem _ hy)) (n+1) (by omega) (by omega);unfold c2h at this;rw[this];omega
theorem c77 {v:List Int} (hv:v.length≤10):d35 v v=1000:=by
 unfold d35;cases h:(v.length:Int)==0 with
 |true=>rfl
 |false=>
  have h0:(v.length:Int)≠0:=by simpa using h
  have e:d34 v v=v.length:=by
   unfold d34;rw[c76 (fun x hx=>by simpa using hx) 0 (by omega) (by omega),Int.zero_add]
  rw[yac,e,a2c (n:=(v.length:Int)*1000) (by omega) (by omega)];have e2:((v.length:Int)*1000).tdiv (v.length:Int)=1000:=Int.mul_tdiv_cancel_left _ h0;rw[e2,a2c (by omega) (by omega)]
theorem a4m (c:Circ) (branch:Int):qb3 c branch=some true:=by
 unfold qb3;rw[f3g];cases hs:b44 c with
 |false=>rfl
 |true=>
  have sp:=f19 hs;simp -zeta only[yaG,yac,f3o sp.short,a1t,qbz];dsimp only;cases hr:b4x c with
  |false=>rfl
  |true=>
   cases hb:decide (branch<1)||decide (4<branch) with
   |true=>
    rw[ya5,yaf,yaf]at hb;rcases hb with hb|hb
    ·simp only[decide_eq_true hb];rfl
    ·simp only[decide_eq_true hb];cases decide (branch<1)<;>rfl
   |false=>
    rw[yaJ,yaB,yaB]at hb;have h:=f4h (f4d hr);have he:=b00 c branch;have hi:=sp.items;have hl:(a6m c branch).length≤60:=by omega
    have hk:kn branch=true:=by unfold kn;rw[decide_eq_true (show 1≤branch by omega),decide_eq_true (show branch≤4 by omega)];rfl
    have es:qaz c branch (a6m c branch)=some (c,0):=by
     unfold qaz;simp only[c7w,hk,f0i hi hl,b3d h];have hw:c9 c7t (branch,([]:List Problem),((([]:List Problem).length:Nat):Int),0,c,ZN,())=some (.inl (c,ZN,())):=
      a1r 1 (by rw[z7];omega) rfl
     rw[hw];rfl
    rw[decide_eq_false hb.1,decide_eq_false hb.2];simp only[yaG,Bool.or_false,ybH,yac,e4c (show c.Items.length<1000000000 by omega),es,f0i hi hl,b3d h,f0h hi hl,c77 (show (a6m c branch).length≤10 by omega),e4a sp.short];rfl
end Go.Proofs.YteaknldbhmocpaaGreatDoor
