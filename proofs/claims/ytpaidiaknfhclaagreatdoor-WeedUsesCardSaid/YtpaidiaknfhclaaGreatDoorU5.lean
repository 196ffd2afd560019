/- WeedUses: a part of the proof of the given statement, which is proved without conditions. -/
import Derived.Test.YtpaidiaknfhclaaGreatDoorU4
import Derived.Lib.TrimUEq
import Derived.Lib.ValidU
import Derived.Lib.FieldsP
import Derived.Lib.Join
import Derived.Shelf.Strings.OnBuilder
import Derived.Shelf.Strings.FieldsFuncAny
import Derived.Shelf.Unicode.ValidAny
import Derived.Shelf.SlSortCmp.WholeK
import Derived.Shelf.SlicesG.Cmp
import Derived.Ground.SlsfProg
import Derived.Ground.SlgcProg
import Derived.Ground.NamesProg
import Derived.Ground.Names2Prog
import Derived.Test.YtpaidiaknfhclaaGreatDoorProg
import Derived.WalkKit
import Derived.WalkMore
import Derived.Below
import Derived.Laws.RangeString
import Derived.Laws.Runes
import Derived.LoopTactic
import Derived.Deep.LoopGhost
import Derived.Test.YtpaidiaknfhclaaGreatDoorTie
import Derived.Tactics
import Derived.Tactics2
import Derived.WalkSpells
import Derived.StillTactics
import Derived.Laws.Pointers
import Derived.Deep.RegionHeld3
import Derived.KernelRfl
import Derived.Shelf.SlSortCmp.NoneTotal
import Derived.Laws.BitsLemmas
set_option linter.all false
namespace Go.Proofs.YtpaidiaknfhclaaGreatDoor.Ev
open Go
section
variable {κ:Type} {El:κ→Type} {S:Sg κ El} {P:Program}
structure DelOk (P:Program) (f z:Nat):Prop where
 non:∀{w:World} {base:Option Addr} {n c i:Nat},n≤c→i≤n→Calls P f #[.slice base n c,.int .i64 i,.int .i64 i] w fun e w'=>e=.returned (.slice base n c)∧w'=w
 som:∀{w:World} {b n c i j:Nat} {L:List Value} {t:TypeId},i<j→j≤n→n≤c→w.heap[b]?=some (.cells L.toArray t (0,0))→L.length=c*z→(∀v∈(L.drop (j*z)).take ((n-j)*z),v.oneCell'=true)→
  Calls P f #[.slice (some ⟨b,0,none⟩) n c,.int .i64 i,.int .i64 j] w fun e w'=>
   e=.returned (.slice (some ⟨b,0,none⟩) (i+(n-j)) c)∧∃(M0:Array Value) (zs:List Value),zs.length=(j-i)*z∧w'=(w.drew.setRow b M0).setRow b (Go.splice (Go.splice L (i*z) ((L.drop (j*z)).take ((n-j)*z))) ((i+(n-j))*z) zs).toArray
theorem zagw (sgk:SgOk S) {f:Nat} {fn:Func} {code:Code} (fok:FnOk P f fn code) (hmd:S.md f=.cons) {k:κ} (W:DelOk P f (S.sz k))
 {xs:List (El k)} {i j:Nat} {ds:List (D κ El)} (hij:i≤j) (hj:j≤xs.length) (hwl:WL ds [.lst k xs,.int .i64 (i:Int),.int .i64 (j:Int)]) :
 Con P S f ds [] (.lst k (xs.take i++xs.drop j)) []:=by
 unfold Con
 rw[hmd]
 intro _ k' xs' ds0 hds k2 xs2 hd w I J mb v0 vs hp ho ha
 subst hds
 cases hd
 have hw0:=hwl.2 0 _ _ rfl rfl
 cases hw0 with
 |leaf _ _ hw0=>
 cases hw0
 have ha:=WL.args (cs':=[.int .i64 (i:Int),.int .i64 (j:Int)]) ⟨by simpa using hwl.1,fun q d d' h1 h2=>hwl.2 (q+1) d d' (by simpa using h1) (by simpa using h2)⟩ ha
 obtain ⟨base,c,rfl,hnc,hz⟩:=ho
 obtain ⟨hvs,hav⟩:=ha
 obtain ⟨u1,u2,rfl⟩:∃u1 u2,vs = #[u1,u2]:=by
  simp at hvs
  exact ⟨vs[0],vs[1],by
   apply Array.ext
   ·simp[hvs]
   ·intro j h1 h2;simp at h2;rcases (show j=0∨j=1 by omega) with rfl|rfl<;>rfl⟩
 have hu1:u1=.int .i64 i:=(hav 0 u1 _ rfl rfl).int_inv
 have hu2:u2=.int .i64 j:=(hav 1 u2 _ rfl rfl).int_inv
 subst hu1 hu2
 obtain ⟨n,hn⟩:∃n,n=xs.length:=⟨_,rfl⟩
 have hpos:=sgk.pos k
 have hIw:∀b o,I b o→b<w.heap.size:=hp.ib
 have hres:(xs.take i++xs.drop j).length=i+(n-j):=by simp;omega
 unfold zcb
 rw[MuLone.run_callFunc_enter fok.at_ fok.name fok.body _ w]
 simp only
 show Calls P f #[.slice base xs.length c,.int .i64 (i:Int),.int .i64 (j:Int)] w _
 by_cases heq:i=j
 ·subst heq
  refine (W.non hnc hj).mono (fun e w' he=>?_)
  obtain ⟨rfl,rfl⟩:=he
  have e:xs.take i++xs.drop i=xs:=by simp
  rw[e]
  refine ⟨I,⟨Nat.le_refl _,rfl,rfl,rfl,fun _ _ _=>rfl,fun _ _ h=>h,fun _ _ h=>.inl h,hIw⟩,base,c,rfl,hnc,?_⟩
  rcases hz with ⟨h,_⟩|⟨b,vals,t,rfl,rfl,hb,hvsz,hel⟩
  ·exact .inl h
  ·have hbI:∀o,¬I b o:=fun o h=>(hp.jb b o (hp.ij b o h)).2 (by simp)
   refine .inr ⟨b,vals,t,rfl,hb,hvsz,.inr (by simp),hbI,fun q hq j d hj=>?_⟩
   obtain ⟨v,a,e⟩:=hel q hq j d hj
   exact ⟨v,a,zej sgk e (zcw sgk hj) (fun _ _ h=>⟨rfl,h⟩)⟩
 ·have hlt:i<j:=by omega
  rcases hz with ⟨rfl,rfl⟩|⟨b,vals,t,rfl,rfl,hb,hvsz,hel⟩
  ·exfalso;omega
  ·have hbw:b<w.heap.size:=(Array.getElem?_eq_some_iff.1 hb).1
   have hbI:∀o,¬I b o:=fun o h=>(hp.jb b o (hp.ij b o h)).2 (by simp)
   obtain ⟨L,hL⟩:∃L,L=vals.toList:=⟨_,rfl⟩
   have hLa:vals=L.toArray:=by rw[hL]
   have hLl:L.length=c*S.sz k:=by rw[hL];simpa using hvsz
   rw[hLa]at hb
   have hel':∀i (hi:i<xs.length) j d,(S.enc k xs[i])[j]?=some d→∃v,L[i*S.sz k+j]?=some v∧DR S w I J v d:=fun i hi j d hj=>by
    obtain ⟨v,a,e⟩:=hel i hi j d hj
    exact ⟨v,by rw[hL];simpa using a,e⟩
   have hnL:n*S.sz k≤L.length:=by rw[hLl];exact Nat.mul_le_mul_right _ (by omega)
   have hone:∀v∈L.take (n*S.sz k),v.oneCell'=true:=fun v hv=>by
    obtain ⟨p,hp'⟩:=List.getElem?_of_mem hv
    have hlt:=(List.getElem?_eq_some_iff.1 hp').1
    simp only[List.length_take]at hlt
    have h1:p / S.sz k<n:=(Nat.div_lt_iff_lt_mul hpos).2 (by omega)
    have h2:=Nat.mod_lt p hpos
    have h3:p % S.sz k<(S.enc k (xs[p / S.sz k]'(by omega))).length:=by rw[sgk.sz];exact h2
    obtain ⟨v',a,e⟩:=hel' (p / S.sz k) (by omega) _ _ (List.getElem?_eq_getElem h3)
    rw[Nat.div_add_mod']at a
    rw[List.getElem?_take,if_pos (by omega),a]at hp'
    cases hp'
    exact z19 e (sgk.plain k _ _ (List.getElem_mem h3))
   have hjn:j*S.sz k≤n*S.sz k:=Nat.mul_le_mul_right _ (by omega)
   have hC1:(L.drop (j*S.sz k)).take ((n-j)*S.sz k)=(L.take (n*S.sz k)).drop (j*S.sz k):=by
    rw[List.drop_take];congr 1;rw[Nat.sub_mul]
   have hone1:∀v∈(L.drop (j*S.sz k)).take ((n-j)*S.sz k),v.oneCell'=true:=fun v hv=>hone v (by rw[hC1]at hv;exact List.mem_of_mem_drop hv)
   obtain ⟨C1,hC⟩:∃C1,C1=(L.drop (j*S.sz k)).take ((n-j)*S.sz k):=⟨_,rfl⟩
   have hC1l:C1.length=n*S.sz k-j*S.sz k:=by rw[hC,hC1];simp;omega
   have hC1g:∀q,q<n*S.sz k-j*S.sz k→C1[q]?=L[j*S.sz k+q]?:=fun q hq=>by rw[hC,hC1,List.getElem?_drop,List.getElem?_take,if_pos (by omega)]
   have hij':i*S.sz k≤j*S.sz k:=Nat.mul_le_mul_right _ (by omega)
   have hm:(i+(n-j))*S.sz k=i*S.sz k+(n*S.sz k-j*S.sz k):=by rw[Nat.add_mul,Nat.sub_mul]
   have hz2:(j-i)*S.sz k=j*S.sz k-i*S.sz k:=by rw[Nat.sub_mul]
   refine (W.som hlt hj hnc hb hLl (by rw[←hn];exact hone1)).mono (fun e w' he=>?_)
   obtain ⟨rfl,M0,zs,hzl,rfl⟩:=he
   rw[←hn,←hC]
   have l1:(Go.splice L (i*S.sz k) C1).length=L.length:=length_splice _ _ _ (by omega)
   have l2:(Go.splice (Go.splice L (i*S.sz k) C1) ((i+(n-j))*S.sz k) zs).length=L.length:=by rw[length_splice _ _ _ (by omega),l1]
   generalize hM:Go.splice (Go.splice L (i*S.sz k) C1) ((i+(n-j))*S.sz k) zs=M at l2 ⊢
   have hMg:∀p,p<(i+(n-j))*S.sz k→M[p]?=if p<i*S.sz k then L[p]? else L[p+(j*S.sz k-i*S.sz k)]?:=fun p hp=>by
    rw[←hM,za5 (by omega),if_neg (by omega),za5 (by omega)]
    by_cases h:p<i*S.sz k
    ·rw[if_neg (by omega),if_pos h]
    ·rw[if_pos (by omega),if_neg h,hC1g _ (by omega)]
     congr 1;omega
   have hheap:((w.drew.setRow b M0).setRow b M.toArray).heap[b]?=some (.cells M.toArray t (0,0)):=setRow_heap _ _ _ _ _ _ (setRow_heap w.drew _ _ _ _ _ hb)
   have hoth:∀q,q≠b→((w.drew.setRow b M0).setRow b M.toArray).heap[q]?=w.heap[q]?:=fun q hq=>by rw[setRow_other _ _ _ _ hq,setRow_other _ _ _ _ hq];rfl
   have hsz:((w.drew.setRow b M0).setRow b M.toArray).heap.size=w.heap.size:=by simp only[setRow_size];rfl
   refine ⟨I,⟨by omega,rfl,rfl,rfl,fun q hq hm=>hoth q (by simpa using hm),fun _ _ h=>h,fun _ _ h=>.inl h,fun q o h=>by have:=hIw q o h;omega⟩,
    some ⟨b,0,none⟩,c,by rw[hres],by omega,.inr ⟨b,_,t,rfl,hheap,by simp[l2,hLl],.inr (by simp),hbI,?_⟩⟩
   intro q hq s d hs
   have hs':s<S.sz k:=by have:=(List.getElem?_eq_some_iff.1 hs).1;rwa [sgk.sz]at this
   rw[hres]at hq
   have hlt2:=zcp hs' hq
   by_cases hqi:q<i
   ·have e:(xs.take i++xs.drop j)[q]'(by omega)=xs[q]'(by omega):=by rw[List.getElem_append_left (by simp;omega)];simp
    rw[e]at hs
    obtain ⟨v,a,e2⟩:=hel' q (by omega) s d hs
    refine ⟨v,?_,zej sgk e2 (zcw sgk hs) (fun q o h=>⟨by simp only[World.cell?];rw[hoth q (fun e=>by subst e;exact hbI o h)],h⟩)⟩
    rw[←a,List.getElem?_toArray,hMg _ hlt2,if_pos (zcp hs' hqi)]
   ·have e:(xs.take i++xs.drop j)[q]'(by omega)=xs[q+(j-i)]'(by omega):=by
     have hl:(xs.take i).length=i:=by simp;omega
     rw[List.getElem_append_right (by omega)]
     simp only[hl,List.getElem_drop]
     congr 1;omega
    rw[e]at hs
    obtain ⟨v,a,e2⟩:=hel' (q+(j-i)) (by omega) s d hs
    refine ⟨v,?_,zej sgk e2 (zcw sgk hs) (fun q o h=>⟨by simp only[World.cell?];rw[hoth q (fun e=>by subst e;exact hbI o h)],h⟩)⟩
    have hqz:i*S.sz k≤q*S.sz k:=Nat.mul_le_mul_right _ (by omega)
    rw[←a,List.getElem?_toArray,hMg _ hlt2,if_neg (by omega)]
    congr 1
    rw[Nat.add_mul,hz2];omega
theorem zr7 (sgk:SgOk S) {f:Nat} {fn:Func} {code:Code} (fok:FnOk P f fn code) (hmd:S.md f=.cons) {k:κ} (W:DelOk P f (S.sz k))
 {xs r:List (El k)} {i j:Int} {ds:List (D κ El)} (hwl:WL ds [.lst k xs,.int .i64 i,.int .i64 j]) (hr:zlq xs i j=some r):Con P S f ds [] (.lst k r) []:=by
 unfold zlq at hr
 rw[zad]at hr
 split at hr
 ·rename_i h
  simp only[Bool.and_eq_true,decide_eq_true_eq]at h
  cases hr
  obtain ⟨n,rfl⟩:=Int.eq_ofNat_of_zero_le h.1.1.1
  obtain ⟨m,rfl⟩:=Int.eq_ofNat_of_zero_le (Int.le_trans h.1.1.1 h.1.1.2)
  exact zagw sgk fok hmd W (i:=n) (j:=m) (by omega) (by omega) hwl
 ·cases hr
end
end Go.Proofs.YtpaidiaknfhclaaGreatDoor.Ev
namespace Go.Proofs.YtpaidiaknfhclaaGreatDoor.Ev
open Go
def badC (c:Nat):Bool:=decide (c<32)||(decide (127≤c)&&decide (c≤159))||decide (65535<c)
theorem zew {c:Nat}:badC c=true↔c<32∨(127≤c∧c≤159)∨65535<c:=by
 unfold badC;simp only[Bool.or_eq_true,Bool.and_eq_true,decide_eq_true_eq];omega
theorem zav1 {a:UInt8} {r:List UInt8} {k:Nat}:(a::r).getD (k+1) 0=r.getD k 0:=by simp[List.getD]
set_option maxHeartbeats 2000000 in
theorem zjz {l:List UInt8} (hl:l≠[]):dcd l=if ((Lib.decodeL l).1=65533∧(Lib.decodeL l).2=1)∨badC (Lib.decodeL l).1=true then (0,0) else Lib.decodeL l:=by
 cases l with
 |nil=>exact absurd rfl hl
 |cons a r=>
  rw[Lib.decodeL_N]
  have ha:=a.toNat_lt
  simp only[zew]
  rcases r with _|⟨b,_|⟨c,_|⟨d,r⟩⟩⟩
  ·simp only[List.getD_cons_zero,List.getD_cons_succ,List.getD_nil,List.length_cons,List.length_nil]
   obtain ⟨X,hX⟩:∃X,Lib.decodeN (0+1) a.toNat (0:UInt8).toNat (0:UInt8).toNat (0:UInt8).toNat=X:=⟨_,rfl⟩
   rw[hX]
   unfold Lib.decodeN at hX
   unfold dcd
   dsimp only
   split at hX
   ·subst hX
    repeat' split
    all_goals first|with_reducible rfl|(exfalso;omega)
   ·rw[if_neg (by omega),if_neg (by omega),if_neg (by omega)]at hX
    subst hX
    repeat' split
    all_goals first|with_reducible rfl|(exfalso;omega)
  ·simp only[List.getD_cons_zero,List.getD_cons_succ,List.getD_nil,List.length_cons,List.length_nil]
   have hb:=b.toNat_lt
   obtain ⟨X,hX⟩:∃X,Lib.decodeN (0+1+1) a.toNat b.toNat (0:UInt8).toNat (0:UInt8).toNat=X:=⟨_,rfl⟩
   rw[hX]
   unfold Lib.decodeN at hX
   unfold dcd
   dsimp only
   repeat' split at hX
   all_goals subst hX
   all_goals dsimp only
   all_goals repeat' split
   all_goals first|with_reducible rfl|(exfalso;omega)|(simp only[Prod.mk.injEq,and_true];omega)
  ·simp only[List.getD_cons_zero,List.getD_cons_succ,List.getD_nil,List.length_cons,List.length_nil]
   have hb:=b.toNat_lt
   have hc:=c.toNat_lt
   obtain ⟨X,hX⟩:∃X,Lib.decodeN (0+1+1+1) a.toNat b.toNat c.toNat (0:UInt8).toNat=X:=⟨_,rfl⟩
   rw[hX]
   unfold Lib.decodeN at hX
   unfold dcd
   dsimp only
   repeat' split at hX
   all_goals subst hX
   all_goals dsimp only
   all_goals repeat' split
   all_goals first|with_reducible rfl|(exfalso;omega)|(simp only[Prod.mk.injEq,and_true];omega)
  ·simp only[List.getD_cons_zero,List.getD_cons_succ,List.getD_nil,List.length_cons,List.length_nil]
   have hb:=b.toNat_lt
   have hc:=c.toNat_lt
   have hd:=d.toNat_lt
   obtain ⟨X,hX⟩:∃X,Lib.decodeN (r.length+1+1+1+1) a.toNat b.toNat c.toNat d.toNat=X:=⟨_,rfl⟩
   rw[hX]
   unfold Lib.decodeN at hX
   unfold dcd
   dsimp only
   repeat' split at hX
   all_goals subst hX
   all_goals dsimp only
   all_goals repeat' split
   all_goals first|with_reducible rfl|(exfalso;omega)|(simp only[Prod.mk.injEq,and_true];omega)
def okN:Nat→List UInt8→Bool
 |0,_=>true
 |n+1,l=>if l=[] then true else if badC (Lib.decodeL l).1 then false else okN n (l.drop (Lib.decodeL l).2)
theorem zd6 {l:List UInt8} (hl:l≠[]):1≤(Lib.decodeL l).2∧(Lib.decodeL l).2≤l.length:=by
 cases l with
 |nil=>exact absurd rfl hl
 |cons a r=>
  rw[Lib.decodeL_N]
  unfold Lib.decodeN
  have:1≤(a::r).length:=by simp
  repeat' split
  all_goals simp only
  all_goals omega
theorem zapj:∀(n:Nat) (l:List UInt8),vldN n l=(Lib.validGoD n l&&okN n l):=by
 intro n
 induction n with
 |zero=>intro l;rfl
 |succ n ih=>
  intro l
  simp only[vldN,Lib.validGoD,okN]
  by_cases hl:l=[]
  ·simp[hl]
  ·simp only[hl,if_false]
   rw[zjz hl]
   by_cases h1:(Lib.decodeL l).1=65533∧(Lib.decodeL l).2=1
   ·simp[h1]
   ·by_cases h2:badC (Lib.decodeL l).1=true
    ·simp[h2]
    ·have:=zd6 hl
     have hne:¬(((Lib.decodeL l).1=65533∧(Lib.decodeL l).2=1)∨badC (Lib.decodeL l).1=true):=fun h=>h.elim h1 h2
     rw[if_neg hne,if_neg (show ¬(Lib.decodeL l).2=0 by omega),if_neg h1,if_neg h2]
     exact ih _
theorem zaaa:∀(n m:Nat) (l:List UInt8),l.length≤n→l.length≤m→okN n l=okN m l:=by
 intro n
 induction n with
 |zero=>intro m l h1 h2;have:l=[]:=List.length_eq_zero_iff.1 (by omega);subst this;cases m<;>simp[okN]
 |succ n ih=>
  intro m l h1 h2
  by_cases hl:l=[]
  ·subst hl;cases m<;>simp[okN]
  ·have hp:=zd6 hl
   have:0<l.length:=List.length_pos_iff.2 hl
   obtain ⟨m,rfl⟩:∃k,m=k+1:=⟨m-1,by omega⟩
   simp only[okN,hl,if_false]
   split
   ·rfl
   ·exact ih m _ (by rw[List.length_drop];omega) (by rw[List.length_drop];omega)
theorem z0n (xs:List (List UInt8)) (y sep:List UInt8):Lib.join (xs++[y]) sep=if xs=[] then y else Lib.join xs sep++(sep++y):=by
 cases xs with
 |nil=>simp[Lib.join_one]
 |cons x xs=>
  rw[List.cons_append,Lib.join_cons,Lib.join_cons]
  simp[Lib.joinTail]
def pcs (l:List UInt8) (acc:List (Nat×Nat)):List (List UInt8):=acc.map fun x=>(l.take x.2).drop x.1
def J (l:List UInt8) (acc:List (Nat×Nat)):List UInt8:=Lib.join (pcs l acc) [32]
theorem zapo (l:List UInt8):J l []=[]:=rfl
theorem zw6 (l:List UInt8) (acc:List (Nat×Nat)) (a b:Nat):J l (acc++[(a,b)])=if acc=[] then (l.take b).drop a else J l acc++([32]++(l.take b).drop a):=by
 unfold J pcs
 rw[List.map_append,List.map_singleton,z0n]
 simp only[List.map_eq_nil_iff]
theorem J_ne {l:List UInt8}:∀{acc:List (Nat×Nat)},(∀x∈acc,x.1<x.2∧x.2≤l.length)→acc≠[]→J l acc≠[]:=by
 intro acc h hne
 obtain ⟨x,r,rfl⟩:=List.exists_cons_of_ne_nil hne
 have hx:=h x (by simp)
 unfold J pcs
 rw[List.map_cons,Lib.join_cons]
 intro e
 have:=congrArg List.length e
 simp only[List.length_append,List.length_drop,List.length_take,List.length_nil]at this
 omega
theorem zyf {s:ByteArray} {l:List UInt8} (hl:s.data.toList=l) (p:Nat→Bool) (hp:∀c,p c=blk c):∀(f pos:Nat) (st:Option Nat) (acc:List (Nat×Nat)) (gap:Bool),
 s.size≤pos+f→pos≤s.size→vldN f (l.drop pos)=true→(∀a,st=some a→a<pos∧gap=false)→(st=none→gap=true∨acc=[])→(∀x∈acc,x.1<x.2∧x.2≤l.length)→
 J l (Lib.closeSpans s (Lib.spansFromP p s f pos st acc))=clnN f (l.drop pos) (match st with|some a=>J l (acc++[(a,pos)])|none=>J l acc) gap:=by
 have hsz:s.size=l.length:=by rw[Lib.size_eq,hl]
 intro f
 induction f with
 |zero=>
  intro pos st acc gap h1 h2 hv hs hn hacc
  have:pos=s.size:=by omega
  subst this
  simp only[Lib.spansFromP,clnN]
  cases st with
  |none=>rfl
  |some a=>rfl
 |succ f ih=>
  intro pos st acc gap h1 h2 hv hs hn hacc
  by_cases hlt:pos<s.size
  ·have hne:l.drop pos≠[]:=by simp;omega
   have hdec:Lib.decodeL (l.drop pos)=Utf8.decode s pos:=by rw[←hl];exact Lib.decodeL_drop s pos
   have hpos:=zd6 hne
   rw[List.length_drop]at hpos
   have hv2:=hv
   simp only[vldN,hne,if_false]at hv2
   have hd:=zjz hne
   split at hd
   ·rw[hd]at hv2;simp at hv2
   ·rename_i hnb
    have hz:¬(dcd (l.drop pos)).2=0:=by rw[hd];omega
    rw[if_neg hz,List.drop_drop,hd,hdec]at hv2
    have hw:wid (l.drop pos)=(Utf8.decode s pos).2:=by unfold wid;rw[hd,hdec,if_neg (by rw[←hdec];omega)]
    rw[hdec]at hpos
    obtain ⟨k,hk⟩:∃k,(Utf8.decode s pos).2=k:=⟨_,rfl⟩
    rw[clnN,if_neg hne,List.drop_drop,hw,hd,hdec]
    simp only[Lib.spansFromP,hlt,if_true,hp]
    rw[hk]at hpos hv2 ⊢
    have htk:∀a,a≤pos→(l.take pos).drop a++(l.drop pos).take k=(l.take (pos+k)).drop a:=by
     intro a ha
     rw[List.take_add,List.drop_append_of_le_length (by simp;omega)]
    cases hb:blk (Utf8.decode s pos).1 with
    |true=>
     simp only[if_true]
     cases st with
     |none=>exact ih (pos+k) none acc true (by omega) (by omega) hv2 (fun a h=>by cases h) (fun _=>.inl rfl) hacc
     |some a=>
      have:=(hs a rfl).1
      exact ih (pos+k) none (acc++[(a,pos)]) true (by omega) (by omega) hv2 (fun a h=>by cases h) (fun _=>.inl rfl) (fun x hx=>by
       rcases List.mem_append.1 hx with h|h
       ·exact hacc x h
       ·simp only[List.mem_singleton]at h;subst h;exact ⟨this,by simp only;omega⟩)
    |false=>
     simp only[Bool.false_eq_true,if_false]
     cases st with
     |some a=>
      obtain ⟨ha,hg⟩:=hs a rfl
      subst hg
      rw[ih (pos+k) (some a) acc false (by omega) (by omega) hv2 (fun b h=>by cases h;exact ⟨by omega,rfl⟩) (fun h=>by cases h) hacc]
      simp only[Bool.false_and,Bool.false_eq_true,if_false]
      congr 1
      rw[zw6,zw6]
      split
      ·exact (htk a (by omega)).symm
      ·rw[←htk a (by omega)];simp
     |none=>
      rw[ih (pos+k) (some pos) acc false (by omega) (by omega) hv2 (fun b h=>by cases h;exact ⟨by omega,rfl⟩) (fun h=>by cases h) hacc]
      congr 1
      dsimp only
      rw[zw6]
      have e:=htk pos (Nat.le_refl _)
      rw[@List.drop_eq_nil_of_le _ (l.take pos) _ (by simp;omega),List.nil_append]at e
      rcases hn rfl with hg|hacc0
      ·subst hg
       by_cases h0:acc=[]
       ·subst h0;simp[zapo,e]
       ·have:=J_ne hacc h0
        have hb2:(J l acc==[])=false:=by simpa using this
        simp[h0,hb2,e]
      ·subst hacc0;simp[zapo,e]
  ·have:pos=s.size:=by omega
   subst this
   have hnil:l.drop s.size=[]:=by rw[hsz];simp
   rw[Lib.spansFromP_end _ _ _ _ _ _ hlt,clnN,if_pos hnil]
   cases st with
   |none=>rfl
   |some a=>rfl
theorem zu9 {s:ByteArray} {p:Nat→Bool} (hp:∀c,p c=blk c) (hv:vld s.data.toList=true):Lib.join ((Lib.goFieldsP p s).map (·.data.toList)) [32]=cln s.data.toList:=by
 have h:=zyf (s:=s) rfl p hp s.size 0 none [] false (by omega) (by omega) (by rw[List.drop_zero,Lib.size_eq];exact hv) (fun a h=>by cases h) (fun _=>.inr rfl) (fun x h=>by cases h)
 rw[List.drop_zero]at h
 have hc:cln s.data.toList=clnN s.size s.data.toList [] false:=by unfold cln;rw[Lib.size_eq]
 rw[hc]
 refine Eq.trans ?_ h
 unfold J pcs Lib.goFieldsP Lib.spansOfP
 rw[List.map_map]
 congr 1
 refine List.map_congr_left (fun x _=>?_)
 show (s.extract x.1 x.2).data.toList=(s.data.toList.take x.2).drop x.1
 rw[Lib.extract_data,List.drop_take]
theorem z5n (p:Nat→Bool) (s:ByteArray):∀(f pos:Nat) (st:Option Nat) (acc:List (Nat×Nat)),(Lib.spansFromP p s f pos st acc).1.length≤acc.length+f:=by
 intro f
 induction f with
 |zero=>intro pos st acc;exact Nat.le_refl _
 |succ f ih=>
  intro pos st acc
  unfold Lib.spansFromP
  split
  ·split
   ·cases st with
    |none=>exact Nat.le_trans (ih _ _ _) (by omega)
    |some a=>exact Nat.le_trans (ih _ _ _) (by simp;omega)
   ·cases st with
    |none=>exact Nat.le_trans (ih _ _ _) (by omega)
    |some a=>exact Nat.le_trans (ih _ _ _) (by omega)
  ·simp
theorem zvm (p:Nat→Bool) (s:ByteArray):(Lib.goFieldsP p s).length≤s.size+1:=by
 have:=z5n p s s.size 0 none []
 unfold Lib.goFieldsP Lib.spansOfP Lib.closeSpans
 rw[List.length_map]
 split
 ·rw[List.length_append];simp at this ⊢;omega
 ·simp at this;omega
theorem z7n:∀(n:Nat) (l out:List UInt8) (gap:Bool),(clnN n l out gap).length≤out.length+2*l.length:=by
 intro n
 induction n with
 |zero=>intro l out gap;simp[clnN]
 |succ n ih=>
  intro l out gap
  rw[clnN]
  split
  ·omega
  ·have hw:1≤wid l:=by unfold wid;split<;>omega
   have hl:0<l.length:=List.length_pos_iff.2 (by assumption)
   split
   ·have:=ih (l.drop (wid l)) out true
    rw[List.length_drop]at this
    omega
   ·have:=ih (l.drop (wid l)) ((if gap&&!(out==[]) then out++[32] else out)++l.take (wid l)) false
    rw[List.length_drop]at this
    have h2:(if gap&&!(out==[]) then out++[32] else out).length≤out.length+1:=by split<;>simp
    simp only[List.length_append,List.length_take]at this
    omega
theorem zagv (s:ByteArray):(cln s.data.toList).length≤2*s.size:=by
 have:=z7n s.data.toList.length s.data.toList [] false
 rw[Lib.size_eq]
 simpa[cln]using this
end Go.Proofs.YtpaidiaknfhclaaGreatDoor.Ev
namespace Go.Proofs
open Go.Shelf
def Tryz.laysValid_ren:Go.Shelf.Ren:=⟨fun|196=>193|259=>239|n=>n,fun|9=>9|4=>4|3=>3|5=>5|12=>12|119=>238|0=>0|46=>145|139=>241|138=>240|53=>197|n=>n,fun|3=>0|4=>1|n=>n⟩
theorem Tryz.laysValid:Go.Proofs.Lays.n196 Tryz.prog Tryz.laysValid_ren:={
 mixed:=by kernel_rfl
 f196:=Tryz.func193.trans (congrArg some (by kernel_rfl))
 f259:=Tryz.func239.trans (congrArg some (by kernel_rfl))
 t0:=Tryz.underlying0
 a0:=Tryz.isAgg0
 z0:=Tryz.sizeOf0
 v0:=Tryz.zeroValue0
 t3:=Tryz.underlying3
 a3:=Tryz.isAgg3
 z3:=Tryz.sizeOf3
 v3:=Tryz.zeroValue3
 t4:=Tryz.underlying4
 a4:=Tryz.isAgg4
 z4:=Tryz.sizeOf4
 v4:=Tryz.zeroValue4
 t5:=Tryz.underlying5
 a5:=Tryz.isAgg5
 z5:=Tryz.sizeOf5
 v5:=Tryz.zeroValue5
 t9:=Tryz.underlying9
 a9:=Tryz.isAgg9
 z9:=Tryz.sizeOf9
 v9:=Tryz.zeroValue9
 t12:=Tryz.underlying12
 a12:=Tryz.isAgg12
 z12:=Tryz.sizeOf12
 v12:=Tryz.zeroValue12
 t46:=Tryz.underlying145
 a46:=Tryz.isAgg145
 z46:=Tryz.sizeOf145
 v46:=Tryz.zeroValue145
 t53:=Tryz.underlying197
 a53:=Tryz.isAgg197
 z53:=Tryz.sizeOf197
 v53:=Tryz.zeroValue197
 t119:=Tryz.underlying238
 a119:=Tryz.isAgg238
 z119:=Tryz.sizeOf238
 t138:=Tryz.underlying240
 a138:=Tryz.isAgg240
 z138:=Tryz.sizeOf240
 v138:=Tryz.zeroValue240
 t139:=Tryz.underlying241
 a139:=Tryz.isAgg241
 z139:=Tryz.sizeOf241
 v139:=Tryz.zeroValue241
 g3:=by kernel_rfl
 g4:=by kernel_rfl}
def Tryz.lays156_ren:Go.Shelf.Ren:=⟨fun|156=>240|165=>255|166=>256|169=>257|240=>266|241=>267|276=>273|277=>274|n=>n,fun|31=>245|9=>9|3=>3|4=>4|0=>0|20=>20|72=>261|76=>264|70=>258|37=>259|75=>263|127=>276|164=>279|5=>5|80=>266|n=>n,fun|n=>n⟩
theorem Tryz.lays156:Go.Proofs.Lays.n156 Tryz.prog Tryz.lays156_ren:={
 mixed:=by kernel_rfl
 f156:=Tryz.func240.trans (congrArg some (by kernel_rfl))
 f165:=Tryz.func255.trans (congrArg some (by kernel_rfl))
 f166:=Tryz.func256.trans (congrArg some (by kernel_rfl))
 f169:=Tryz.func257.trans (congrArg some (by kernel_rfl))
 f240:=Tryz.func266.trans (congrArg some (by kernel_rfl))
 f241:=Tryz.func267.trans (congrArg some (by kernel_rfl))
 f276:=Tryz.func273.trans (congrArg some (by kernel_rfl))
 f277:=Tryz.func274.trans (congrArg some (by kernel_rfl))
 t0:=Tryz.underlying0
 a0:=Tryz.isAgg0
 z0:=Tryz.sizeOf0
 v0:=Tryz.zeroValue0
 t3:=Tryz.underlying3
 a3:=Tryz.isAgg3
 z3:=Tryz.sizeOf3
 v3:=Tryz.zeroValue3
 t4:=Tryz.underlying4
 a4:=Tryz.isAgg4
 z4:=Tryz.sizeOf4
 v4:=Tryz.zeroValue4
 t9:=Tryz.underlying9
 a9:=Tryz.isAgg9
 z9:=Tryz.sizeOf9
 v9:=Tryz.zeroValue9
 t20:=Tryz.underlying20
 a20:=Tryz.isAgg20
 z20:=Tryz.sizeOf20
 v20:=Tryz.zeroValue20
 t31:=Tryz.underlying245
 a31:=Tryz.isAgg245
 z31:=Tryz.sizeOf245
 v31:=Tryz.zeroValue245
 t37:=Tryz.underlying259
 a37:=Tryz.isAgg259
 z37:=Tryz.sizeOf259
 v37:=Tryz.zeroValue259
 t70:=Tryz.underlying258
 a70:=Tryz.isAgg258
 z70:=Tryz.sizeOf258
 v70:=Tryz.zeroValue258
 t72:=Tryz.underlying261
 a72:=Tryz.isAgg261
 z72:=Tryz.sizeOf261
 v72:=Tryz.zeroValue261
 t75:=Tryz.underlying263
 a75:=Tryz.isAgg263
 z75:=Tryz.sizeOf263
 v75:=Tryz.zeroValue263
 t76:=Tryz.underlying264
 a76:=Tryz.isAgg264
 z76:=Tryz.sizeOf264
 v76:=Tryz.zeroValue264
 t127:=Tryz.underlying276
 a127:=Tryz.isAgg276
 z127:=Tryz.sizeOf276
 v127:=Tryz.zeroValue276
 t164:=Tryz.underlying279
 a164:=Tryz.isAgg279
 z164:=Tryz.sizeOf279
 v164:=Tryz.zeroValue279}
theorem Tryz.Builder_Extra_156:Builder.Extra Tryz.prog Tryz.lays156_ren:={
 sizeBuilder:=by kernel_rfl
 liesBuilder:=by kernel_rfl
 t5:=Tryz.underlying5
 a5:=Tryz.isAgg5
 z5:=Tryz.sizeOf5
 v5:=Tryz.zeroValue5
 infoByte:=by kernel_rfl
 cellsByte:=by kernel_rfl
 sizeByte:=by kernel_rfl
 neB5:=by decide}
open Go.RowKit in
theorem Tryz.strings_Join_none (a:Option Addr) (c:Nat) (sep:ByteArray) (w:World) :
 Calls Tryz.prog 240 #[.slice a 0 c,.string sep] w fun e w'=>e=.returned (.string ⟨#[]⟩)∧w'=w:=Any.strings_Join_none Tryz.lays156 Tryz.Builder_Extra_156 a c sep w
open Go.RowKit in
theorem Tryz.strings_Join (bk o c:Nat) (xs:List ByteArray) (sep:ByteArray) (w:World) (hcells:∀(j:Nat) x,xs[j]?=some x→w.cell? ⟨bk,o+j,none⟩=some (.string x)) (hbk:bk<w.heap.size) (hN:xs.length≤140737488355328) (hcap:xs.length≤c) (hlen:(Lib.join (xs.map (·.data.toList)) sep.data.toList).length≤140737488355328) :
 Calls Tryz.prog 240 #[.slice (some ⟨bk,o,none⟩) xs.length c,.string sep] w fun e w'=>e=.returned (.string ⟨(Lib.join (xs.map (·.data.toList)) sep.data.toList).toArray⟩)∧Below w.heap.size w w':=Any.strings_Join Tryz.lays156 Tryz.Builder_Extra_156 bk o c xs sep w hcells hbk hN hcap hlen
def Tryz.lays229_ren:Go.Shelf.Ren:=⟨fun|229=>241|n=>n,fun|9=>9|40=>247|31=>245|152=>267|3=>3|0=>0|4=>4|21=>21|154=>269|n=>n,fun|n=>n⟩
theorem Tryz.lays229:Go.Proofs.Lays.n229 Tryz.prog Tryz.lays229_ren:={
 mixed:=by kernel_rfl
 f229:=Tryz.func241.trans (congrArg some (by kernel_rfl))
 t0:=Tryz.underlying0
 a0:=Tryz.isAgg0
 z0:=Tryz.sizeOf0
 v0:=Tryz.zeroValue0
 t3:=Tryz.underlying3
 a3:=Tryz.isAgg3
 z3:=Tryz.sizeOf3
 v3:=Tryz.zeroValue3
 t4:=Tryz.underlying4
 a4:=Tryz.isAgg4
 z4:=Tryz.sizeOf4
 v4:=Tryz.zeroValue4
 t9:=Tryz.underlying9
 a9:=Tryz.isAgg9
 z9:=Tryz.sizeOf9
 v9:=Tryz.zeroValue9
 t21:=Tryz.underlying21
 a21:=Tryz.isAgg21
 z21:=Tryz.sizeOf21
 v21:=Tryz.zeroValue21
 t31:=Tryz.underlying245
 a31:=Tryz.isAgg245
 z31:=Tryz.sizeOf245
 v31:=Tryz.zeroValue245
 t40:=Tryz.underlying247
 a40:=Tryz.isAgg247
 z40:=Tryz.sizeOf247
 v40:=Tryz.zeroValue247
 t152:=Tryz.underlying267
 a152:=Tryz.isAgg267
 z152:=Tryz.sizeOf267
 v152:=Tryz.zeroValue267
 t154:=Tryz.underlying269
 a154:=Tryz.isAgg269
 z154:=Tryz.sizeOf269
 v154:=Tryz.zeroValue269}
open Go.RowKit Go.Lib in
theorem Tryz.strings_FieldsFunc_runes (g:Nat) (lb:Array Value) (eg:∀args w,(callFunc g args).run Tryz.prog w=.ok (.enter g args) w) (p:Nat→Bool) (s:ByteArray) (w:World) (hs:s.size≤4294967296) (hp:PredAtRunes Tryz.prog g lb p w) :
 Calls Tryz.prog 241 #[.string s,.func (.func g) #[] lb] w fun e w'=>∃A,e=.returned (.slice (some ⟨A,0,none⟩) (Lib.goFieldsP p s).length (Lib.goFieldsP p s).length)∧w.heap.size≤A∧
  w'.ownsRow w.heap.size 9 1 (.slice (some ⟨A,0,none⟩) (Lib.goFieldsP p s).length (Lib.goFieldsP p s).length) (Lib.goFieldsP p s).length ((Lib.goFieldsP p s).map Value.string)∧Below w.heap.size w w':=Any.strings_FieldsFunc_runes Tryz.lays229 g lb eg p s w hs hp (by kernel_rfl) (by kernel_rfl)
open Go.RowKit Go.Lib in
theorem Tryz.strings_FieldsFunc (g:Nat) (lb:Array Value) (eg:∀args w,(callFunc g args).run Tryz.prog w=.ok (.enter g args) w) (p:Nat→Bool) (s:ByteArray) (w:World) (hs:s.size≤4294967296) (hp:PredAt Tryz.prog g lb encR p w) :
 Calls Tryz.prog 241 #[.string s,.func (.func g) #[] lb] w fun e w'=>∃A,e=.returned (.slice (some ⟨A,0,none⟩) (Lib.goFieldsP p s).length (Lib.goFieldsP p s).length)∧w.heap.size≤A∧
  w'.ownsRow w.heap.size 9 1 (.slice (some ⟨A,0,none⟩) (Lib.goFieldsP p s).length (Lib.goFieldsP p s).length) (Lib.goFieldsP p s).length ((Lib.goFieldsP p s).map Value.string)∧Below w.heap.size w w':=Any.strings_FieldsFunc Tryz.lays229 g lb eg p s w hs hp (by kernel_rfl) (by kernel_rfl)
def Tryz.laysSort_ren:Go.Shelf.Ren:=⟨fun|6=>59|15=>116|14=>115|28=>183|29=>184|20=>175|21=>176|22=>177|23=>178|24=>179|25=>180|26=>181|27=>182|46=>232|47=>233|48=>234|49=>235|50=>236|57=>254|n=>n,fun|22=>60|24=>63|25=>100|3=>3|39=>145|0=>0|53=>195|55=>197|4=>4|46=>188|45=>187|50=>192|5=>5|9=>9|66=>230|70=>234|76=>256|77=>37|n=>n,fun|n=>n⟩
theorem Tryz.laysSort:Go.Proofs.SlLaysF0.n6 Tryz.prog Tryz.laysSort_ren:={
 mixed:=by kernel_rfl
 f6:=⟨Tryz.f59.name,by decide,Tryz.func59.trans (congrArg some (by kernel_rfl))⟩
 f14:=⟨Tryz.f115.name,by decide,Tryz.func115.trans (congrArg some (by kernel_rfl))⟩
 f15:=Tryz.func116.trans (congrArg some (by kernel_rfl))
 f20:=⟨Tryz.f175.name,by decide,Tryz.func175.trans (congrArg some (by kernel_rfl))⟩
 f21:=⟨Tryz.f176.name,by decide,Tryz.func176.trans (congrArg some (by kernel_rfl))⟩
 f22:=⟨Tryz.f177.name,by decide,Tryz.func177.trans (congrArg some (by kernel_rfl))⟩
 f23:=⟨Tryz.f178.name,by decide,Tryz.func178.trans (congrArg some (by kernel_rfl))⟩
 f24:=⟨Tryz.f179.name,by decide,Tryz.func179.trans (congrArg some (by kernel_rfl))⟩
 f25:=⟨Tryz.f180.name,by decide,Tryz.func180.trans (congrArg some (by kernel_rfl))⟩
 f26:=⟨Tryz.f181.name,by decide,Tryz.func181.trans (congrArg some (by kernel_rfl))⟩
 f27:=⟨Tryz.f182.name,by decide,Tryz.func182.trans (congrArg some (by kernel_rfl))⟩
 f28:=Tryz.func183.trans (congrArg some (by kernel_rfl))
 f29:=Tryz.func184.trans (congrArg some (by kernel_rfl))
 f46:=⟨Tryz.f232.name,by decide,Tryz.func232.trans (congrArg some (by kernel_rfl))⟩
 f47:=Tryz.func233.trans (congrArg some (by kernel_rfl))
 f48:=Tryz.func234.trans (congrArg some (by kernel_rfl))
 f49:=⟨Tryz.f235.name,by decide,Tryz.func235.trans (congrArg some (by kernel_rfl))⟩
 f50:=⟨Tryz.f236.name,by decide,Tryz.func236.trans (congrArg some (by kernel_rfl))⟩
 f57:=⟨Tryz.f254.name,by decide,Tryz.func254.trans (congrArg some (by kernel_rfl))⟩
 t0:=Tryz.underlying0
 a0:=Tryz.isAgg0
 z0:=Tryz.sizeOf0
 v0:=Tryz.zeroValue0
 t3:=Tryz.underlying3
 a3:=Tryz.isAgg3
 z3:=Tryz.sizeOf3
 v3:=Tryz.zeroValue3
 t4:=Tryz.underlying4
 a4:=Tryz.isAgg4
 z4:=Tryz.sizeOf4
 v4:=Tryz.zeroValue4
 t5:=Tryz.underlying5
 a5:=Tryz.isAgg5
 z5:=Tryz.sizeOf5
 v5:=Tryz.zeroValue5
 t9:=Tryz.underlying9
 a9:=Tryz.isAgg9
 z9:=Tryz.sizeOf9
 v9:=Tryz.zeroValue9
 t22:=Tryz.underlying60
 a22:=Tryz.isAgg60
 z22:=Tryz.sizeOf60
 v22:=Tryz.zeroValue60
 t25:=Tryz.underlying100
 a25:=Tryz.isAgg100
 z25:=Tryz.sizeOf100
 v25:=Tryz.zeroValue100
 t39:=Tryz.underlying145
 a39:=Tryz.isAgg145
 z39:=Tryz.sizeOf145
 v39:=Tryz.zeroValue145
 t45:=Tryz.underlying187
 a45:=Tryz.isAgg187
 z45:=Tryz.sizeOf187
 v45:=Tryz.zeroValue187
 t46:=Tryz.underlying188
 a46:=Tryz.isAgg188
 z46:=Tryz.sizeOf188
 v46:=Tryz.zeroValue188
 t50:=Tryz.underlying192
 a50:=Tryz.isAgg192
 z50:=Tryz.sizeOf192
 v50:=Tryz.zeroValue192
 t53:=Tryz.underlying195
 a53:=Tryz.isAgg195
 z53:=Tryz.sizeOf195
 v53:=Tryz.zeroValue195
 t55:=Tryz.underlying197
 a55:=Tryz.isAgg197
 z55:=Tryz.sizeOf197
 v55:=Tryz.zeroValue197
 t66:=Tryz.underlying230
 a66:=Tryz.isAgg230
 z66:=Tryz.sizeOf230
 v66:=Tryz.zeroValue230
 t70:=Tryz.underlying234
 a70:=Tryz.isAgg234
 z70:=Tryz.sizeOf234
 v70:=Tryz.zeroValue234
 t76:=Tryz.underlying256
 a76:=Tryz.isAgg256
 z76:=Tryz.sizeOf256
 v76:=Tryz.zeroValue256
 t77:=Tryz.underlying37
 a77:=Tryz.isAgg37
 z77:=Tryz.sizeOf37
 v77:=Tryz.zeroValue37}
def Tryz.laysCmp_ren:Go.Shelf.Ren:=⟨fun|5=>62|7=>117|n=>n,fun|22=>3|3=>3|4=>4|n=>n,fun|n=>n⟩
theorem Tryz.laysCmp:Go.Proofs.SlLaysC2.n5 Tryz.prog Tryz.laysCmp_ren:={
 mixed:=by kernel_rfl
 f5:=⟨Tryz.f62.name,by decide,Tryz.func62.trans (congrArg some (by kernel_rfl))⟩
 f7:=⟨Tryz.f117.name,by decide,Tryz.func117.trans (congrArg some (by kernel_rfl))⟩
 t3:=Tryz.underlying3
 a3:=Tryz.isAgg3
 z3:=Tryz.sizeOf3
 v3:=Tryz.zeroValue3
 t4:=Tryz.underlying4
 a4:=Tryz.isAgg4
 z4:=Tryz.sizeOf4
 v4:=Tryz.zeroValue4
 t22:=Tryz.underlying3
 a22:=Tryz.isAgg3
 z22:=Tryz.sizeOf3
 v22:=Tryz.zeroValue3}
def Tryz.laysLen_ren:Go.Shelf.Ren:=⟨fun|125=>116|128=>183|129=>184|n=>n,fun|46=>145|3=>3|51=>195|53=>197|4=>4|5=>5|9=>9|n=>n,fun|n=>n⟩
theorem Tryz.laysLen:Go.Proofs.Lays.n125 Tryz.prog Tryz.laysLen_ren:={
 mixed:=by kernel_rfl
 f125:=Tryz.func116.trans (congrArg some (by kernel_rfl))
 f128:=Tryz.func183.trans (congrArg some (by kernel_rfl))
 f129:=Tryz.func184.trans (congrArg some (by kernel_rfl))
 t3:=Tryz.underlying3
 a3:=Tryz.isAgg3
 z3:=Tryz.sizeOf3
 v3:=Tryz.zeroValue3
 t4:=Tryz.underlying4
 a4:=Tryz.isAgg4
 z4:=Tryz.sizeOf4
 v4:=Tryz.zeroValue4
 t5:=Tryz.underlying5
 a5:=Tryz.isAgg5
 z5:=Tryz.sizeOf5
 v5:=Tryz.zeroValue5
 t9:=Tryz.underlying9
 a9:=Tryz.isAgg9
 z9:=Tryz.sizeOf9
 v9:=Tryz.zeroValue9
 t46:=Tryz.underlying145
 a46:=Tryz.isAgg145
 z46:=Tryz.sizeOf145
 v46:=Tryz.zeroValue145
 t51:=Tryz.underlying195
 a51:=Tryz.isAgg195
 z51:=Tryz.sizeOf195
 v51:=Tryz.zeroValue195
 t53:=Tryz.underlying197
 a53:=Tryz.isAgg197
 z53:=Tryz.sizeOf197
 v53:=Tryz.zeroValue197}
end Go.Proofs
namespace Go.Proofs.YtpaidiaknfhclaaGreatDoor
open Go Ev
open Go.Lib Go.RowKit
theorem z2w {X:Ending} (b:Bool) {b':Bool} (h:X=.returned (.bool b)) (e:b=b'):X=.returned (.bool b'):=e▸h
set_option maxHeartbeats 4000000 in
set_option maxRecDepth 1000000 in
theorem zw5 (s:ByteArray) (w:World) (hs:s.size≤1073741824) (hT:Lib.Utf8Tabs 0 1 w) :
 Calls Tryz.prog 126 #[.string s] w fun e w'=>e=.returned (.bool (vld s.data.toList))∧Below w.heap.size w w':=by
 have cV:Calls Tryz.prog 193 #[.string s] w _:=Any.utf8_ValidString Tryz.laysValid s w (by omega) hT
 have hvl:vld s.data.toList=(Lib.validD s.data.toList&&okN s.size s.data.toList):=by rw[Lib.size_eq];exact zapj _ _
 rw[hvl]
 clear hvl
 generalize Lib.validD s.data.toList=V at cV ⊢
 cases V with
 |false=>
  rw[Bool.false_and]
  go_enter Tryz.func126,Tryz.ntmps126
  go_wp2_with (go_at_call 193;refine cV.mono ?_;rintro e w' ⟨rfl,hb⟩)
  go_ret
  exact ⟨rfl,hb⟩
 |true=>
  rw[Bool.true_and]
  go_enter Tryz.func126,Tryz.ntmps126
  go_wp2_with (go_at_call 193;refine cV.mono ?_;rintro e w' ⟨rfl,hb⟩)
  go_loopg [4] (s.size+1) (fun gk s4 wx=>∃pos:Nat,wx.heap[w'.heap.size]?=some (.stringIter s pos)∧Below w.heap.size w wx∧
   okN gk (s.data.toList.drop pos)=okN s.size s.data.toList∧s.size≤pos+gk∧pos≤s.size)
  case atStart=>
   refine ⟨0,World.iter_heap w' s 0,hb.alloc hb.size _,?_,by omega,by omega⟩
   rw[List.drop_zero]
   exact zaaa _ _ _ (by rw[←Lib.size_eq];omega) (by rw[←Lib.size_eq];omega)
  case round=>
   obtain ⟨pos,hit,hbw,hok,hfu,hps⟩:=hrel
   have hdec:Lib.decodeL (s.data.toList.drop pos)=Utf8.decode s pos:=Lib.decodeL_drop s pos
   by_cases hlt:pos<s.size
   ·obtain ⟨g',rfl⟩:∃g',gk=g'+1:=⟨gk-1,by omega⟩
    have hnx:∀ty,(Instr.next (.pointer (some ⟨w'.heap.size,0,none⟩)) true ty).run Tryz.prog wr=_:=fun ty=>Lib.run_next_any_at wr w'.heap.size s pos ty hit hlt
    have hne:s.data.toList.drop pos≠[]:=by rw[Ne,List.drop_eq_nil_iff,←Lib.size_eq];omega
    have hwd:=zd6 hne
    rw[hdec,List.length_drop,←Lib.size_eq]at hwd
    simp only[okN,hne,if_false,hdec,List.drop_drop]at hok
    obtain ⟨R,hR⟩:∃R,(Utf8.decode s pos).1=R:=⟨_,rfl⟩
    obtain ⟨K,hK⟩:∃K,(Utf8.decode s pos).2=K:=⟨_,rfl⟩
    rw[hR,hK]at hnx hok
    rw[hK]at hwd
    have hit2:=Lib.iterAt_heap wr w'.heap.size s pos (pos+K) hit
    have hbw2:=Lib.below_iterAt hbw (k:=w'.heap.size) hb.size s (pos+K)
    by_cases h1:R<32
    ·have hz:(R:Int)<32:=by omega
     have hb1:badC R=true:=zew.2 (.inl h1)
     rw[if_pos hb1]at hok
     go_wp2
     go_ret
     first|exact ⟨rfl,hbw2⟩|exact ⟨z2w false rfl hok,hbw2⟩
    ·have hz:¬(R:Int)<32:=by omega
     by_cases h2:127≤R
     ·have hz2:(127:Int)≤(R:Int):=by omega
      by_cases h3:R≤159
      ·have hz3:(R:Int)≤159:=by omega
       have hb1:badC R=true:=zew.2 (.inr (.inl ⟨h2,h3⟩))
       rw[if_pos hb1]at hok
       go_wp2
       go_ret
       first|exact ⟨rfl,hbw2⟩|exact ⟨z2w false rfl hok,hbw2⟩
      ·have hz3:¬(R:Int)≤159:=by omega
       by_cases h4:65535<R
       ·have hz4:(65535:Int)<(R:Int):=by omega
        have hb1:badC R=true:=zew.2 (.inr (.inr h4))
        rw[if_pos hb1]at hok
        go_wp2
        go_ret
        first|exact ⟨rfl,hbw2⟩|exact ⟨z2w false rfl hok,hbw2⟩
       ·have hz4:¬(65535:Int)<(R:Int):=by omega
        have hb1:¬badC R=true:=fun h=>by rw[zew]at h;omega
        rw[if_neg hb1]at hok
        go_wp2
        go_roundg g'
        case measure=>omega
        case rel=>exact ⟨pos+K,hit2,hbw2,hok,by omega,by omega⟩
     ·have hz2:¬(127:Int)≤(R:Int):=by omega
      have hz4:¬(65535:Int)<(R:Int):=by omega
      have hb1:¬badC R=true:=fun h=>by rw[zew]at h;omega
      rw[if_neg hb1]at hok
      go_wp2
      go_roundg g'
      case measure=>omega
      case rel=>exact ⟨pos+K,hit2,hbw2,hok,by omega,by omega⟩
   ·have:pos=s.size:=by omega
    subst this
    have hnx:∀ty,(Instr.next (.pointer (some ⟨w'.heap.size,0,none⟩)) true ty).run Tryz.prog wr=_:=fun ty=>Lib.run_next_end_at wr w'.heap.size s s.size ty hit hlt
    have hnil:s.data.toList.drop s.size=[]:=by rw[Lib.size_eq];simp
    have hok2:okN s.size s.data.toList=true:=by rw[←hok,hnil];cases gk<;>simp[okN]
    go_wp2
    go_ret
    first|exact ⟨rfl,hbw⟩|exact ⟨z2w true rfl hok2.symm,hbw⟩
set_option maxRecDepth 1000000 in
theorem zus (R:Nat) (hR:R≤1114111) (w:World):Calls Tryz.prog 242 #[.int .i32 (R:Int)] w fun e w'=>e=.returned (.bool (blk R))∧∃q,w'=w.drewN q:=by
 by_cases h1:R=32
 ·subst h1
  go_enter Tryz.func242,Tryz.ntmps242
  go_wp2
  go_ret
  exact ⟨rfl,0,rfl⟩
 ·have z1:¬(R:Int)=32:=by omega
  by_cases h2:R=160
  ·subst h2
   go_enter Tryz.func242,Tryz.ntmps242
   go_wp2
   go_ret
   exact ⟨rfl,0,rfl⟩
  ·have z2:¬(R:Int)=160:=by omega
   have hb:blk R=false:=by unfold blk;simp[h1,h2]
   go_enter Tryz.func242,Tryz.ntmps242
   go_wp2
   go_ret
   exact ⟨z2w ((R:Int)==32||(R:Int)==160) rfl (by rw[hb,Bool.or_eq_false_iff];exact ⟨by simp;omega,by simp;omega⟩),0,rfl⟩
set_option maxHeartbeats 4000000 in
set_option maxRecDepth 1000000 in
theorem zu8 (s:ByteArray) (w:World) (hs:s.size≤1073741824) (hv:vld s.data.toList=true) :
 Calls Tryz.prog 198 #[.string s] w fun e w'=>e=.returned (.string ⟨(cln s.data.toList).toArray⟩)∧Below w.heap.size w w':=by
 have eg:∀args w,(callFunc 242 args).run Tryz.prog w=.ok (.enter 242 args) w:=enters_of Tryz.func242 (by kernel_rfl) rfl
 have hp:PredAtRunes Tryz.prog 242 #[] blk w:=fun W x hx hb=>by
  exact zus x hx W
 have cF:=Tryz.strings_FieldsFunc_runes 242 #[] eg blk s w (by omega) hp
 have hj:=zu9 (s:=s) (p:=blk) (fun _=>rfl) hv
 have hlen:(cln s.data.toList).length≤2*s.size:=zagv s
 obtain ⟨Fs,hFs⟩:∃Fs,Lib.goFieldsP blk s=Fs:=⟨_,rfl⟩
 have hfl:=zvm blk s
 rw[hFs]at hj cF hfl
 have cJ:∀A W,Below w.heap.size w W→W.ownsRow w.heap.size 9 1 (.slice (some ⟨A,0,none⟩) Fs.length Fs.length) Fs.length (Fs.map Value.string)→
  Calls Tryz.prog 240 #[.slice (some ⟨A,0,none⟩) Fs.length Fs.length,.string ⟨#[32]⟩] W fun e w'=>e=.returned (.string ⟨(cln s.data.toList).toArray⟩)∧Below w.heap.size w w':=by
  intro A W hb hrow
  by_cases h0:Fs=[]
  ·subst h0
   have:=Tryz.strings_Join_none (some ⟨A,0,none⟩) 0 ⟨#[32]⟩ W
   refine this.mono ?_
   rintro e w' ⟨rfl,rfl⟩
   rw[←hj]
   exact ⟨rfl,hb⟩
  ·obtain ⟨-,h|⟨g,cap,cur,hv2,hbg,hh,hn,hmx,hcs,hct⟩⟩:=hrow
   ·exact absurd (List.length_eq_zero_iff.1 h.2) h0
   ·injection hv2 with e1 e2 e3
    injection e1 with e1
    injection e1 with e1
    subst e1
    have hj2:(Lib.join (Fs.map (·.data.toList)) (⟨#[32]⟩:ByteArray).data.toList)=cln s.data.toList:=hj
    have:=Tryz.strings_Join A 0 Fs.length Fs ⟨#[32]⟩ W (fun j x hx=>by
     rw[Nat.mul_one]at hct
     have hj3:j<Fs.length:=(List.getElem?_eq_some_iff.1 hx).1
     have e4:cur.toList[j]?=some (Value.string x):=by
      rw[←List.getElem?_take_of_lt hj3,hct,List.getElem?_map,hx];rfl
     rw[Array.getElem?_toList]at e4
     rw[Nat.zero_add]
     simp only[World.cell?,hh]
     exact e4) (Array.getElem?_eq_some_iff.1 hh).1 (by omega) (Nat.le_refl _) (by rw[hj2];omega)
    refine this.mono ?_
    rintro e w' ⟨rfl,hb2⟩
    rw[hj2]
    exact ⟨rfl,hb.trans (hb2.mono hb.size)⟩
 clear hj hlen hFs hfl
 go_enter Tryz.func198,Tryz.ntmps198
 go_wp2_with (first|(go_at_call 241;refine cF.mono ?_;rintro e w' ⟨A,rfl,hA,hrow,hb⟩)|(go_at_call 240;refine (cJ A _ hb hrow).mono ?_;rintro e w'' ⟨rfl,hb2⟩))
 go_ret
 exact ⟨rfl,hb2⟩
end Go.Proofs.YtpaidiaknfhclaaGreatDoor
namespace Go.Proofs.YtpaidiaknfhclaaGreatDoor
open Go Ev
theorem zft:∃i0 z,Tryz.prog.info? 53=some i0∧i0.zero=some z∧z.cells.size=10∧i0.size=10∧i0.bytes≤128:=by
 have h:(match Tryz.prog.info? 53 with|some i=>(match i.zero with|some z=>Nat.beq z.cells.size 10&&Nat.beq i.size 10&&Nat.ble i.bytes 128|none=>false)|none=>false)=true:=by kernel_rfl
 split at h
 ·rename_i i hi
  split at h
  ·rename_i z hz
   simp only[Bool.and_eq_true]at h
   exact ⟨i,z,hi,hz,Nat.eq_of_beq_eq_true h.1.1,Nat.eq_of_beq_eq_true h.1.2,Nat.le_of_ble_eq_true h.2⟩
  ·cases h
 ·cases h
set_option maxHeartbeats 4000000 in
set_option maxRecDepth 100000 in
theorem zjj {w:World} {b n c i vb vo vc:Nat} {L vs:List Value} {t:TypeId} (hi:i<n) (hroom:n+1≤c) (hlim:n+1≤1073741824) (hvb:vb≠b)
 (hb:w.heap[b]?=some (.cells L.toArray t (0,0))) (hL:L.length=c*10) (hvl:vs.length=10)
 (hvs:∀j v,vs[j]?=some v→w.cell? ⟨vb,vo+j,none⟩=some v) (h1:∀v∈(L.drop (i*10)).take ((n-i)*10),v.oneCell'=true) (h2:∀v∈vs,v.oneCell'=true) :
 Calls Tryz.prog 102 #[.slice (some ⟨b,0,none⟩) n c,.int .i64 i,.slice (some ⟨vb,vo,none⟩) 1 vc] w fun e w'=>
  e=.returned (.slice (some ⟨b,0,none⟩) (n+1) c)∧w'=(w.drew.setRow b (Go.splice L ((i+1)*10) ((L.drop (i*10)).take ((n-i)*10))).toArray).setRow b (Go.splice (Go.splice L ((i+1)*10) ((L.drop (i*10)).take ((n-i)*10))) (i*10) vs).toArray:=by
 obtain ⟨i0,z0,hi0,hz0,hzs,hsz,hby⟩:=zft
 have hz2:¬((i:Int)=(n:Int)):=by omega
 have hva:∃va ta fa,w.heap[vb]?=some (.cells va ta fa)∧0<va.size:=by
  have h:=hvs 0 _ (List.getElem?_eq_getElem (by omega))
  unfold World.cell? at h
  split at h
  ·rename_i c0 t0 f0 hc0
   exact ⟨c0,t0,f0,hc0,by have:=(Array.getElem?_eq_some_iff.1 h).1;omega⟩
  ·cases h
 obtain ⟨va,ta,fa,hva,hva0⟩:=hva
 have hov:∀lb cb,(callFunc 154 #[.slice (some ⟨vb,vo,none⟩) 1 vc,.slice (some ⟨b,(i+1)*10,none⟩) lb cb]).run Tryz.prog w=.ok (.value (.bool false)) w:=fun lb cb=>by
  rw[run_callFunc_extern Tryz.func154 (by kernel_rfl) (by kernel_rfl) (by kernel_rfl) (e:=Extern.SlicesOverlaps.overlaps #[22,22] #[4]) (by kernel_rfl),
   zcz Tryz.underlying22 hi0 (a:=⟨vb,vo,none⟩) (b:=⟨b,(i+1)*10,none⟩) hvb hva hva0 hb (by simp only[List.size_toArray];omega)]
  rfl
 have hLn:(n+1)*10≤L.length:=by rw[hL];exact Nat.mul_le_mul_right _ hroom
 obtain ⟨C1,hC1⟩:∃C1,C1=(L.drop (i*10)).take ((n-i)*10):=⟨_,rfl⟩
 have hC1l:C1.length=(n-i)*10:=by rw[hC1];simp;omega
 obtain ⟨M1,hM1⟩:∃M1,M1=Go.splice L ((i+1)*10) C1:=⟨_,rfl⟩
 have hM1l:M1.length=L.length:=by rw[hM1];exact length_splice _ _ _ (by omega)
 rw[←hC1,←hM1]
 have hcp1:∀ty dc sc,(Builtin.copy_ #[22,22] ty #[.slice (some ⟨b,(i+1)*10,none⟩) (n-i) dc,.slice (some ⟨b,i*10,none⟩) (n+1-i) sc]).run Tryz.prog w.drew=.ok (goInt ((n-i:Nat):Int)) (w.drew.setRow b M1.toArray):=fun ty dc sc=>by
  have hmin:Nat.min (n+1-i) (n-i)=n-i:=by show min _ _=_;omega
  have:=zbc (P:=Tryz.prog) (w:=w.drew) (sT:=22) (ty:=ty) (dCap:=dc) (sCap:=sc) (dLen:=n-i) (sLen:=n+1-i) (o:=(i+1)*10) (a:=⟨b,i*10,none⟩) Tryz.underlying22 hi0 hsz hb (cs:=C1) (by rw[hmin];exact hC1l)
   (fun j v hj=>by
    rw[Addr.add_lit]
    show w.cell? _=_
    simp only[World.cell?,hb]
    rw[hC1,List.getElem?_take]at hj
    split at hj
    ·simpa using hj
    ·cases hj) (by omega) (by rw[hC1];exact h1)
  rw[hmin,←hM1]at this
  exact this
 have hcp2:∀(W:World),W=(w.drew.setRow b M1.toArray)→∀ty dc,(Builtin.copy_ #[22,22] ty #[.slice (some ⟨b,i*10,none⟩) (n+1-i) dc,.slice (some ⟨vb,vo,none⟩) 1 vc]).run Tryz.prog W=.ok (goInt 1) (W.setRow b (Go.splice M1 (i*10) vs).toArray):=fun W hW ty dc=>by
  have hmin:Nat.min 1 (n+1-i)=1:=by show min _ _=_;omega
  have:=zbc (P:=Tryz.prog) (w:=W) (sT:=22) (ty:=ty) (dCap:=dc) (sCap:=vc) (dLen:=n+1-i) (sLen:=1) (o:=i*10) (a:=⟨vb,vo,none⟩) Tryz.underlying22 hi0 hsz (g:=b) (t:=t) (L:=M1) (by rw[hW];exact setRow_heap _ _ _ _ _ _ hb) (cs:=vs) (by rw[hmin];omega)
   (fun j v hj=>by
    rw[Addr.add_lit,hW,cell_setRow_other _ _ _ _ hvb]
    exact hvs j v hj) (by omega) h2
  rw[hmin]at this
  exact this
 have hw1:IntKind.i64.wrap ((i:Int)+1)=(i:Int)+1:=by rw[IntKind.wrap_i64];omega
 have hb1:(0:Int)≤(i:Int)+1:=by omega
 have hin:i≤n:=by omega
 have htn:((i:Int)+1).toNat=i+1:=by omega
 have hb2:¬(c=i+1):=by omega
 have hb3:(i:Int)≤(n:Int)+1:=by omega
 have hb4:¬(c=i):=by omega
 have mixed:Tryz.prog.follows .mixedOrders=true:=by kernel_rfl
 clear hC1 hM1 hC1l hM1l h1 h2 hvs hL
 go_enter Tryz.func102,Tryz.ntmps102
 go_wp2_with (simp only[hov])
 go_region_law_o (refine zco rfl _ _ 22 22 rfl _ _ (by simp[Act.eval,Act.put]) (by simp[Act.eval,Act.put]) (hcp1 _ _ _) ?_)
 go_wp2_with (at_builtin;refine zjd rfl _ _ 22 22 rfl _ _ rfl rfl (hcp2 _ rfl _ _) ?_)
 go_ret
 exact ⟨rfl,rfl⟩
theorem zjq {i0:TypeInfo} {k c:Nat} (h:c<k) (hk:k≤1073741824) (hby:i0.bytes≤128):Builtin.nextslicecap k c*i0.bytes≤281474976710656:=
 growslice_fits h (Nat.le_trans (Nat.mul_le_mul hk hby) (by decide))
set_option maxHeartbeats 4000000 in
set_option maxRecDepth 100000 in
theorem zlv {w:World} {b n c vb vo vc:Nat} {L vs:List Value} {t:TypeId} (hroom:n+1≤c) (hlim:n+1≤1073741824)
 (hb:w.heap[b]?=some (.cells L.toArray t (0,0))) (hL:L.length=c*10) (hvl:vs.length=10)
 (hvs:∀j v,vs[j]?=some v→w.cell? ⟨vb,vo+j,none⟩=some v) (h2:∀v∈vs,v.oneCell'=true) :
 Calls Tryz.prog 102 #[.slice (some ⟨b,0,none⟩) n c,.int .i64 n,.slice (some ⟨vb,vo,none⟩) 1 vc] w fun e w'=>
  e=.returned (.slice (some ⟨b,0,none⟩) (n+1) c)∧w'=w.setRow b (Go.splice L (n*10) vs).toArray:=by
 obtain ⟨i0,z0,hi0,hz0,hzs,hsz,hby⟩:=zft
 have hLn:(n+1)*10≤L.length:=by rw[hL];exact Nat.mul_le_mul_right _ hroom
 have hf:=run_firstCells_some (P:=Tryz.prog) w i0.size 1 ⟨vb,vo,none⟩ 1 vc vs (by omega) (fun j v hj=>by rw[Addr.add_lit];exact hvs j v hj)
 have hap:∀ty,(Builtin.append_ #[22,22] ty #[.slice (some ⟨b,0,none⟩) n c,.slice (some ⟨vb,vo,none⟩) 1 vc]).run Tryz.prog w=.ok (.slice (some ⟨b,0,none⟩) (n+1) c) (w.setRow b (Go.splice L (n*10) vs).toArray):=fun ty=>by
  have:=zbs (P:=Tryz.prog) (w:=w) (ty:=ty) (ts:=#[22,22]) rfl rfl Tryz.underlying22 Tryz.underlying22 hi0 hf hroom hb (by simp only[List.size_toArray];rw[hsz];omega) h2
  rw[hsz]at this
  simpa[Go.splice]using this
 go_enter Tryz.func102,Tryz.ntmps102
 go_wp2_with (at_builtin;refine zbd rfl _ _ _ _ rfl _ _ rfl rfl (hap _) ?_)
 all_goals (go_ret;exact ⟨rfl,rfl⟩)
set_option maxHeartbeats 4000000 in
set_option maxRecDepth 100000 in
theorem zno {w:World} {base:Option Addr} {n c vb vo vc:Nat} {olds vs:List Value} (hnc:n≤c) (hroom:c<n+1) (hlim:n+1≤1073741824) (hvl:vs.length=10)
 (hnil:base=none→n=0) (hol:olds.length=n*10) (hos:∀a,base=some a→∀j v,olds[j]?=some v→w.cell? (a.add j)=some v)
 (hvs:∀j v,vs[j]?=some v→w.cell? ⟨vb,vo+j,none⟩=some v) :
 Calls Tryz.prog 102 #[.slice base n c,.int .i64 n,.slice (some ⟨vb,vo,none⟩) 1 vc] w fun e w'=>
  ∃cap zs,e=.returned (.slice (some ⟨w.heap.size,0,none⟩) (n+1) cap)∧w'=w.drew.alloc (.cells (olds++(vs++zs)).toArray 53)∧n+1≤cap∧zs.length=(cap-(n+1))*10:=by
 obtain ⟨i0,z0,hi0,hz0,hzs,hsz,hby⟩:=zft
 have hf:=run_firstCells_some (P:=Tryz.prog) w.drew i0.size 1 ⟨vb,vo,none⟩ 1 vc vs (by omega) (fun j v hj=>by rw[Addr.add_lit];exact hvs j v hj)
 have hold:(Builtin.firstCells i0.size n (.slice base n c)).run Tryz.prog w.drew=.ok olds.toArray w.drew:=by
  cases base with
  |none=>
   have h0:=hnil rfl
   subst h0
   rw[List.length_eq_zero_iff.1 (by omega:olds.length=0)]
   exact run_firstCells_none w.drew _ 0 0 c
  |some a=>exact run_firstCells_some w.drew _ n a n c olds (by rw[hsz];omega) (fun j v hj=>hos a rfl j v hj)
 have hap:∀ty,(Builtin.append_ #[22,22] ty #[.slice base n c,.slice (some ⟨vb,vo,none⟩) 1 vc]).run Tryz.prog w=_:=fun ty=>
  zb2 (P:=Tryz.prog) (w:=w) (ty:=ty) (ts:=#[22,22]) rfl rfl Tryz.underlying22 Tryz.underlying22 hi0 hz0 hf hold hroom (by omega) (zjq hroom hlim hby)
 have hge:=zbx w (n+1) c 53
 obtain ⟨G,hG⟩:∃G,G=grownCap w (n+1) c 53:=⟨_,rfl⟩
 obtain ⟨zs,hzs'⟩:∃zs,zs=(Builtin.zeroCells z0.cells (G-(n+1))).toList:=⟨_,rfl⟩
 rw[←hG]at hap hge
 rw[←hzs']at hap
 have hzl:zs.length=(G-(n+1))*10:=by rw[hzs',Array.length_toList,size_zeroCells,hzs]
 clear hG hzs'
 go_enter Tryz.func102,Tryz.ntmps102
 cases base with
 |none=>
  have h0:=hnil rfl
  subst h0
  go_wp2_with (at_builtin;refine zbd rfl _ _ _ _ rfl _ _ rfl rfl (hap _) ?_)
  all_goals (go_ret;first|exact ⟨_,_,rfl,rfl,hge,hzl⟩|exact ⟨_,rfl,_,rfl,hge,hzl⟩)
 |some a=>
  obtain ⟨ab,ao,asp⟩:=a
  go_wp2_with (at_builtin;refine zbd rfl _ _ _ _ rfl _ _ rfl rfl (hap _) ?_)
  all_goals (go_ret;first|exact ⟨_,_,rfl,rfl,hge,hzl⟩|exact ⟨_,rfl,_,rfl,hge,hzl⟩)
set_option maxHeartbeats 4000000 in
set_option maxRecDepth 100000 in
theorem zlu {w:World} {b n c i vb vo vc:Nat} {L vs:List Value} {t:TypeId} (hi:i<n) (hnc:n≤c) (hroom:c<n+1) (hlim:n+1≤1073741824) (hvb:vb≠b)
 (hb:w.heap[b]?=some (.cells L.toArray t (0,0))) (hL:L.length=c*10) (hvl:vs.length=10)
 (hvs:∀j v,vs[j]?=some v→w.cell? ⟨vb,vo+j,none⟩=some v) (h1:∀v∈(L.drop (i*10)).take ((n-i)*10),v.oneCell'=true) (h2:∀v∈vs,v.oneCell'=true) :
 Calls Tryz.prog 102 #[.slice (some ⟨b,0,none⟩) n c,.int .i64 i,.slice (some ⟨vb,vo,none⟩) 1 vc] w fun e w'=>
  ∃cap row,e=.returned (.slice (some ⟨w.heap.size,0,none⟩) (n+1) cap)∧n+1≤cap∧row.length=cap*10∧row.take (i*10)=L.take (i*10)∧
   w'.heap=(w.heap.push (.cells (Go.splice (Go.splice row (i*10) vs) ((i+1)*10) ((L.drop (i*10)).take ((n-i)*10))).toArray 53))∧w'.os=w.os∧w'.output=w.output∧w'.tape=w.tape:=by
 obtain ⟨i0,z0,hi0,hz0,hzs,hsz,hby⟩:=zft
 have hz2:¬((i:Int)=(n:Int)):=by omega
 have hz3:(c:Int)<(n:Int)+1:=by omega
 have hLn:n*10≤L.length:=by rw[hL];exact Nat.mul_le_mul_right _ hnc
 have hbw:b<w.heap.size:=(Array.getElem?_eq_some_iff.1 hb).1
 have hvw:vb<w.heap.size:=by
  have h:=hvs 0 _ (List.getElem?_eq_getElem (by omega))
  unfold World.cell? at h
  split at h
  ·rename_i c0 t0 f0 hc0
   exact (Array.getElem?_eq_some_iff.1 hc0).1
  ·cases h
 have hkk:(n:Int)+1-(i:Int)=((n+1-i:Nat):Int):=by omega
 have hik:i+(n+1-i)=n+1:=by omega
 have hTl:(L.take (i*10)).length=i*10:=by simp;omega
 have hold:(Builtin.firstCells i0.size i (.slice (some ⟨b,0,none⟩) i c)).run Tryz.prog w.drew=.ok (L.take (i*10)).toArray w.drew:=by
  refine run_firstCells_some w.drew _ i ⟨b,0,none⟩ i c (L.take (i*10)) (by rw[hsz];exact hTl) (fun j v hj=>?_)
  rw[Addr.add_lit,Nat.zero_add]
  show w.cell? _=_
  simp only[World.cell?,hb]
  rw[List.getElem?_take]at hj
  split at hj
  ·simpa using hj
  ·cases hj
 have hrz:∀ty,(Builtin.append_ #[22,3] ty #[.slice (some ⟨b,0,none⟩) i c,.int .i64 ((n:Int)+1-(i:Int))]).run Tryz.prog w =
  .ok (.slice (some ⟨w.heap.size,0,none⟩) (n+1) (grownCap w (n+1) c 53)) (w.drew.alloc (.cells ((L.take (i*10)).toArray++Builtin.zeroCells z0.cells (n+1-i)++Builtin.zeroCells z0.cells (grownCap w (n+1) c 53-(n+1))) 53)):=fun ty=>by
  have h:=Lib.run_append_grow_zeros w 22 3 ty 53 i0 _ .i64 .i64 Tryz.underlying22 Tryz.underlying3 hi0 hz0 (some ⟨b,0,none⟩) i c _ hold (n+1-i) (by omega) (by omega) (by omega) (by omega)
   (Nat.le_trans (Nat.mul_le_mul (show n+1-i≤1073741824 by omega) hby) (by decide)) (by rw[hik];exact zjq hroom hlim hby)
  rw[hik]at h
  rw[hkk]
  exact h
 have hge:=zbx w (n+1) c 53
 obtain ⟨G,hG⟩:∃G,G=grownCap w (n+1) c 53:=⟨_,rfl⟩
 rw[←hG]at hrz hge
 have hG63:G≤9223372036854775807:=by
  have:=grownCap_le_maxLen w (n+1) c 53 (by unfold maxLen;omega)
  rw[←hG]at this
  unfold maxLen at this
  omega
 obtain ⟨R,hR⟩:∃R:List Value,R=L.take (i*10)++((Builtin.zeroCells z0.cells (n+1-i)).toList++(Builtin.zeroCells z0.cells (G-(n+1))).toList):=⟨_,rfl⟩
 have hRl:R.length=G*10:=by
  rw[hR]
  simp only[List.length_append,Array.length_toList,size_zeroCells,hzs,hTl]
  rw[←Nat.add_mul,←Nat.add_mul]
  congr 1
  omega
 have hRt:R.take (i*10)=L.take (i*10):=by rw[hR,List.take_append_of_le_length (by omega),List.take_of_length_le (by omega)]
 have hRe:(L.take (i*10)).toArray++Builtin.zeroCells z0.cells (n+1-i)++Builtin.zeroCells z0.cells (G-(n+1))=R.toArray:=by
  rw[hR];apply Array.ext';simp
 rw[hRe]at hrz
 obtain ⟨C1,hC1⟩:∃C1,C1=(L.drop (i*10)).take ((n-i)*10):=⟨_,rfl⟩
 have hC1l:C1.length=(n-i)*10:=by rw[hC1];simp;omega
 have hGn:(n+1)*10≤R.length:=by rw[hRl];exact Nat.mul_le_mul_right _ hge
 obtain ⟨M1,hM1⟩:∃M1,M1=Go.splice R (i*10) vs:=⟨_,rfl⟩
 have hM1l:M1.length=R.length:=by rw[hM1];exact length_splice _ _ _ (by omega)
 rw[←hC1]
 obtain ⟨gb,hgb⟩:∃gb,gb=w.heap.size:=⟨_,rfl⟩
 have hnew:∀W:World,W.heap=w.heap.push (.cells R.toArray 53)→W.heap[gb]?=some (.cells R.toArray 53 (0,0)):=fun W hW=>by rw[hW,hgb];simp
 have hpast:∀W:World,W.heap=w.heap.push (.cells R.toArray 53)→∀k,k<w.heap.size→W.heap[k]?=w.heap[k]?:=fun W hW k hk=>by rw[hW,Array.getElem?_push_lt hk];simp[hk]
 have hcpA:∀(W:World),W.heap=w.heap.push (.cells R.toArray 53)→∀ty dc,(Builtin.copy_ #[22,22] ty #[.slice (some ⟨gb,i*10,none⟩) (n+1-i) dc,.slice (some ⟨vb,vo,none⟩) 1 vc]).run Tryz.prog W=.ok (goInt 1) (W.setRow gb M1.toArray):=fun W hW ty dc=>by
  have hmin:Nat.min 1 (n+1-i)=1:=by show min _ _=_;omega
  have:=zbc (P:=Tryz.prog) (w:=W) (sT:=22) (ty:=ty) (dCap:=dc) (sCap:=vc) (dLen:=n+1-i) (sLen:=1) (o:=i*10) (a:=⟨vb,vo,none⟩) Tryz.underlying22 hi0 hsz (g:=gb) (t:=53) (L:=R) (hnew W hW) (cs:=vs) (by rw[hmin];omega)
   (fun j v hj=>by
    rw[Addr.add_lit]
    unfold World.cell?
    rw[show W.heap[(⟨vb,vo+j,none⟩:Addr).block]?=w.heap[vb]? from hpast W hW vb hvw]
    exact hvs j v hj) (by omega) h2
  rw[hmin,←hM1]at this
  exact this
 have hcpB:∀(W W0:World),W0.heap=w.heap.push (.cells R.toArray 53)→W.heap=(W0.setRow gb M1.toArray).heap→∀ty dc sc,(Builtin.copy_ #[22,22] ty #[.slice (some ⟨gb,(i+1)*10,none⟩) (n-i) dc,.slice (some ⟨b,i*10,none⟩) (n-i) sc]).run Tryz.prog W=.ok (goInt ((n-i:Nat):Int)) (W.setRow gb (Go.splice M1 ((i+1)*10) C1).toArray):=fun W W0 hW0 hW ty dc sc=>by
  have hmin:Nat.min (n-i) (n-i)=n-i:=by show min _ _=_;omega
  have:=zbc (P:=Tryz.prog) (w:=W) (sT:=22) (ty:=ty) (dCap:=dc) (sCap:=sc) (dLen:=n-i) (sLen:=n-i) (o:=(i+1)*10) (a:=⟨b,i*10,none⟩) Tryz.underlying22 hi0 hsz (g:=gb) (t:=53) (L:=M1) (by rw[hW];exact setRow_heap _ _ _ _ _ _ (hnew W0 hW0)) (cs:=C1) (by rw[hmin];exact hC1l)
   (fun j v hj=>by
    rw[Addr.add_lit]
    unfold World.cell?
    have e:W.heap[(⟨b,i*10+j,none⟩:Addr).block]?=w.heap[b]?:=by
     show W.heap[b]?=_
     rw[hW,setRow_other _ _ _ _ (by omega),hpast W0 hW0 b hbw]
    rw[e,hb]
    rw[hC1,List.getElem?_take]at hj
    split at hj
    ·simpa using hj
    ·cases hj) (by omega) (by rw[hC1];exact h1)
  rw[hmin]at this
  exact this
 have hw1:IntKind.i64.wrap ((i:Int)+1)=(i:Int)+1:=by rw[IntKind.wrap_i64];omega
 have hb1:(0:Int)≤(i:Int)+1:=by omega
 have hin:i≤n:=by omega
 have htn:((i:Int)+1).toNat=i+1:=by omega
 have hb3:(i:Int)≤(n:Int):=by omega
 have hGi:¬(G=i):=by omega
 have hGim:¬(G=i+1):=by omega
 have hci:¬(c=i):=by omega
 have hmixed:Tryz.prog.follows .mixedOrders=true:=by kernel_rfl
 have mixed:=hmixed
 have hfin:∀W W0:World,W0.heap=w.heap.push (.cells R.toArray 53)→W.heap=(W0.setRow gb M1.toArray).heap→(W.setRow gb (Go.splice M1 ((i+1)*10) C1).toArray).heap=w.heap.push (.cells (Go.splice M1 ((i+1)*10) C1).toArray 53):=fun W W0 hW0 hW=>by
  have h1:W.heap[gb]?=some (.cells M1.toArray 53 (0,0)):=by rw[hW];exact setRow_heap _ _ _ _ _ _ (hnew W0 hW0)
  have hsz0:W.heap.size=w.heap.size+1:=by rw[hW,setRow_size,hW0];simp
  apply Array.ext_getElem?
  intro k
  by_cases hk:k=gb
  ·subst hk
   rw[setRow_heap _ _ _ _ _ _ h1,hgb];simp
  ·rw[setRow_other _ _ _ _ hk]
   by_cases hk2:k<w.heap.size
   ·rw[hW,setRow_other _ _ _ _ hk,hpast W0 hW0 k hk2,Array.getElem?_push_lt hk2];simp[hk2]
   ·rw[Array.getElem?_eq_none (by omega),Array.getElem?_eq_none (by simp;omega)]
 have hMM:Go.splice (Go.splice R (i*10) vs) ((i+1)*10) C1=Go.splice M1 ((i+1)*10) C1:=by rw[hM1]
 subst hgb
 have hcpA':=hcpA ((w.alloc (.cells R.toArray 53)).drew) rfl
 clear hkk hcpA hik hold hG hR hRe hC1 hM1 hC1l hM1l h1 h2 hvs hL hTl
 go_enter Tryz.func102,Tryz.ntmps102
 go_wp2_with (at_builtin;refine zbd rfl _ _ _ _ rfl _ _ rfl rfl (hrz _) ?_)
 go_region_law_o (refine zco rfl _ _ 22 22 rfl (.slice (some ⟨w.heap.size,(i+1)*10,none⟩) (n-i) (G-(i+1))) (.slice (some ⟨b,i*10,none⟩) (n-i) (c-i)) (by simp[Act.eval,Act.put]) (by simp[Act.eval,Act.put]) (hcpB (((w.alloc (.cells R.toArray 53)).drew.setRow w.heap.size M1.toArray).drew) (w.drew.alloc (.cells R.toArray 53)) rfl rfl 3 (G-(i+1)) (c-i)) ?_)
 go_wp2
 go_ret
 refine ⟨G,R,rfl,hge,hRl,hRt,?_,rfl,rfl,rfl⟩
 rw[hMM]
 exact hfin _ (w.drew.alloc (.cells R.toArray 53)) rfl rfl
end Go.Proofs.YtpaidiaknfhclaaGreatDoor
namespace Go.Proofs.YtpaidiaknfhclaaGreatDoor
open Go Ev
theorem zd8:∃i0 z,Tryz.prog.info? 71=some i0∧i0.zero=some z∧z.cells.size=6∧i0.size=6∧i0.bytes≤128:=by
 have h:(match Tryz.prog.info? 71 with|some i=>(match i.zero with|some z=>Nat.beq z.cells.size 6&&Nat.beq i.size 6&&Nat.ble i.bytes 128|none=>false)|none=>false)=true:=by kernel_rfl
 split at h
 ·rename_i i hi
  split at h
  ·rename_i z hz
   simp only[Bool.and_eq_true]at h
   exact ⟨i,z,hi,hz,Nat.eq_of_beq_eq_true h.1.1,Nat.eq_of_beq_eq_true h.1.2,Nat.le_of_ble_eq_true h.2⟩
  ·cases h
 ·cases h
set_option maxHeartbeats 4000000 in
set_option maxRecDepth 100000 in
theorem zg0 {w:World} {b n c i vb vo vc:Nat} {L vs:List Value} {t:TypeId} (hi:i<n) (hroom:n+1≤c) (hlim:n+1≤1073741824) (hvb:vb≠b)
 (hb:w.heap[b]?=some (.cells L.toArray t (0,0))) (hL:L.length=c*6) (hvl:vs.length=6)
 (hvs:∀j v,vs[j]?=some v→w.cell? ⟨vb,vo+j,none⟩=some v) (h1:∀v∈(L.drop (i*6)).take ((n-i)*6),v.oneCell'=true) (h2:∀v∈vs,v.oneCell'=true) :
 Calls Tryz.prog 210 #[.slice (some ⟨b,0,none⟩) n c,.int .i64 i,.slice (some ⟨vb,vo,none⟩) 1 vc] w fun e w'=>
  e=.returned (.slice (some ⟨b,0,none⟩) (n+1) c)∧w'=(w.drew.setRow b (Go.splice L ((i+1)*6) ((L.drop (i*6)).take ((n-i)*6))).toArray).setRow b (Go.splice (Go.splice L ((i+1)*6) ((L.drop (i*6)).take ((n-i)*6))) (i*6) vs).toArray:=by
 obtain ⟨i0,z0,hi0,hz0,hzs,hsz,hby⟩:=zd8
 have hz2:¬((i:Int)=(n:Int)):=by omega
 have hva:∃va ta fa,w.heap[vb]?=some (.cells va ta fa)∧0<va.size:=by
  have h:=hvs 0 _ (List.getElem?_eq_getElem (by omega))
  unfold World.cell? at h
  split at h
  ·rename_i c0 t0 f0 hc0
   exact ⟨c0,t0,f0,hc0,by have:=(Array.getElem?_eq_some_iff.1 h).1;omega⟩
  ·cases h
 obtain ⟨va,ta,fa,hva,hva0⟩:=hva
 have hov:∀lb cb,(callFunc 243 #[.slice (some ⟨vb,vo,none⟩) 1 vc,.slice (some ⟨b,(i+1)*6,none⟩) lb cb]).run Tryz.prog w=.ok (.value (.bool false)) w:=fun lb cb=>by
  rw[run_callFunc_extern Tryz.func243 (by kernel_rfl) (by kernel_rfl) (by kernel_rfl) (e:=Extern.SlicesOverlaps.overlaps #[23,23] #[4]) (by kernel_rfl),
   zcz Tryz.underlying23 hi0 (a:=⟨vb,vo,none⟩) (b:=⟨b,(i+1)*6,none⟩) hvb hva hva0 hb (by simp only[List.size_toArray];omega)]
  rfl
 have hLn:(n+1)*6≤L.length:=by rw[hL];exact Nat.mul_le_mul_right _ hroom
 obtain ⟨C1,hC1⟩:∃C1,C1=(L.drop (i*6)).take ((n-i)*6):=⟨_,rfl⟩
 have hC1l:C1.length=(n-i)*6:=by rw[hC1];simp;omega
 obtain ⟨M1,hM1⟩:∃M1,M1=Go.splice L ((i+1)*6) C1:=⟨_,rfl⟩
 have hM1l:M1.length=L.length:=by rw[hM1];exact length_splice _ _ _ (by omega)
 rw[←hC1,←hM1]
 have hcp1:∀ty dc sc,(Builtin.copy_ #[23,23] ty #[.slice (some ⟨b,(i+1)*6,none⟩) (n-i) dc,.slice (some ⟨b,i*6,none⟩) (n+1-i) sc]).run Tryz.prog w.drew=.ok (goInt ((n-i:Nat):Int)) (w.drew.setRow b M1.toArray):=fun ty dc sc=>by
  have hmin:Nat.min (n+1-i) (n-i)=n-i:=by show min _ _=_;omega
  have:=zbc (P:=Tryz.prog) (w:=w.drew) (sT:=23) (ty:=ty) (dCap:=dc) (sCap:=sc) (dLen:=n-i) (sLen:=n+1-i) (o:=(i+1)*6) (a:=⟨b,i*6,none⟩) Tryz.underlying23 hi0 hsz hb (cs:=C1) (by rw[hmin];exact hC1l)
   (fun j v hj=>by
    rw[Addr.add_lit]
    show w.cell? _=_
    simp only[World.cell?,hb]
    rw[hC1,List.getElem?_take]at hj
    split at hj
    ·simpa using hj
    ·cases hj) (by omega) (by rw[hC1];exact h1)
  rw[hmin,←hM1]at this
  exact this
 have hcp2:∀(W:World),W=(w.drew.setRow b M1.toArray)→∀ty dc,(Builtin.copy_ #[23,23] ty #[.slice (some ⟨b,i*6,none⟩) (n+1-i) dc,.slice (some ⟨vb,vo,none⟩) 1 vc]).run Tryz.prog W=.ok (goInt 1) (W.setRow b (Go.splice M1 (i*6) vs).toArray):=fun W hW ty dc=>by
  have hmin:Nat.min 1 (n+1-i)=1:=by show min _ _=_;omega
  have:=zbc (P:=Tryz.prog) (w:=W) (sT:=23) (ty:=ty) (dCap:=dc) (sCap:=vc) (dLen:=n+1-i) (sLen:=1) (o:=i*6) (a:=⟨vb,vo,none⟩) Tryz.underlying23 hi0 hsz (g:=b) (t:=t) (L:=M1) (by rw[hW];exact setRow_heap _ _ _ _ _ _ hb) (cs:=vs) (by rw[hmin];omega)
   (fun j v hj=>by
    rw[Addr.add_lit,hW,cell_setRow_other _ _ _ _ hvb]
    exact hvs j v hj) (by omega) h2
  rw[hmin]at this
  exact this
 have hw1:IntKind.i64.wrap ((i:Int)+1)=(i:Int)+1:=by rw[IntKind.wrap_i64];omega
 have hb1:(0:Int)≤(i:Int)+1:=by omega
 have hin:i≤n:=by omega
 have htn:((i:Int)+1).toNat=i+1:=by omega
 have hb2:¬(c=i+1):=by omega
 have hb3:(i:Int)≤(n:Int)+1:=by omega
 have hb4:¬(c=i):=by omega
 have mixed:Tryz.prog.follows .mixedOrders=true:=by kernel_rfl
 clear hC1 hM1 hC1l hM1l h1 h2 hvs hL
 go_enter Tryz.func210,Tryz.ntmps210
 go_wp2_with (simp only[hov])
 go_region_law_o (refine zco rfl _ _ 23 23 rfl _ _ (by simp[Act.eval,Act.put]) (by simp[Act.eval,Act.put]) (hcp1 _ _ _) ?_)
 go_wp2_with (at_builtin;refine zjd rfl _ _ 23 23 rfl _ _ rfl rfl (hcp2 _ rfl _ _) ?_)
 go_ret
 exact ⟨rfl,rfl⟩
theorem zgp {i0:TypeInfo} {k c:Nat} (h:c<k) (hk:k≤1073741824) (hby:i0.bytes≤128):Builtin.nextslicecap k c*i0.bytes≤281474976710656:=
 growslice_fits h (Nat.le_trans (Nat.mul_le_mul hk hby) (by decide))
set_option maxHeartbeats 4000000 in
set_option maxRecDepth 100000 in
theorem zh7 {w:World} {b n c vb vo vc:Nat} {L vs:List Value} {t:TypeId} (hroom:n+1≤c) (hlim:n+1≤1073741824)
 (hb:w.heap[b]?=some (.cells L.toArray t (0,0))) (hL:L.length=c*6) (hvl:vs.length=6)
 (hvs:∀j v,vs[j]?=some v→w.cell? ⟨vb,vo+j,none⟩=some v) (h2:∀v∈vs,v.oneCell'=true) :
 Calls Tryz.prog 210 #[.slice (some ⟨b,0,none⟩) n c,.int .i64 n,.slice (some ⟨vb,vo,none⟩) 1 vc] w fun e w'=>
  e=.returned (.slice (some ⟨b,0,none⟩) (n+1) c)∧w'=w.setRow b (Go.splice L (n*6) vs).toArray:=by
 obtain ⟨i0,z0,hi0,hz0,hzs,hsz,hby⟩:=zd8
 have hLn:(n+1)*6≤L.length:=by rw[hL];exact Nat.mul_le_mul_right _ hroom
 have hf:=run_firstCells_some (P:=Tryz.prog) w i0.size 1 ⟨vb,vo,none⟩ 1 vc vs (by omega) (fun j v hj=>by rw[Addr.add_lit];exact hvs j v hj)
 have hap:∀ty,(Builtin.append_ #[23,23] ty #[.slice (some ⟨b,0,none⟩) n c,.slice (some ⟨vb,vo,none⟩) 1 vc]).run Tryz.prog w=.ok (.slice (some ⟨b,0,none⟩) (n+1) c) (w.setRow b (Go.splice L (n*6) vs).toArray):=fun ty=>by
  have:=zbs (P:=Tryz.prog) (w:=w) (ty:=ty) (ts:=#[23,23]) rfl rfl Tryz.underlying23 Tryz.underlying23 hi0 hf hroom hb (by simp only[List.size_toArray];rw[hsz];omega) h2
  rw[hsz]at this
  simpa[Go.splice]using this
 go_enter Tryz.func210,Tryz.ntmps210
 go_wp2_with (at_builtin;refine zbd rfl _ _ _ _ rfl _ _ rfl rfl (hap _) ?_)
 all_goals (go_ret;exact ⟨rfl,rfl⟩)
set_option maxHeartbeats 4000000 in
set_option maxRecDepth 100000 in
theorem zjl {w:World} {base:Option Addr} {n c vb vo vc:Nat} {olds vs:List Value} (hnc:n≤c) (hroom:c<n+1) (hlim:n+1≤1073741824) (hvl:vs.length=6)
 (hnil:base=none→n=0) (hol:olds.length=n*6) (hos:∀a,base=some a→∀j v,olds[j]?=some v→w.cell? (a.add j)=some v)
 (hvs:∀j v,vs[j]?=some v→w.cell? ⟨vb,vo+j,none⟩=some v) :
 Calls Tryz.prog 210 #[.slice base n c,.int .i64 n,.slice (some ⟨vb,vo,none⟩) 1 vc] w fun e w'=>
  ∃cap zs,e=.returned (.slice (some ⟨w.heap.size,0,none⟩) (n+1) cap)∧w'=w.drew.alloc (.cells (olds++(vs++zs)).toArray 71)∧n+1≤cap∧zs.length=(cap-(n+1))*6:=by
 obtain ⟨i0,z0,hi0,hz0,hzs,hsz,hby⟩:=zd8
 have hf:=run_firstCells_some (P:=Tryz.prog) w.drew i0.size 1 ⟨vb,vo,none⟩ 1 vc vs (by omega) (fun j v hj=>by rw[Addr.add_lit];exact hvs j v hj)
 have hold:(Builtin.firstCells i0.size n (.slice base n c)).run Tryz.prog w.drew=.ok olds.toArray w.drew:=by
  cases base with
  |none=>
   have h0:=hnil rfl
   subst h0
   rw[List.length_eq_zero_iff.1 (by omega:olds.length=0)]
   exact run_firstCells_none w.drew _ 0 0 c
  |some a=>exact run_firstCells_some w.drew _ n a n c olds (by rw[hsz];omega) (fun j v hj=>hos a rfl j v hj)
 have hap:∀ty,(Builtin.append_ #[23,23] ty #[.slice base n c,.slice (some ⟨vb,vo,none⟩) 1 vc]).run Tryz.prog w=_:=fun ty=>
  zb2 (P:=Tryz.prog) (w:=w) (ty:=ty) (ts:=#[23,23]) rfl rfl Tryz.underlying23 Tryz.underlying23 hi0 hz0 hf hold hroom (by omega) (zgp hroom hlim hby)
 have hge:=zbx w (n+1) c 71
 obtain ⟨G,hG⟩:∃G,G=grownCap w (n+1) c 71:=⟨_,rfl⟩
 obtain ⟨zs,hzs'⟩:∃zs,zs=(Builtin.zeroCells z0.cells (G-(n+1))).toList:=⟨_,rfl⟩
 rw[←hG]at hap hge
 rw[←hzs']at hap
 have hzl:zs.length=(G-(n+1))*6:=by rw[hzs',Array.length_toList,size_zeroCells,hzs]
 clear hG hzs'
 go_enter Tryz.func210,Tryz.ntmps210
 cases base with
 |none=>
  have h0:=hnil rfl
  subst h0
  go_wp2_with (at_builtin;refine zbd rfl _ _ _ _ rfl _ _ rfl rfl (hap _) ?_)
  all_goals (go_ret;first|exact ⟨_,_,rfl,rfl,hge,hzl⟩|exact ⟨_,rfl,_,rfl,hge,hzl⟩)
 |some a=>
  obtain ⟨ab,ao,asp⟩:=a
  go_wp2_with (at_builtin;refine zbd rfl _ _ _ _ rfl _ _ rfl rfl (hap _) ?_)
  all_goals (go_ret;first|exact ⟨_,_,rfl,rfl,hge,hzl⟩|exact ⟨_,rfl,_,rfl,hge,hzl⟩)
set_option maxHeartbeats 4000000 in
set_option maxRecDepth 100000 in
theorem zh6 {w:World} {b n c i vb vo vc:Nat} {L vs:List Value} {t:TypeId} (hi:i<n) (hnc:n≤c) (hroom:c<n+1) (hlim:n+1≤1073741824) (hvb:vb≠b)
 (hb:w.heap[b]?=some (.cells L.toArray t (0,0))) (hL:L.length=c*6) (hvl:vs.length=6)
 (hvs:∀j v,vs[j]?=some v→w.cell? ⟨vb,vo+j,none⟩=some v) (h1:∀v∈(L.drop (i*6)).take ((n-i)*6),v.oneCell'=true) (h2:∀v∈vs,v.oneCell'=true) :
 Calls Tryz.prog 210 #[.slice (some ⟨b,0,none⟩) n c,.int .i64 i,.slice (some ⟨vb,vo,none⟩) 1 vc] w fun e w'=>
  ∃cap row,e=.returned (.slice (some ⟨w.heap.size,0,none⟩) (n+1) cap)∧n+1≤cap∧row.length=cap*6∧row.take (i*6)=L.take (i*6)∧
   w'.heap=(w.heap.push (.cells (Go.splice (Go.splice row (i*6) vs) ((i+1)*6) ((L.drop (i*6)).take ((n-i)*6))).toArray 71))∧w'.os=w.os∧w'.output=w.output∧w'.tape=w.tape:=by
 obtain ⟨i0,z0,hi0,hz0,hzs,hsz,hby⟩:=zd8
 have hz2:¬((i:Int)=(n:Int)):=by omega
 have hz3:(c:Int)<(n:Int)+1:=by omega
 have hLn:n*6≤L.length:=by rw[hL];exact Nat.mul_le_mul_right _ hnc
 have hbw:b<w.heap.size:=(Array.getElem?_eq_some_iff.1 hb).1
 have hvw:vb<w.heap.size:=by
  have h:=hvs 0 _ (List.getElem?_eq_getElem (by omega))
  unfold World.cell? at h
  split at h
  ·rename_i c0 t0 f0 hc0
   exact (Array.getElem?_eq_some_iff.1 hc0).1
  ·cases h
 have hkk:(n:Int)+1-(i:Int)=((n+1-i:Nat):Int):=by omega
 have hik:i+(n+1-i)=n+1:=by omega
 have hTl:(L.take (i*6)).length=i*6:=by simp;omega
 have hold:(Builtin.firstCells i0.size i (.slice (some ⟨b,0,none⟩) i c)).run Tryz.prog w.drew=.ok (L.take (i*6)).toArray w.drew:=by
  refine run_firstCells_some w.drew _ i ⟨b,0,none⟩ i c (L.take (i*6)) (by rw[hsz];exact hTl) (fun j v hj=>?_)
  rw[Addr.add_lit,Nat.zero_add]
  show w.cell? _=_
  simp only[World.cell?,hb]
  rw[List.getElem?_take]at hj
  split at hj
  ·simpa using hj
  ·cases hj
 have hrz:∀ty,(Builtin.append_ #[23,3] ty #[.slice (some ⟨b,0,none⟩) i c,.int .i64 ((n:Int)+1-(i:Int))]).run Tryz.prog w =
  .ok (.slice (some ⟨w.heap.size,0,none⟩) (n+1) (grownCap w (n+1) c 71)) (w.drew.alloc (.cells ((L.take (i*6)).toArray++Builtin.zeroCells z0.cells (n+1-i)++Builtin.zeroCells z0.cells (grownCap w (n+1) c 71-(n+1))) 71)):=fun ty=>by
  have h:=Lib.run_append_grow_zeros w 23 3 ty 71 i0 _ .i64 .i64 Tryz.underlying23 Tryz.underlying3 hi0 hz0 (some ⟨b,0,none⟩) i c _ hold (n+1-i) (by omega) (by omega) (by omega) (by omega)
   (Nat.le_trans (Nat.mul_le_mul (show n+1-i≤1073741824 by omega) hby) (by decide)) (by rw[hik];exact zgp hroom hlim hby)
  rw[hik]at h
  rw[hkk]
  exact h
 have hge:=zbx w (n+1) c 71
 obtain ⟨G,hG⟩:∃G,G=grownCap w (n+1) c 71:=⟨_,rfl⟩
 rw[←hG]at hrz hge
 have hG63:G≤9223372036854775807:=by
  have:=grownCap_le_maxLen w (n+1) c 71 (by unfold maxLen;omega)
  rw[←hG]at this
  unfold maxLen at this
  omega
 obtain ⟨R,hR⟩:∃R:List Value,R=L.take (i*6)++((Builtin.zeroCells z0.cells (n+1-i)).toList++(Builtin.zeroCells z0.cells (G-(n+1))).toList):=⟨_,rfl⟩
 have hRl:R.length=G*6:=by
  rw[hR]
  simp only[List.length_append,Array.length_toList,size_zeroCells,hzs,hTl]
  rw[←Nat.add_mul,←Nat.add_mul]
  congr 1
  omega
 have hRt:R.take (i*6)=L.take (i*6):=by rw[hR,List.take_append_of_le_length (by omega),List.take_of_length_le (by omega)]
 have hRe:(L.take (i*6)).toArray++Builtin.zeroCells z0.cells (n+1-i)++Builtin.zeroCells z0.cells (G-(n+1))=R.toArray:=by
  rw[hR];apply Array.ext';simp
 rw[hRe]at hrz
 obtain ⟨C1,hC1⟩:∃C1,C1=(L.drop (i*6)).take ((n-i)*6):=⟨_,rfl⟩
 have hC1l:C1.length=(n-i)*6:=by rw[hC1];simp;omega
 have hGn:(n+1)*6≤R.length:=by rw[hRl];exact Nat.mul_le_mul_right _ hge
 obtain ⟨M1,hM1⟩:∃M1,M1=Go.splice R (i*6) vs:=⟨_,rfl⟩
 have hM1l:M1.length=R.length:=by rw[hM1];exact length_splice _ _ _ (by omega)
 rw[←hC1]
 obtain ⟨gb,hgb⟩:∃gb,gb=w.heap.size:=⟨_,rfl⟩
 have hnew:∀W:World,W.heap=w.heap.push (.cells R.toArray 71)→W.heap[gb]?=some (.cells R.toArray 71 (0,0)):=fun W hW=>by rw[hW,hgb];simp
 have hpast:∀W:World,W.heap=w.heap.push (.cells R.toArray 71)→∀k,k<w.heap.size→W.heap[k]?=w.heap[k]?:=fun W hW k hk=>by rw[hW,Array.getElem?_push_lt hk];simp[hk]
 have hcpA:∀(W:World),W.heap=w.heap.push (.cells R.toArray 71)→∀ty dc,(Builtin.copy_ #[23,23] ty #[.slice (some ⟨gb,i*6,none⟩) (n+1-i) dc,.slice (some ⟨vb,vo,none⟩) 1 vc]).run Tryz.prog W=.ok (goInt 1) (W.setRow gb M1.toArray):=fun W hW ty dc=>by
  have hmin:Nat.min 1 (n+1-i)=1:=by show min _ _=_;omega
  have:=zbc (P:=Tryz.prog) (w:=W) (sT:=23) (ty:=ty) (dCap:=dc) (sCap:=vc) (dLen:=n+1-i) (sLen:=1) (o:=i*6) (a:=⟨vb,vo,none⟩) Tryz.underlying23 hi0 hsz (g:=gb) (t:=71) (L:=R) (hnew W hW) (cs:=vs) (by rw[hmin];omega)
   (fun j v hj=>by
    rw[Addr.add_lit]
    unfold World.cell?
    rw[show W.heap[(⟨vb,vo+j,none⟩:Addr).block]?=w.heap[vb]? from hpast W hW vb hvw]
    exact hvs j v hj) (by omega) h2
  rw[hmin,←hM1]at this
  exact this
 have hcpB:∀(W W0:World),W0.heap=w.heap.push (.cells R.toArray 71)→W.heap=(W0.setRow gb M1.toArray).heap→∀ty dc sc,(Builtin.copy_ #[23,23] ty #[.slice (some ⟨gb,(i+1)*6,none⟩) (n-i) dc,.slice (some ⟨b,i*6,none⟩) (n-i) sc]).run Tryz.prog W=.ok (goInt ((n-i:Nat):Int)) (W.setRow gb (Go.splice M1 ((i+1)*6) C1).toArray):=fun W W0 hW0 hW ty dc sc=>by
  have hmin:Nat.min (n-i) (n-i)=n-i:=by show min _ _=_;omega
  have:=zbc (P:=Tryz.prog) (w:=W) (sT:=23) (ty:=ty) (dCap:=dc) (sCap:=sc) (dLen:=n-i) (sLen:=n-i) (o:=(i+1)*6) (a:=⟨b,i*6,none⟩) Tryz.underlying23 hi0 hsz (g:=gb) (t:=71) (L:=M1) (by rw[hW];exact setRow_heap _ _ _ _ _ _ (hnew W0 hW0)) (cs:=C1) (by rw[hmin];exact hC1l)
   (fun j v hj=>by
    rw[Addr.add_lit]
    unfold World.cell?
    have e:W.heap[(⟨b,i*6+j,none⟩:Addr).block]?=w.heap[b]?:=by
     show W.heap[b]?=_
     rw[hW,setRow_other _ _ _ _ (by omega),hpast W0 hW0 b hbw]
    rw[e,hb]
    rw[hC1,List.getElem?_take]at hj
    split at hj
    ·simpa using hj
    ·cases hj) (by omega) (by rw[hC1];exact h1)
  rw[hmin]at this
  exact this
 have hw1:IntKind.i64.wrap ((i:Int)+1)=(i:Int)+1:=by rw[IntKind.wrap_i64];omega
 have hb1:(0:Int)≤(i:Int)+1:=by omega
 have hin:i≤n:=by omega
 have htn:((i:Int)+1).toNat=i+1:=by omega
 have hb3:(i:Int)≤(n:Int):=by omega
 have hGi:¬(G=i):=by omega
 have hGim:¬(G=i+1):=by omega
 have hci:¬(c=i):=by omega
 have hmixed:Tryz.prog.follows .mixedOrders=true:=by kernel_rfl
 have mixed:=hmixed
 have hfin:∀W W0:World,W0.heap=w.heap.push (.cells R.toArray 71)→W.heap=(W0.setRow gb M1.toArray).heap→(W.setRow gb (Go.splice M1 ((i+1)*6) C1).toArray).heap=w.heap.push (.cells (Go.splice M1 ((i+1)*6) C1).toArray 71):=fun W W0 hW0 hW=>by
  have h1:W.heap[gb]?=some (.cells M1.toArray 71 (0,0)):=by rw[hW];exact setRow_heap _ _ _ _ _ _ (hnew W0 hW0)
  have hsz0:W.heap.size=w.heap.size+1:=by rw[hW,setRow_size,hW0];simp
  apply Array.ext_getElem?
  intro k
  by_cases hk:k=gb
  ·subst hk
   rw[setRow_heap _ _ _ _ _ _ h1,hgb];simp
  ·rw[setRow_other _ _ _ _ hk]
   by_cases hk2:k<w.heap.size
   ·rw[hW,setRow_other _ _ _ _ hk,hpast W0 hW0 k hk2,Array.getElem?_push_lt hk2];simp[hk2]
   ·rw[Array.getElem?_eq_none (by omega),Array.getElem?_eq_none (by simp;omega)]
 have hMM:Go.splice (Go.splice R (i*6) vs) ((i+1)*6) C1=Go.splice M1 ((i+1)*6) C1:=by rw[hM1]
 subst hgb
 have hcpA':=hcpA ((w.alloc (.cells R.toArray 71)).drew) rfl
 clear hkk hcpA hik hold hG hR hRe hC1 hM1 hC1l hM1l h1 h2 hvs hL hTl
 go_enter Tryz.func210,Tryz.ntmps210
 go_wp2_with (at_builtin;refine zbd rfl _ _ _ _ rfl _ _ rfl rfl (hrz _) ?_)
 go_region_law_o (refine zco rfl _ _ 23 23 rfl (.slice (some ⟨w.heap.size,(i+1)*6,none⟩) (n-i) (G-(i+1))) (.slice (some ⟨b,i*6,none⟩) (n-i) (c-i)) (by simp[Act.eval,Act.put]) (by simp[Act.eval,Act.put]) (hcpB (((w.alloc (.cells R.toArray 71)).drew.setRow w.heap.size M1.toArray).drew) (w.drew.alloc (.cells R.toArray 71)) rfl rfl 3 (G-(i+1)) (c-i)) ?_)
 go_wp2
 go_ret
 refine ⟨G,R,rfl,hge,hRl,hRt,?_,rfl,rfl,rfl⟩
 rw[hMM]
 exact hfin _ (w.drew.alloc (.cells R.toArray 71)) rfl rfl
end Go.Proofs.YtpaidiaknfhclaaGreatDoor
namespace Go.Proofs.YtpaidiaknfhclaaGreatDoor
open Go Ev
theorem zfu:∃i0 z,Tryz.prog.info? 73=some i0∧i0.zero=some z∧z.cells.size=6∧i0.size=6∧i0.bytes≤128:=by
 have h:(match Tryz.prog.info? 73 with|some i=>(match i.zero with|some z=>Nat.beq z.cells.size 6&&Nat.beq i.size 6&&Nat.ble i.bytes 128|none=>false)|none=>false)=true:=by kernel_rfl
 split at h
 ·rename_i i hi
  split at h
  ·rename_i z hz
   simp only[Bool.and_eq_true]at h
   exact ⟨i,z,hi,hz,Nat.eq_of_beq_eq_true h.1.1,Nat.eq_of_beq_eq_true h.1.2,Nat.le_of_ble_eq_true h.2⟩
  ·cases h
 ·cases h
set_option maxHeartbeats 4000000 in
set_option maxRecDepth 100000 in
theorem zjk {w:World} {b n c i vb vo vc:Nat} {L vs:List Value} {t:TypeId} (hi:i<n) (hroom:n+1≤c) (hlim:n+1≤1073741824) (hvb:vb≠b)
 (hb:w.heap[b]?=some (.cells L.toArray t (0,0))) (hL:L.length=c*6) (hvl:vs.length=6)
 (hvs:∀j v,vs[j]?=some v→w.cell? ⟨vb,vo+j,none⟩=some v) (h1:∀v∈(L.drop (i*6)).take ((n-i)*6),v.oneCell'=true) (h2:∀v∈vs,v.oneCell'=true) :
 Calls Tryz.prog 168 #[.slice (some ⟨b,0,none⟩) n c,.int .i64 i,.slice (some ⟨vb,vo,none⟩) 1 vc] w fun e w'=>
  e=.returned (.slice (some ⟨b,0,none⟩) (n+1) c)∧w'=(w.drew.setRow b (Go.splice L ((i+1)*6) ((L.drop (i*6)).take ((n-i)*6))).toArray).setRow b (Go.splice (Go.splice L ((i+1)*6) ((L.drop (i*6)).take ((n-i)*6))) (i*6) vs).toArray:=by
 obtain ⟨i0,z0,hi0,hz0,hzs,hsz,hby⟩:=zfu
 have hz2:¬((i:Int)=(n:Int)):=by omega
 have hva:∃va ta fa,w.heap[vb]?=some (.cells va ta fa)∧0<va.size:=by
  have h:=hvs 0 _ (List.getElem?_eq_getElem (by omega))
  unfold World.cell? at h
  split at h
  ·rename_i c0 t0 f0 hc0
   exact ⟨c0,t0,f0,hc0,by have:=(Array.getElem?_eq_some_iff.1 h).1;omega⟩
  ·cases h
 obtain ⟨va,ta,fa,hva,hva0⟩:=hva
 have hov:∀lb cb,(callFunc 223 #[.slice (some ⟨vb,vo,none⟩) 1 vc,.slice (some ⟨b,(i+1)*6,none⟩) lb cb]).run Tryz.prog w=.ok (.value (.bool false)) w:=fun lb cb=>by
  rw[run_callFunc_extern Tryz.func223 (by kernel_rfl) (by kernel_rfl) (by kernel_rfl) (e:=Extern.SlicesOverlaps.overlaps #[24,24] #[4]) (by kernel_rfl),
   zcz Tryz.underlying24 hi0 (a:=⟨vb,vo,none⟩) (b:=⟨b,(i+1)*6,none⟩) hvb hva hva0 hb (by simp only[List.size_toArray];omega)]
  rfl
 have hLn:(n+1)*6≤L.length:=by rw[hL];exact Nat.mul_le_mul_right _ hroom
 obtain ⟨C1,hC1⟩:∃C1,C1=(L.drop (i*6)).take ((n-i)*6):=⟨_,rfl⟩
 have hC1l:C1.length=(n-i)*6:=by rw[hC1];simp;omega
 obtain ⟨M1,hM1⟩:∃M1,M1=Go.splice L ((i+1)*6) C1:=⟨_,rfl⟩
 have hM1l:M1.length=L.length:=by rw[hM1];exact length_splice _ _ _ (by omega)
 rw[←hC1,←hM1]
 have hcp1:∀ty dc sc,(Builtin.copy_ #[24,24] ty #[.slice (some ⟨b,(i+1)*6,none⟩) (n-i) dc,.slice (some ⟨b,i*6,none⟩) (n+1-i) sc]).run Tryz.prog w.drew=.ok (goInt ((n-i:Nat):Int)) (w.drew.setRow b M1.toArray):=fun ty dc sc=>by
  have hmin:Nat.min (n+1-i) (n-i)=n-i:=by show min _ _=_;omega
  have:=zbc (P:=Tryz.prog) (w:=w.drew) (sT:=24) (ty:=ty) (dCap:=dc) (sCap:=sc) (dLen:=n-i) (sLen:=n+1-i) (o:=(i+1)*6) (a:=⟨b,i*6,none⟩) Tryz.underlying24 hi0 hsz hb (cs:=C1) (by rw[hmin];exact hC1l)
   (fun j v hj=>by
    rw[Addr.add_lit]
    show w.cell? _=_
    simp only[World.cell?,hb]
    rw[hC1,List.getElem?_take]at hj
    split at hj
    ·simpa using hj
    ·cases hj) (by omega) (by rw[hC1];exact h1)
  rw[hmin,←hM1]at this
  exact this
 have hcp2:∀(W:World),W=(w.drew.setRow b M1.toArray)→∀ty dc,(Builtin.copy_ #[24,24] ty #[.slice (some ⟨b,i*6,none⟩) (n+1-i) dc,.slice (some ⟨vb,vo,none⟩) 1 vc]).run Tryz.prog W=.ok (goInt 1) (W.setRow b (Go.splice M1 (i*6) vs).toArray):=fun W hW ty dc=>by
  have hmin:Nat.min 1 (n+1-i)=1:=by show min _ _=_;omega
  have:=zbc (P:=Tryz.prog) (w:=W) (sT:=24) (ty:=ty) (dCap:=dc) (sCap:=vc) (dLen:=n+1-i) (sLen:=1) (o:=i*6) (a:=⟨vb,vo,none⟩) Tryz.underlying24 hi0 hsz (g:=b) (t:=t) (L:=M1) (by rw[hW];exact setRow_heap _ _ _ _ _ _ hb) (cs:=vs) (by rw[hmin];omega)
   (fun j v hj=>by
    rw[Addr.add_lit,hW,cell_setRow_other _ _ _ _ hvb]
    exact hvs j v hj) (by omega) h2
  rw[hmin]at this
  exact this
 have hw1:IntKind.i64.wrap ((i:Int)+1)=(i:Int)+1:=by rw[IntKind.wrap_i64];omega
 have hb1:(0:Int)≤(i:Int)+1:=by omega
 have hin:i≤n:=by omega
 have htn:((i:Int)+1).toNat=i+1:=by omega
 have hb2:¬(c=i+1):=by omega
 have hb3:(i:Int)≤(n:Int)+1:=by omega
 have hb4:¬(c=i):=by omega
 have mixed:Tryz.prog.follows .mixedOrders=true:=by kernel_rfl
 clear hC1 hM1 hC1l hM1l h1 h2 hvs hL
 go_enter Tryz.func168,Tryz.ntmps168
 go_wp2_with (simp only[hov])
 go_region_law_o (refine zco rfl _ _ 24 24 rfl _ _ (by simp[Act.eval,Act.put]) (by simp[Act.eval,Act.put]) (hcp1 _ _ _) ?_)
 go_wp2_with (at_builtin;refine zjd rfl _ _ 24 24 rfl _ _ rfl rfl (hcp2 _ rfl _ _) ?_)
 go_ret
 exact ⟨rfl,rfl⟩
theorem zjr {i0:TypeInfo} {k c:Nat} (h:c<k) (hk:k≤1073741824) (hby:i0.bytes≤128):Builtin.nextslicecap k c*i0.bytes≤281474976710656:=
 growslice_fits h (Nat.le_trans (Nat.mul_le_mul hk hby) (by decide))
set_option maxHeartbeats 4000000 in
set_option maxRecDepth 100000 in
theorem zlx {w:World} {b n c vb vo vc:Nat} {L vs:List Value} {t:TypeId} (hroom:n+1≤c) (hlim:n+1≤1073741824)
 (hb:w.heap[b]?=some (.cells L.toArray t (0,0))) (hL:L.length=c*6) (hvl:vs.length=6)
 (hvs:∀j v,vs[j]?=some v→w.cell? ⟨vb,vo+j,none⟩=some v) (h2:∀v∈vs,v.oneCell'=true) :
 Calls Tryz.prog 168 #[.slice (some ⟨b,0,none⟩) n c,.int .i64 n,.slice (some ⟨vb,vo,none⟩) 1 vc] w fun e w'=>
  e=.returned (.slice (some ⟨b,0,none⟩) (n+1) c)∧w'=w.setRow b (Go.splice L (n*6) vs).toArray:=by
 obtain ⟨i0,z0,hi0,hz0,hzs,hsz,hby⟩:=zfu
 have hLn:(n+1)*6≤L.length:=by rw[hL];exact Nat.mul_le_mul_right _ hroom
 have hf:=run_firstCells_some (P:=Tryz.prog) w i0.size 1 ⟨vb,vo,none⟩ 1 vc vs (by omega) (fun j v hj=>by rw[Addr.add_lit];exact hvs j v hj)
 have hap:∀ty,(Builtin.append_ #[24,24] ty #[.slice (some ⟨b,0,none⟩) n c,.slice (some ⟨vb,vo,none⟩) 1 vc]).run Tryz.prog w=.ok (.slice (some ⟨b,0,none⟩) (n+1) c) (w.setRow b (Go.splice L (n*6) vs).toArray):=fun ty=>by
  have:=zbs (P:=Tryz.prog) (w:=w) (ty:=ty) (ts:=#[24,24]) rfl rfl Tryz.underlying24 Tryz.underlying24 hi0 hf hroom hb (by simp only[List.size_toArray];rw[hsz];omega) h2
  rw[hsz]at this
  simpa[Go.splice]using this
 go_enter Tryz.func168,Tryz.ntmps168
 go_wp2_with (at_builtin;refine zbd rfl _ _ _ _ rfl _ _ rfl rfl (hap _) ?_)
 all_goals (go_ret;exact ⟨rfl,rfl⟩)
set_option maxHeartbeats 4000000 in
set_option maxRecDepth 100000 in
theorem znp {w:World} {base:Option Addr} {n c vb vo vc:Nat} {olds vs:List Value} (hnc:n≤c) (hroom:c<n+1) (hlim:n+1≤1073741824) (hvl:vs.length=6)
 (hnil:base=none→n=0) (hol:olds.length=n*6) (hos:∀a,base=some a→∀j v,olds[j]?=some v→w.cell? (a.add j)=some v)
 (hvs:∀j v,vs[j]?=some v→w.cell? ⟨vb,vo+j,none⟩=some v) :
 Calls Tryz.prog 168 #[.slice base n c,.int .i64 n,.slice (some ⟨vb,vo,none⟩) 1 vc] w fun e w'=>
  ∃cap zs,e=.returned (.slice (some ⟨w.heap.size,0,none⟩) (n+1) cap)∧w'=w.drew.alloc (.cells (olds++(vs++zs)).toArray 73)∧n+1≤cap∧zs.length=(cap-(n+1))*6:=by
 obtain ⟨i0,z0,hi0,hz0,hzs,hsz,hby⟩:=zfu
 have hf:=run_firstCells_some (P:=Tryz.prog) w.drew i0.size 1 ⟨vb,vo,none⟩ 1 vc vs (by omega) (fun j v hj=>by rw[Addr.add_lit];exact hvs j v hj)
 have hold:(Builtin.firstCells i0.size n (.slice base n c)).run Tryz.prog w.drew=.ok olds.toArray w.drew:=by
  cases base with
  |none=>
   have h0:=hnil rfl
   subst h0
   rw[List.length_eq_zero_iff.1 (by omega:olds.length=0)]
   exact run_firstCells_none w.drew _ 0 0 c
  |some a=>exact run_firstCells_some w.drew _ n a n c olds (by rw[hsz];omega) (fun j v hj=>hos a rfl j v hj)
 have hap:∀ty,(Builtin.append_ #[24,24] ty #[.slice base n c,.slice (some ⟨vb,vo,none⟩) 1 vc]).run Tryz.prog w=_:=fun ty=>
  zb2 (P:=Tryz.prog) (w:=w) (ty:=ty) (ts:=#[24,24]) rfl rfl Tryz.underlying24 Tryz.underlying24 hi0 hz0 hf hold hroom (by omega) (zjr hroom hlim hby)
 have hge:=zbx w (n+1) c 73
 obtain ⟨G,hG⟩:∃G,G=grownCap w (n+1) c 73:=⟨_,rfl⟩
 obtain ⟨zs,hzs'⟩:∃zs,zs=(Builtin.zeroCells z0.cells (G-(n+1))).toList:=⟨_,rfl⟩
 rw[←hG]at hap hge
 rw[←hzs']at hap
 have hzl:zs.length=(G-(n+1))*6:=by rw[hzs',Array.length_toList,size_zeroCells,hzs]
 clear hG hzs'
 go_enter Tryz.func168,Tryz.ntmps168
 cases base with
 |none=>
  have h0:=hnil rfl
  subst h0
  go_wp2_with (at_builtin;refine zbd rfl _ _ _ _ rfl _ _ rfl rfl (hap _) ?_)
  all_goals (go_ret;first|exact ⟨_,_,rfl,rfl,hge,hzl⟩|exact ⟨_,rfl,_,rfl,hge,hzl⟩)
 |some a=>
  obtain ⟨ab,ao,asp⟩:=a
  go_wp2_with (at_builtin;refine zbd rfl _ _ _ _ rfl _ _ rfl rfl (hap _) ?_)
  all_goals (go_ret;first|exact ⟨_,_,rfl,rfl,hge,hzl⟩|exact ⟨_,rfl,_,rfl,hge,hzl⟩)
set_option maxHeartbeats 4000000 in
set_option maxRecDepth 100000 in
theorem zlw {w:World} {b n c i vb vo vc:Nat} {L vs:List Value} {t:TypeId} (hi:i<n) (hnc:n≤c) (hroom:c<n+1) (hlim:n+1≤1073741824) (hvb:vb≠b)
 (hb:w.heap[b]?=some (.cells L.toArray t (0,0))) (hL:L.length=c*6) (hvl:vs.length=6)
 (hvs:∀j v,vs[j]?=some v→w.cell? ⟨vb,vo+j,none⟩=some v) (h1:∀v∈(L.drop (i*6)).take ((n-i)*6),v.oneCell'=true) (h2:∀v∈vs,v.oneCell'=true) :
 Calls Tryz.prog 168 #[.slice (some ⟨b,0,none⟩) n c,.int .i64 i,.slice (some ⟨vb,vo,none⟩) 1 vc] w fun e w'=>
  ∃cap row,e=.returned (.slice (some ⟨w.heap.size,0,none⟩) (n+1) cap)∧n+1≤cap∧row.length=cap*6∧row.take (i*6)=L.take (i*6)∧
   w'.heap=(w.heap.push (.cells (Go.splice (Go.splice row (i*6) vs) ((i+1)*6) ((L.drop (i*6)).take ((n-i)*6))).toArray 73))∧w'.os=w.os∧w'.output=w.output∧w'.tape=w.tape:=by
 obtain ⟨i0,z0,hi0,hz0,hzs,hsz,hby⟩:=zfu
 have hz2:¬((i:Int)=(n:Int)):=by omega
 have hz3:(c:Int)<(n:Int)+1:=by omega
 have hLn:n*6≤L.length:=by rw[hL];exact Nat.mul_le_mul_right _ hnc
 have hbw:b<w.heap.size:=(Array.getElem?_eq_some_iff.1 hb).1
 have hvw:vb<w.heap.size:=by
  have h:=hvs 0 _ (List.getElem?_eq_getElem (by omega))
  unfold World.cell? at h
  split at h
  ·rename_i c0 t0 f0 hc0
   exact (Array.getElem?_eq_some_iff.1 hc0).1
  ·cases h
 have hkk:(n:Int)+1-(i:Int)=((n+1-i:Nat):Int):=by omega
 have hik:i+(n+1-i)=n+1:=by omega
 have hTl:(L.take (i*6)).length=i*6:=by simp;omega
 have hold:(Builtin.firstCells i0.size i (.slice (some ⟨b,0,none⟩) i c)).run Tryz.prog w.drew=.ok (L.take (i*6)).toArray w.drew:=by
  refine run_firstCells_some w.drew _ i ⟨b,0,none⟩ i c (L.take (i*6)) (by rw[hsz];exact hTl) (fun j v hj=>?_)
  rw[Addr.add_lit,Nat.zero_add]
  show w.cell? _=_
  simp only[World.cell?,hb]
  rw[List.getElem?_take]at hj
  split at hj
  ·simpa using hj
  ·cases hj
 have hrz:∀ty,(Builtin.append_ #[24,3] ty #[.slice (some ⟨b,0,none⟩) i c,.int .i64 ((n:Int)+1-(i:Int))]).run Tryz.prog w =
  .ok (.slice (some ⟨w.heap.size,0,none⟩) (n+1) (grownCap w (n+1) c 73)) (w.drew.alloc (.cells ((L.take (i*6)).toArray++Builtin.zeroCells z0.cells (n+1-i)++Builtin.zeroCells z0.cells (grownCap w (n+1) c 73-(n+1))) 73)):=fun ty=>by
  have h:=Lib.run_append_grow_zeros w 24 3 ty 73 i0 _ .i64 .i64 Tryz.underlying24 Tryz.underlying3 hi0 hz0 (some ⟨b,0,none⟩) i c _ hold (n+1-i) (by omega) (by omega) (by omega) (by omega)
   (Nat.le_trans (Nat.mul_le_mul (show n+1-i≤1073741824 by omega) hby) (by decide)) (by rw[hik];exact zjr hroom hlim hby)
  rw[hik]at h
  rw[hkk]
  exact h
 have hge:=zbx w (n+1) c 73
 obtain ⟨G,hG⟩:∃G,G=grownCap w (n+1) c 73:=⟨_,rfl⟩
 rw[←hG]at hrz hge
 have hG63:G≤9223372036854775807:=by
  have:=grownCap_le_maxLen w (n+1) c 73 (by unfold maxLen;omega)
  rw[←hG]at this
  unfold maxLen at this
  omega
 obtain ⟨R,hR⟩:∃R:List Value,R=L.take (i*6)++((Builtin.zeroCells z0.cells (n+1-i)).toList++(Builtin.zeroCells z0.cells (G-(n+1))).toList):=⟨_,rfl⟩
 have hRl:R.length=G*6:=by
  rw[hR]
  simp only[List.length_append,Array.length_toList,size_zeroCells,hzs,hTl]
  rw[←Nat.add_mul,←Nat.add_mul]
  congr 1
  omega
 have hRt:R.take (i*6)=L.take (i*6):=by rw[hR,List.take_append_of_le_length (by omega),List.take_of_length_le (by omega)]
 have hRe:(L.take (i*6)).toArray++Builtin.zeroCells z0.cells (n+1-i)++Builtin.zeroCells z0.cells (G-(n+1))=R.toArray:=by
  rw[hR];apply Array.ext';simp
 rw[hRe]at hrz
 obtain ⟨C1,hC1⟩:∃C1,C1=(L.drop (i*6)).take ((n-i)*6):=⟨_,rfl⟩
 have hC1l:C1.length=(n-i)*6:=by rw[hC1];simp;omega
 have hGn:(n+1)*6≤R.length:=by rw[hRl];exact Nat.mul_le_mul_right _ hge
 obtain ⟨M1,hM1⟩:∃M1,M1=Go.splice R (i*6) vs:=⟨_,rfl⟩
 have hM1l:M1.length=R.length:=by rw[hM1];exact length_splice _ _ _ (by omega)
 rw[←hC1]
 obtain ⟨gb,hgb⟩:∃gb,gb=w.heap.size:=⟨_,rfl⟩
 have hnew:∀W:World,W.heap=w.heap.push (.cells R.toArray 73)→W.heap[gb]?=some (.cells R.toArray 73 (0,0)):=fun W hW=>by rw[hW,hgb];simp
 have hpast:∀W:World,W.heap=w.heap.push (.cells R.toArray 73)→∀k,k<w.heap.size→W.heap[k]?=w.heap[k]?:=fun W hW k hk=>by rw[hW,Array.getElem?_push_lt hk];simp[hk]
 have hcpA:∀(W:World),W.heap=w.heap.push (.cells R.toArray 73)→∀ty dc,(Builtin.copy_ #[24,24] ty #[.slice (some ⟨gb,i*6,none⟩) (n+1-i) dc,.slice (some ⟨vb,vo,none⟩) 1 vc]).run Tryz.prog W=.ok (goInt 1) (W.setRow gb M1.toArray):=fun W hW ty dc=>by
  have hmin:Nat.min 1 (n+1-i)=1:=by show min _ _=_;omega
  have:=zbc (P:=Tryz.prog) (w:=W) (sT:=24) (ty:=ty) (dCap:=dc) (sCap:=vc) (dLen:=n+1-i) (sLen:=1) (o:=i*6) (a:=⟨vb,vo,none⟩) Tryz.underlying24 hi0 hsz (g:=gb) (t:=73) (L:=R) (hnew W hW) (cs:=vs) (by rw[hmin];omega)
   (fun j v hj=>by
    rw[Addr.add_lit]
    unfold World.cell?
    rw[show W.heap[(⟨vb,vo+j,none⟩:Addr).block]?=w.heap[vb]? from hpast W hW vb hvw]
    exact hvs j v hj) (by omega) h2
  rw[hmin,←hM1]at this
  exact this
 have hcpB:∀(W W0:World),W0.heap=w.heap.push (.cells R.toArray 73)→W.heap=(W0.setRow gb M1.toArray).heap→∀ty dc sc,(Builtin.copy_ #[24,24] ty #[.slice (some ⟨gb,(i+1)*6,none⟩) (n-i) dc,.slice (some ⟨b,i*6,none⟩) (n-i) sc]).run Tryz.prog W=.ok (goInt ((n-i:Nat):Int)) (W.setRow gb (Go.splice M1 ((i+1)*6) C1).toArray):=fun W W0 hW0 hW ty dc sc=>by
  have hmin:Nat.min (n-i) (n-i)=n-i:=by show min _ _=_;omega
  have:=zbc (P:=Tryz.prog) (w:=W) (sT:=24) (ty:=ty) (dCap:=dc) (sCap:=sc) (dLen:=n-i) (sLen:=n-i) (o:=(i+1)*6) (a:=⟨b,i*6,none⟩) Tryz.underlying24 hi0 hsz (g:=gb) (t:=73) (L:=M1) (by rw[hW];exact setRow_heap _ _ _ _ _ _ (hnew W0 hW0)) (cs:=C1) (by rw[hmin];exact hC1l)
   (fun j v hj=>by
    rw[Addr.add_lit]
    unfold World.cell?
    have e:W.heap[(⟨b,i*6+j,none⟩:Addr).block]?=w.heap[b]?:=by
     show W.heap[b]?=_
     rw[hW,setRow_other _ _ _ _ (by omega),hpast W0 hW0 b hbw]
    rw[e,hb]
    rw[hC1,List.getElem?_take]at hj
    split at hj
    ·simpa using hj
    ·cases hj) (by omega) (by rw[hC1];exact h1)
  rw[hmin]at this
  exact this
 have hw1:IntKind.i64.wrap ((i:Int)+1)=(i:Int)+1:=by rw[IntKind.wrap_i64];omega
 have hb1:(0:Int)≤(i:Int)+1:=by omega
 have hin:i≤n:=by omega
 have htn:((i:Int)+1).toNat=i+1:=by omega
 have hb3:(i:Int)≤(n:Int):=by omega
 have hGi:¬(G=i):=by omega
 have hGim:¬(G=i+1):=by omega
 have hci:¬(c=i):=by omega
 have hmixed:Tryz.prog.follows .mixedOrders=true:=by kernel_rfl
 have mixed:=hmixed
 have hfin:∀W W0:World,W0.heap=w.heap.push (.cells R.toArray 73)→W.heap=(W0.setRow gb M1.toArray).heap→(W.setRow gb (Go.splice M1 ((i+1)*6) C1).toArray).heap=w.heap.push (.cells (Go.splice M1 ((i+1)*6) C1).toArray 73):=fun W W0 hW0 hW=>by
  have h1:W.heap[gb]?=some (.cells M1.toArray 73 (0,0)):=by rw[hW];exact setRow_heap _ _ _ _ _ _ (hnew W0 hW0)
  have hsz0:W.heap.size=w.heap.size+1:=by rw[hW,setRow_size,hW0];simp
  apply Array.ext_getElem?
  intro k
  by_cases hk:k=gb
  ·subst hk
   rw[setRow_heap _ _ _ _ _ _ h1,hgb];simp
  ·rw[setRow_other _ _ _ _ hk]
   by_cases hk2:k<w.heap.size
   ·rw[hW,setRow_other _ _ _ _ hk,hpast W0 hW0 k hk2,Array.getElem?_push_lt hk2];simp[hk2]
   ·rw[Array.getElem?_eq_none (by omega),Array.getElem?_eq_none (by simp;omega)]
 have hMM:Go.splice (Go.splice R (i*6) vs) ((i+1)*6) C1=Go.splice M1 ((i+1)*6) C1:=by rw[hM1]
 subst hgb
 have hcpA':=hcpA ((w.alloc (.cells R.toArray 73)).drew) rfl
 clear hkk hcpA hik hold hG hR hRe hC1 hM1 hC1l hM1l h1 h2 hvs hL hTl
 go_enter Tryz.func168,Tryz.ntmps168
 go_wp2_with (at_builtin;refine zbd rfl _ _ _ _ rfl _ _ rfl rfl (hrz _) ?_)
 go_region_law_o (refine zco rfl _ _ 24 24 rfl (.slice (some ⟨w.heap.size,(i+1)*6,none⟩) (n-i) (G-(i+1))) (.slice (some ⟨b,i*6,none⟩) (n-i) (c-i)) (by simp[Act.eval,Act.put]) (by simp[Act.eval,Act.put]) (hcpB (((w.alloc (.cells R.toArray 73)).drew.setRow w.heap.size M1.toArray).drew) (w.drew.alloc (.cells R.toArray 73)) rfl rfl 3 (G-(i+1)) (c-i)) ?_)
 go_wp2
 go_ret
 refine ⟨G,R,rfl,hge,hRl,hRt,?_,rfl,rfl,rfl⟩
 rw[hMM]
 exact hfin _ (w.drew.alloc (.cells R.toArray 73)) rfl rfl
end Go.Proofs.YtpaidiaknfhclaaGreatDoor
namespace Go.Proofs.YtpaidiaknfhclaaGreatDoor
open Go Ev
theorem zvi:∃i0 z,Tryz.prog.info? 75=some i0∧i0.zero=some z∧z.cells.size=11∧i0.size=11∧∀v∈z.cells,v.oneCell'=true:=by
 have h:(match Tryz.prog.info? 75 with|some i=>(match i.zero with|some z=>Nat.beq z.cells.size 11&&Nat.beq i.size 11&&z.cells.toList.all (·.oneCell')|none=>false)|none=>false)=true:=by kernel_rfl
 split at h
 ·rename_i i hi
  split at h
  ·rename_i z hz
   simp only[Bool.and_eq_true]at h
   exact ⟨i,z,hi,hz,Nat.eq_of_beq_eq_true h.1.1,Nat.eq_of_beq_eq_true h.1.2,fun v hv=>List.all_eq_true.1 h.2 v (by simpa using hv)⟩
  ·cases h
 ·cases h
set_option maxHeartbeats 4000000 in
set_option maxRecDepth 100000 in
theorem zlm {w:World} {base:Option Addr} {n c i:Nat} (hnc:n≤c) (hi:i≤n) :
 Calls Tryz.prog 225 #[.slice base n c,.int .i64 i,.int .i64 i] w fun e w'=>e=.returned (.slice base n c)∧w'=w:=by
 cases base with
 |none=>
  go_enter Tryz.func225,Tryz.ntmps225
  go_wp2
  all_goals (go_ret;exact ⟨rfl,rfl⟩)
 |some a=>
  obtain ⟨ab,ao,asp⟩:=a
  go_enter Tryz.func225,Tryz.ntmps225
  go_wp2
  all_goals (go_ret;exact ⟨rfl,rfl⟩)
set_option maxHeartbeats 4000000 in
set_option maxRecDepth 100000 in
theorem zln {w:World} {b n c i j:Nat} {L:List Value} {t:TypeId} (hij:i<j) (hj:j≤n) (hnc:n≤c)
 (hb:w.heap[b]?=some (.cells L.toArray t (0,0))) (hL:L.length=c*11) (h1:∀v∈(L.drop (j*11)).take ((n-j)*11),v.oneCell'=true) :
 Calls Tryz.prog 225 #[.slice (some ⟨b,0,none⟩) n c,.int .i64 i,.int .i64 j] w fun e w'=>
  e=.returned (.slice (some ⟨b,0,none⟩) (i+(n-j)) c)∧∃(M0:Array Value) (zs:List Value),zs.length=(j-i)*11∧w'=(w.drew.setRow b M0).setRow b (Go.splice (Go.splice L (i*11) ((L.drop (j*11)).take ((n-j)*11))) ((i+(n-j))*11) zs).toArray:=by
 obtain ⟨i0,z0,hi0,hz0,hzs,hsz,hz1⟩:=zvi
 have hLn:n*11≤L.length:=by rw[hL];exact Nat.mul_le_mul_right _ hnc
 obtain ⟨C1,hC1⟩:∃C1,C1=(L.drop (j*11)).take ((n-j)*11):=⟨_,rfl⟩
 have hC1l:C1.length=(n-j)*11:=by rw[hC1];simp;omega
 obtain ⟨M1,hM1⟩:∃M1,M1=Go.splice L (i*11) C1:=⟨_,rfl⟩
 have hM1l:M1.length=L.length:=by rw[hM1];exact length_splice _ _ _ (by omega)
 rw[←hC1,←hM1]
 obtain ⟨A,hA,hsrc⟩:∃A:Addr,(if c=j then some (⟨b,0,none⟩:Addr) else some ⟨b,j*11,none⟩)=some A∧∀q v,C1[q]?=some v→w.drew.cell? (A.add q)=some v:=by
  by_cases h:c=j
  ·refine ⟨⟨b,0,none⟩,by simp[h],fun q v hq=>?_⟩
   have:=(List.getElem?_eq_some_iff.1 hq).1
   omega
  ·refine ⟨⟨b,j*11,none⟩,by simp[h],fun q v hq=>?_⟩
   rw[Addr.add_lit]
   show w.cell? _=_
   simp only[World.cell?,hb]
   rw[hC1,List.getElem?_take]at hq
   split at hq
   ·simpa using hq
   ·cases hq
 have hf:∀xc,(Builtin.firstCells i0.size (n-j) (.slice (some A) (n-j) xc)).run Tryz.prog w.drew=.ok C1.toArray w.drew:=fun xc=>run_firstCells_some (P:=Tryz.prog) w.drew i0.size (n-j) A (n-j) xc C1 (by rw[hsz];exact hC1l) hsrc
 have hone:∀v∈C1,v.oneCell'=true:=by rw[hC1];exact h1
 have hap:∀ty xc,(Builtin.append_ #[25,25] ty #[.slice (some ⟨b,0,none⟩) i c,.slice (some A) (n-j) xc]).run Tryz.prog w.drew=.ok (.slice (some ⟨b,0,none⟩) (i+(n-j)) c) (w.drew.setRow b M1.toArray):=fun ty xc=>by
  have:=zbs (P:=Tryz.prog) (w:=w.drew) (ty:=ty) (ts:=#[25,25]) rfl rfl Tryz.underlying25 Tryz.underlying25 hi0 (hf xc) (sLen:=i) (sCap:=c) (by omega) hb (by simp only[List.size_toArray];rw[hsz];omega) hone
  rw[hsz]at this
  rw[hM1]
  simpa[Go.splice]using this
 obtain ⟨zs,hzs'⟩:∃zs,zs=(Builtin.zeroCells z0.cells (j-i)).toList:=⟨_,rfl⟩
 have hzl:zs.length=(j-i)*11:=by rw[hzs',Array.length_toList,Go.size_zeroCells,hzs]
 have hcl:∀ty cc,(Builtin.clear_ #[25] ty #[.slice (some ⟨b,(i+(n-j))*11,none⟩) (n-(i+(n-j))) cc]).run Tryz.prog (w.drew.setRow b M1.toArray)=.ok (.tuple #[]) ((w.drew.setRow b M1.toArray).setRow b (Go.splice M1 ((i+(n-j))*11) zs).toArray):=fun ty cc=>by
  have e:n-(i+(n-j))=j-i:=by omega
  rw[e,hzs']
  exact zi0 (P:=Tryz.prog) (w:=w.drew.setRow b M1.toArray) Tryz.underlying25 hi0 hz0 (by omega) (setRow_heap _ _ _ _ _ _ hb) (by rw[hzs];omega) hz1
 have hic:i≤c:=by omega
 have hjc:j≤c:=by omega
 have mixed:Tryz.prog.follows .mixedOrders=true:=by kernel_rfl
 clear hC1 hM1 hC1l hM1l h1 hL hf hone hzs'
 go_enter Tryz.func225,Tryz.ntmps225
 go_wp2_with fail
 go_region_law_o (refine zk1 rfl (.tmp 22) (.tmp 25) 25 25 rfl (.slice (some ⟨b,0,none⟩) i c) (.slice (some A) (n-j) (c-j)) (by simp[Act.eval,Act.put]) (by simp[Act.eval,Act.put]) (hap _ _) ?_)
 go_wp2
 go_ret
 exact ⟨rfl,_,zs,hzl,rfl⟩
end Go.Proofs.YtpaidiaknfhclaaGreatDoor
namespace Go.Proofs.YtpaidiaknfhclaaGreatDoor
open Go Ev
theorem zvj:∃i0 z,Tryz.prog.info? 73=some i0∧i0.zero=some z∧z.cells.size=6∧i0.size=6∧∀v∈z.cells,v.oneCell'=true:=by
 have h:(match Tryz.prog.info? 73 with|some i=>(match i.zero with|some z=>Nat.beq z.cells.size 6&&Nat.beq i.size 6&&z.cells.toList.all (·.oneCell')|none=>false)|none=>false)=true:=by kernel_rfl
 split at h
 ·rename_i i hi
  split at h
  ·rename_i z hz
   simp only[Bool.and_eq_true]at h
   exact ⟨i,z,hi,hz,Nat.eq_of_beq_eq_true h.1.1,Nat.eq_of_beq_eq_true h.1.2,fun v hv=>List.all_eq_true.1 h.2 v (by simpa using hv)⟩
  ·cases h
 ·cases h
set_option maxHeartbeats 4000000 in
set_option maxRecDepth 100000 in
theorem zlo {w:World} {base:Option Addr} {n c i:Nat} (hnc:n≤c) (hi:i≤n) :
 Calls Tryz.prog 187 #[.slice base n c,.int .i64 i,.int .i64 i] w fun e w'=>e=.returned (.slice base n c)∧w'=w:=by
 cases base with
 |none=>
  go_enter Tryz.func187,Tryz.ntmps187
  go_wp2
  all_goals (go_ret;exact ⟨rfl,rfl⟩)
 |some a=>
  obtain ⟨ab,ao,asp⟩:=a
  go_enter Tryz.func187,Tryz.ntmps187
  go_wp2
  all_goals (go_ret;exact ⟨rfl,rfl⟩)
set_option maxHeartbeats 4000000 in
set_option maxRecDepth 100000 in
theorem zlp {w:World} {b n c i j:Nat} {L:List Value} {t:TypeId} (hij:i<j) (hj:j≤n) (hnc:n≤c)
 (hb:w.heap[b]?=some (.cells L.toArray t (0,0))) (hL:L.length=c*6) (h1:∀v∈(L.drop (j*6)).take ((n-j)*6),v.oneCell'=true) :
 Calls Tryz.prog 187 #[.slice (some ⟨b,0,none⟩) n c,.int .i64 i,.int .i64 j] w fun e w'=>
  e=.returned (.slice (some ⟨b,0,none⟩) (i+(n-j)) c)∧∃(M0:Array Value) (zs:List Value),zs.length=(j-i)*6∧w'=(w.drew.setRow b M0).setRow b (Go.splice (Go.splice L (i*6) ((L.drop (j*6)).take ((n-j)*6))) ((i+(n-j))*6) zs).toArray:=by
 obtain ⟨i0,z0,hi0,hz0,hzs,hsz,hz1⟩:=zvj
 have hLn:n*6≤L.length:=by rw[hL];exact Nat.mul_le_mul_right _ hnc
 obtain ⟨C1,hC1⟩:∃C1,C1=(L.drop (j*6)).take ((n-j)*6):=⟨_,rfl⟩
 have hC1l:C1.length=(n-j)*6:=by rw[hC1];simp;omega
 obtain ⟨M1,hM1⟩:∃M1,M1=Go.splice L (i*6) C1:=⟨_,rfl⟩
 have hM1l:M1.length=L.length:=by rw[hM1];exact length_splice _ _ _ (by omega)
 rw[←hC1,←hM1]
 obtain ⟨A,hA,hsrc⟩:∃A:Addr,(if c=j then some (⟨b,0,none⟩:Addr) else some ⟨b,j*6,none⟩)=some A∧∀q v,C1[q]?=some v→w.drew.cell? (A.add q)=some v:=by
  by_cases h:c=j
  ·refine ⟨⟨b,0,none⟩,by simp[h],fun q v hq=>?_⟩
   have:=(List.getElem?_eq_some_iff.1 hq).1
   omega
  ·refine ⟨⟨b,j*6,none⟩,by simp[h],fun q v hq=>?_⟩
   rw[Addr.add_lit]
   show w.cell? _=_
   simp only[World.cell?,hb]
   rw[hC1,List.getElem?_take]at hq
   split at hq
   ·simpa using hq
   ·cases hq
 have hf:∀xc,(Builtin.firstCells i0.size (n-j) (.slice (some A) (n-j) xc)).run Tryz.prog w.drew=.ok C1.toArray w.drew:=fun xc=>run_firstCells_some (P:=Tryz.prog) w.drew i0.size (n-j) A (n-j) xc C1 (by rw[hsz];exact hC1l) hsrc
 have hone:∀v∈C1,v.oneCell'=true:=by rw[hC1];exact h1
 have hap:∀ty xc,(Builtin.append_ #[24,24] ty #[.slice (some ⟨b,0,none⟩) i c,.slice (some A) (n-j) xc]).run Tryz.prog w.drew=.ok (.slice (some ⟨b,0,none⟩) (i+(n-j)) c) (w.drew.setRow b M1.toArray):=fun ty xc=>by
  have:=zbs (P:=Tryz.prog) (w:=w.drew) (ty:=ty) (ts:=#[24,24]) rfl rfl Tryz.underlying24 Tryz.underlying24 hi0 (hf xc) (sLen:=i) (sCap:=c) (by omega) hb (by simp only[List.size_toArray];rw[hsz];omega) hone
  rw[hsz]at this
  rw[hM1]
  simpa[Go.splice]using this
 obtain ⟨zs,hzs'⟩:∃zs,zs=(Builtin.zeroCells z0.cells (j-i)).toList:=⟨_,rfl⟩
 have hzl:zs.length=(j-i)*6:=by rw[hzs',Array.length_toList,Go.size_zeroCells,hzs]
 have hcl:∀ty cc,(Builtin.clear_ #[24] ty #[.slice (some ⟨b,(i+(n-j))*6,none⟩) (n-(i+(n-j))) cc]).run Tryz.prog (w.drew.setRow b M1.toArray)=.ok (.tuple #[]) ((w.drew.setRow b M1.toArray).setRow b (Go.splice M1 ((i+(n-j))*6) zs).toArray):=fun ty cc=>by
  have e:n-(i+(n-j))=j-i:=by omega
  rw[e,hzs']
  exact zi0 (P:=Tryz.prog) (w:=w.drew.setRow b M1.toArray) Tryz.underlying24 hi0 hz0 (by omega) (setRow_heap _ _ _ _ _ _ hb) (by rw[hzs];omega) hz1
 have hic:i≤c:=by omega
 have hjc:j≤c:=by omega
 have mixed:Tryz.prog.follows .mixedOrders=true:=by kernel_rfl
 clear hC1 hM1 hC1l hM1l h1 hL hf hone hzs'
 go_enter Tryz.func187,Tryz.ntmps187
 go_wp2_with fail
 go_region_law_o (refine zk1 rfl (.tmp 22) (.tmp 25) 24 24 rfl (.slice (some ⟨b,0,none⟩) i c) (.slice (some A) (n-j) (c-j)) (by simp[Act.eval,Act.put]) (by simp[Act.eval,Act.put]) (hap _ _) ?_)
 go_wp2
 go_ret
 exact ⟨rfl,_,zs,hzl,rfl⟩
end Go.Proofs.YtpaidiaknfhclaaGreatDoor
namespace Go.Proofs.YtpaidiaknfhclaaGreatDoor
open Go Ev
open Go.Lib Go.RowKit
theorem zav3 {X:Ending} (a:Int) {b:Int} (h:X=.returned (.int .i64 a)) (e:a=b):X=.returned (.int .i64 b):=e▸h
theorem zama (b cap:Nat) (x y z:Int) (w:World) (h0:w.cell? ⟨b,0,none⟩=some (.int .i64 x)) (h1:w.cell? ⟨b,1,none⟩=some (.int .i64 y)) (h2:w.cell? ⟨b,2,none⟩=some (.int .i64 z)) :
 Calls Tryz.prog 61 #[.slice (some ⟨b,0,none⟩) 3 cap] w fun e w'=>e=.returned (.int .i64 (zfj x (zfj y z)))∧w'=w:=by
 obtain ⟨R,hR⟩:∃R,R=zfj x (zfj y z):=⟨_,rfl⟩
 have r0:x≠0→x=R:=fun h=>by rw[hR];unfold zfj;rw[if_neg h]
 have r1:x=0→y≠0→y=R:=fun h h'=>by rw[hR];unfold zfj;rw[if_pos h,if_neg h']
 have r2:x=0→y=0→z=R:=fun h h'=>by rw[hR];unfold zfj;rw[if_pos h,if_pos h']
 rw[←hR]
 clear hR
 go_enter Tryz.func61,Tryz.ntmps61
 go_wp2
 go_loop [2,8] (fun r i=>∃k:Nat,k≤3∧i=.int .i64 k∧r=.int .i64 0∧(1≤k→x=0)∧(2≤k→y=0)∧(3≤k→z=0)) (fun _ i=>3-(intOf i).toNat)
 case atStart=>exact ⟨0,by omega,rfl,rfl,by omega,by omega,by omega⟩
 case round=>
  obtain ⟨k,hk,rfl,rfl,k1,k2,k3⟩:=hrel
  rcases (by omega:k=0∨k=1∨k=2∨k=3) with rfl|rfl|rfl|rfl
  ·clear k1 k2 k3
   have H1:Hid ((x != 0)=true→x=R):=fun h=>r0 (by simpa using h)
   clear r0 r1 r2
   go_wp2
   all_goals first
    |(rw[←H1.out (by assumption)];go_ret;exact ⟨rfl,rfl⟩)
    |(go_round;(case rel=>exact ⟨1,by omega,by go_num,rfl,fun _=>by simp_all,by omega,by omega⟩);(case measure=>simp[intOf]))
  ·have H1:Hid ((y != 0)=true→y=R):=fun h=>r1 (k1 (by omega)) (by simpa using h)
   have H0:Hid (x=0):=k1 (by omega)
   clear k1 k2 k3 r0 r1 r2
   go_wp2
   all_goals first
    |(rw[←H1.out (by assumption)];go_ret;exact ⟨rfl,rfl⟩)
    |(go_round;(case rel=>exact ⟨2,by omega,by go_num,rfl,fun _=>H0.out,fun _=>by simp_all,by omega⟩);(case measure=>simp[intOf]))
  ·have H1:Hid (z=R):=r2 (k1 (by omega)) (k2 (by omega))
   have H0:Hid (x=0∧y=0):=⟨k1 (by omega),k2 (by omega)⟩
   clear k1 k2 k3 r0 r1 r2
   go_wp2
   all_goals first
    |(rw[←H1.out];go_ret;exact ⟨rfl,rfl⟩)
    |(go_round;(case rel=>exact ⟨3,by omega,by go_num,rfl,fun _=>H0.out.1,fun _=>H0.out.2,fun _=>by simp_all⟩);(case measure=>simp[intOf]))
  ·have H1:Hid (0=R):=(k3 (by omega)).symm.trans (r2 (k1 (by omega)) (k2 (by omega)))
   clear k1 k2 k3 r0 r1 r2
   go_wp2
   rw[←H1.out]
   go_ret
   exact ⟨rfl,rfl⟩
def encC (x:Weed_candidate):List Value:=[.int .i64 x.id_,.int .i64 x.record,.int .i64 x.loans,.int .i64 x.last]
def cfC (a b:Weed_candidate):Int:=zfj (Go.Lib.compareInt a.loans b.loans) (zfj (Go.Lib.compareInt a.last b.last) (Go.Lib.compareInt a.id_ b.id_))
set_option maxHeartbeats 4000000 in
theorem z7o (a b:Weed_candidate) (W:World):Calls Tryz.prog 60 #[.agg (encC a).toArray,.agg (encC b).toArray] W fun e w'=>e=.returned (.int .i64 (cfC a b))∧∃q os',w'=Go.Sort.grow (W.drewN q) os':=by
 obtain ⟨i1,c1,l1,s1⟩:=a
 obtain ⟨i2,c2,l2,s2⟩:=b
 have hcon:∀(x y:Int) (W':World),Calls Tryz.prog 62 #[.int .i64 x,.int .i64 y] W' fun e w'=>e=.returned (.int .i64 (Go.Lib.compareInt x y))∧w'=W':=fun x y W'=>AnyG.cmp_Compare_int Tryz.laysCmp x y W'
 show Calls Tryz.prog 60 #[.agg #[.int .i64 i1,.int .i64 c1,.int .i64 l1,.int .i64 s1],.agg #[.int .i64 i2,.int .i64 c2,.int .i64 l2,.int .i64 s2]] W fun e w'=>e=.returned (.int .i64 (zfj (Go.Lib.compareInt l1 l2) (zfj (Go.Lib.compareInt s1 s2) (Go.Lib.compareInt i1 i2))))∧∃q os',w'=Go.Sort.grow (W.drewN q) os'
 have k1:=hcon l1 l2
 have k2:=hcon s1 s2
 have k3:=hcon i1 i2
 clear hcon
 generalize Go.Lib.compareInt l1 l2=r1 at *
 generalize Go.Lib.compareInt s1 s2=r2 at *
 generalize Go.Lib.compareInt i1 i2=r3 at *
 go_enter Tryz.func60,Tryz.ntmps60
 go_wp2
 go_region_held3 (fun w'=>w'.cell? ⟨W.heap.size,0,none⟩=some (.int .i64 i1)∧w'.cell? ⟨W.heap.size,2,none⟩=some (.int .i64 l1)∧w'.cell? ⟨W.heap.size,3,none⟩=some (.int .i64 s1)∧w'.cell? ⟨W.heap.size+1,0,none⟩=some (.int .i64 i2)∧w'.cell? ⟨W.heap.size+1,2,none⟩=some (.int .i64 l2)∧w'.cell? ⟨W.heap.size+1,3,none⟩=some (.int .i64 s2)) (go_keep)
  (first
   |(go_at_call_of 62 (Value.int .i64 l1);refine (k1 _).mono ?_;rintro e w' ⟨rfl,rfl⟩)
   |(go_at_call_of 62 (Value.int .i64 s1);refine (k2 _).mono ?_;rintro e w' ⟨rfl,rfl⟩)
   |(go_at_call_of 62 (Value.int .i64 i1);refine (k3 _).mono ?_;rintro e w' ⟨rfl,rfl⟩)
   |(go_at_call 61;refine (zama _ _ r1 r2 r3 _ (by go_simp) (by go_simp) (by go_simp)).mono ?_;rintro e w' ⟨rfl,rfl⟩))
 all_goals go_wp2
 all_goals go_ret
 exact ⟨rfl,1,_,by rw[Go.Sort.alloc_eq_grow,Go.Sort.alloc_eq_grow,Go.Sort.alloc_eq_grow,Go.Sort.grow_grow,Go.Sort.grow_grow];rfl⟩
end Go.Proofs.YtpaidiaknfhclaaGreatDoor
namespace Go.Proofs.YtpaidiaknfhclaaGreatDoor
open Go Ev
open Go.Sort
set_option maxRecDepth 100000
theorem zyc (a b:Weed_candidate):cfC a b<0↔a.loans<b.loans∨(a.loans=b.loans∧(a.last<b.last∨(a.last=b.last∧a.id_<b.id_))):=by
 unfold cfC zfj Go.Lib.compareInt
 by_cases h1:a.loans<b.loans
 ·simp[h1]
 ·by_cases h2:a.loans>b.loans
  ·have:¬a.loans=b.loans:=by omega
   simp[h1,h2,this]
  ·have h3:a.loans=b.loans:=by omega
   by_cases h4:a.last<b.last
   ·simp[h3,h4]
   ·by_cases h5:a.last>b.last
    ·have:¬a.last=b.last:=by omega
     simp[h3,h4,h5,this]
    ·have h6:a.last=b.last:=by omega
     by_cases h7:a.id_<b.id_
     ·simp[h3,h6,h7]
     ·by_cases h8:a.id_>b.id_
      ·simp[h3,h6,h7,h8]
      ·simp[h3,h6,h7,h8]
theorem zyd:SWO (ltOf cfC) where
 irrefl x:=by
  have h:=zyc x x
  unfold ltOf
  rw[decide_eq_false_iff_not,h];omega
 trans x y z h1 h2:=by
  unfold ltOf at *
  simp only[decide_eq_true_eq,zyc]at *
  omega
 ntrans x y z h1 h2:=by
  unfold ltOf at *
  simp only[decide_eq_false_iff_not,zyc]at *
  omega
theorem zagu {w:World} {I J:Nat→Nat→Prop} {xs:List Weed_candidate} {vals:Array Value}
 (hc:∀i (hi:i<xs.length) j d,(sg.enc Kd.kWeed_candidate xs[i])[j]?=some d→∃v,vals[i*sg.sz Kd.kWeed_candidate+j]?=some v∧DR sg w I J v d) :
 ∀i (hi:i<xs.length) j v,(encC xs[i])[j]?=some v→vals[i*4+j]?=some v:=by
 intro i hi j v hv
 have key:∀n,(sg.enc Kd.kWeed_candidate xs[i])[j]?=some (.int .i64 n)→v=.int .i64 n→vals[i*4+j]?=some v:=by
  intro n h1 h2
  obtain ⟨u,h3,h4⟩:=hc i hi j _ h1
  rw[h2,←h4.int_inv];exact h3
 match j,hv with
 |0,hv=>exact key _ rfl (Option.some.inj hv).symm
 |1,hv=>exact key _ rfl (Option.some.inj hv).symm
 |2,hv=>exact key _ rfl (Option.some.inj hv).symm
 |3,hv=>exact key _ rfl (Option.some.inj hv).symm
 |j+4,hv=>simp[encC]at hv
theorem z0b {xs:List Weed_candidate} {i j:Nat} (hi:i<xs.length) (hj:j<4):(encC xs[i])[j]?=some (flatK encC 4 xs.toArray)[i*4+j]!:=by
 have h:i*4+j<xs.toArray.size*4:=by simp;omega
 rw[get_flatK _ _ _ _ h]
 have e1:(i*4+j) / 4=i:=by omega
 have e2:(i*4+j) % 4=j:=by omega
 rw[e1,e2]
 have e3:xs.toArray[i]! = xs[i]:=by simp[hi]
 rw[e3]
 have:j<(encC xs[i]).length:=hj
 rw[List.getElem?_eq_getElem this,List.getElem!_eq_getElem?_getD,List.getElem?_eq_getElem this]
 rfl
theorem zakt {w:World} {xs:List Weed_candidate} {blk:Nat} {vals:Array Value} {t:TypeId} (hb:w.heap[blk]?=some (.cells vals t (0,0)))
 (hc:∀i (hi:i<xs.length) j v,(encC xs[i])[j]?=some v→vals[i*4+j]?=some v):HoldsK encC 4 w blk 0 xs.toArray:=by
 intro t ht
 have ht:t<xs.length*4:=by simpa using ht
 have e:t=t / 4*4+t % 4:=by omega
 have h1:=z0b (xs:=xs) (i:=t / 4) (j:=t % 4) (by omega) (by omega)
 rw[←e]at h1
 have h2:=hc (t / 4) (by omega) (t % 4) _ h1
 rw[←e]at h2
 refine ⟨?_,?_⟩
 ·simp only[World.cell?,hb,Nat.zero_add,h2]
  rfl
 ·simp[World.frozen?,hb]
theorem z8c {w:World} {I J:Nat→Nat→Prop} {F:Array Value} {blk q:Nat} {vals:Array Value} {t:TypeId} {os:Array Obj} (hp:Pre sg w I J [blk]) (hb:w.heap[blk]?=some (.cells vals t (0,0))) (hy:F.size≤vals.size) :
 GrowM [blk] w (grow (putRow id (Sort.ahead w q) blk 0 F) os) I I∧
 ∃vals',(grow (putRow id (Sort.ahead w q) blk 0 F) os).heap[blk]?=some (.cells vals' t (0,0))∧vals'.size=vals.size∧∀i,i<F.size→vals'[i]?=some F[i]!:=by
 have hlt:blk<w.heap.size:=(Array.getElem?_eq_some_iff.1 hb).1
 have hh:(grow (putRow id (Sort.ahead w q) blk 0 F) os).heap=w.heap.modify blk (onCells (putCells id 0 F))++os:=rfl
 have hsz:(w.heap.modify blk (onCells (putCells id 0 F))).size=w.heap.size:=by simp
 have hget:∀b,b<w.heap.size→(grow (putRow id (Sort.ahead w q) blk 0 F) os).heap[b]?=if blk=b then (w.heap[b]?).map (onCells (putCells id 0 F)) else w.heap[b]?:=by
  intro b hb
  rw[hh,Array.getElem?_append_left (by rw[hsz];exact hb),Array.getElem?_modify]
 refine ⟨⟨?_,rfl,rfl,rfl,fun b h1 h2=>?_,fun _ _ h=>h,fun _ _ h=>.inl h,fun b o h=>?_⟩,putCells id 0 F vals,?_,?_,?_⟩
 ·rw[hh,Array.size_append,hsz];omega
 ·rw[hget b h1,if_neg (fun e=>h2 (by simp[e]))]
 ·have:=hp.ib b o h
  rw[hh,Array.size_append,hsz];omega
 ·rw[hget blk hlt,if_pos rfl,hb]
  rfl
 ·simp[putCells]
 ·intro i hi
  unfold putCells
  rw[Array.getElem?_mapIdx,Array.getElem?_eq_getElem (by omega)]
  simp[hi]
theorem zvp {mb:List Nat} {w:World} {I:Nat→Nat→Prop} (h:∀b o,I b o→b<w.heap.size):GrowM mb w w I I:=⟨Nat.le_refl _,rfl,rfl,rfl,fun _ _ _=>rfl,fun _ _ h=>h,fun _ _ h=>.inl h,h⟩
theorem zafu {w:World} {I J:Nat→Nat→Prop} {vs:Array Value} (h:Args sg w I J vs [.fn 60 [] []]):vs = #[.func (.func 60) #[] #[]]:=by
 obtain ⟨h1,h2⟩:=h
 have h1:vs.size=1:=h1
 obtain ⟨v,hv⟩:∃v,vs[0]?=some v:=⟨vs[0],by simp[h1]⟩
 have h3:=h2 0 v _ hv rfl
 cases h3 with
 |fn f p c ps cs hp hc k1 k2=>
  have hp:p = #[]:=Array.eq_empty_of_size_eq_zero hp
  have hc:c = #[]:=Array.eq_empty_of_size_eq_zero hc
  subst hp
  subst hc
  refine Array.ext (by simp[h1]) (fun i hi _=>?_)
  have:i=0:=by omega
  subst this
  have:=(Array.getElem?_eq_some_iff.1 hv).2
  simpa using this
theorem zyg (blk off size:Nat) (w:World):CmpLays Tryz.prog 60 #[] encC 4 cfC blk off size w:=fun m os dk _ x y=>z7o x y (sortWorldK encC 4 w blk off m dk os)
theorem zaad (xs:List Weed_candidate):(pdqL cfC xs).length=xs.length:=by
 have h:=(pdq_sorts (ltOf cfC) zyd xs.toArray 0 xs.toArray.size (Lib.bitLen xs.toArray.size) true true (Nat.zero_le _) (Nat.le_refl _) (Or.inl rfl)).1.1
 show (pdq (ltOf cfC) xs.toArray 0 xs.length (Go.Lib.bitLen xs.length) true true).toList.length=_
 simpa using h
theorem zavg:fnB Tryz.prog 59 Tryz.f59 []=true:=by kernel_rfl
theorem zz6:∀args w,(callFunc 60 args).run Tryz.prog w=.ok (.enter 60 args) w:=enters_of Tryz.func60 (by kernel_rfl) rfl
theorem zaiv:∀ds a r,zxg.dec ds=some a→zada a=some r→Con Tryz.prog sg 59 ds [] (zaeu.enc r) []:=by
 intro ds a r hd hf
 obtain ⟨code,fok,-,-⟩:=zbe Tryz.func59 zavg
 have hac:CCOk zxg:=CCOk.cons (zai.lst _) (CCOk.cons (zai.fnc _ CCOk.nil CCOk.nil) CCOk.nil)
 have hds:=hac ds a hd
 have hmd:sg.md 59=.inpl:=by kernel_rfl
 unfold Con
 rw[hmd]
 obtain ⟨zs,u⟩:=a
 have hds:WL ds [.lst .kWeed_candidate zs,.fn 60 [] []]:=hds
 have hf:(bif decide (zs.length≤LIM) then some (pdqL cfC zs) else none)=some r:=hf
 intro _ k xs ds0 he xs' hr w I J mb v0 vs hp ho hargs
 subst he
 have hr:(D.lst Kd.kWeed_candidate r:DD)=D.lst k xs':=hr
 cases hr
 have hw0:=hds.2 0 _ _ rfl rfl
 cases hw0 with
 |leaf _ _ hw0=>
 cases hw0
 have hargs:=WL.args (cs':=[.fn 60 [] []]) ⟨by simpa using hds.1,fun q d d' h1 h2=>hds.2 (q+1) d d' h1 h2⟩ hargs
 have:=zafu hargs
 subst this
 cases hlim:decide (zs.length≤LIM) with
 |false=>rw[hlim]at hf;cases hf
 |true=>
  rw[hlim]at hf
  have hl:=of_decide_eq_true hlim
  unfold LIM at hl
  have hf:some (pdqL cfC zs)=some r:=hf
  cases hf
  have hlen:=zaad zs
  unfold zcb
  rw[show (#[v0]++#[Value.func (.func 60) #[] #[]]) = #[v0,Value.func (.func 60) #[] #[]] from rfl,MuLone.run_callFunc_enter fok.at_ fok.name fok.body _ w]
  simp only
  obtain ⟨base,cap,rfl,hcap,ho⟩:=ho
  rcases ho with ⟨rfl,rfl⟩|⟨blk,vals,t,rfl,rfl,hb,hv,hc⟩
  ·have hz:zs=[]:=List.length_eq_zero_iff.1 (by omega)
   subst hz
   have h:=AnyF.slices_SortFunc_none Tryz.laysSort base 0 (.func (.func 60) #[] #[]) w
   refine h.mono (fun e w' he=>?_)
   obtain ⟨rfl,rfl⟩:=he
   exact ⟨rfl,hlen,I,zvp hp.ib,base,0,by rw[List.length_eq_zero_iff.1 hlen],by rw[hlen];simp,.inl ⟨rfl,rfl⟩⟩
  ·have hc2:=zagu hc
   have hv:vals.size=cap*4:=hv
   have h:=AnyQ.slices_SortFunc_eq Tryz.laysSort 4 Tryz.isAgg63 Tryz.sizeOf63 encC (fun _=>rfl) (fun x v hv=>by simp[encC]at hv;rcases hv with rfl|rfl|rfl|rfl<;>rfl) cfC zyd 60 #[] blk 0 cap zs.toArray w zz6 (zyg blk 0 zs.toArray.size w) (zakt hb hc2) (Array.getElem?_eq_some_iff.1 hb).1 (by simp;omega)
   refine h.mono (fun e w' he=>?_)
   obtain ⟨rfl,n,os,rfl⟩:=he
   obtain ⟨g,vals',h1,h2,h3⟩:=z8c (q:=n) (os:=os) (F:=flatK encC 4 (pdqL cfC zs).toArray) hp hb (by simp;omega)
   refine ⟨rfl,hlen,I,g,some ⟨blk,0,none⟩,cap,by rw[hlen],by omega,.inr ⟨blk,vals',t,rfl,rfl,h1,by rw[h2];exact hv,?_⟩⟩
   intro i hi j d hd
   have key:∀n,j<4→(encC (pdqL cfC zs)[i])[j]?=some (.int .i64 n)→d=.int .i64 n→∃v,vals'[i*4+j]?=some v∧∀W,DR sg W I I v d:=by
    intro n hj e1 e2
    have h4:=z0b (xs:=pdqL cfC zs) hi hj
    have h5:=h3 (i*4+j) (by simp;omega)
    rw[←h4,e1]at h5
    exact ⟨_,h5,fun W=>by rw[e2];exact .int _ _⟩
   match j,hd with
   |0,hd=>obtain ⟨v,q1,q2⟩:=key _ (by omega) rfl (Option.some.inj hd).symm;exact ⟨v,q1,q2 _⟩
   |1,hd=>obtain ⟨v,q1,q2⟩:=key _ (by omega) rfl (Option.some.inj hd).symm;exact ⟨v,q1,q2 _⟩
   |2,hd=>obtain ⟨v,q1,q2⟩:=key _ (by omega) rfl (Option.some.inj hd).symm;exact ⟨v,q1,q2 _⟩
   |3,hd=>obtain ⟨v,q1,q2⟩:=key _ (by omega) rfl (Option.some.inj hd).symm;exact ⟨v,q1,q2 _⟩
   |j+4,hd=>exact absurd (show (none:Option DD)=some d from hd) (by simp)
end Go.Proofs.YtpaidiaknfhclaaGreatDoor
namespace Go.Proofs.YtpaidiaknfhclaaGreatDoor
set_option maxRecDepth 100000
open Ev
open Go
theorem zar1:fnB Tryz.prog 102 Tryz.f102 []=true:=by kernel_rfl
theorem zvr:InsOk Tryz.prog 102 (sg.sz Kd.kItem) 53:=⟨zjj,zlv,zno,zlu⟩
theorem zai8:∀ds a r,zxk.dec ds=some a→zade a=some r→Con Tryz.prog sg 102 ds [] (zae0.enc r) []:=by
 intro ds a r hd hf
 obtain ⟨code,fok,-,-⟩:=zbe Tryz.func102 zar1
 have hac:CCOk zxk:=CCOk.cons (zai.lst _) (CCOk.cons (zai.int _) (CCOk.cons (zai.lst _) CCOk.nil))
 exact zlg good.sgk fok (by kernel_rfl) zvr (hac ds a hd) hf
theorem zasd:fnB Tryz.prog 210 Tryz.f210 []=true:=by kernel_rfl
theorem znn:InsOk Tryz.prog 210 (sg.sz Kd.kPatron) 71:=⟨zg0,zh7,zjl,zh6⟩
theorem zai5:∀ds a r,zxi.dec ds=some a→zadc a=some r→Con Tryz.prog sg 210 ds [] (zaex.enc r) []:=by
 intro ds a r hd hf
 obtain ⟨code,fok,-,-⟩:=zbe Tryz.func210 zasd
 have hac:CCOk zxi:=CCOk.cons (zai.lst _) (CCOk.cons (zai.int _) (CCOk.cons (zai.lst _) CCOk.nil))
 exact zlg good.sgk fok (by kernel_rfl) znn (hac ds a hd) hf
theorem zar9:fnB Tryz.prog 168 Tryz.f168 []=true:=by kernel_rfl
theorem zvs:InsOk Tryz.prog 168 (sg.sz Kd.kLoan) 73:=⟨zjk,zlx,znp,zlw⟩
theorem zai7:∀ds a r,zxj.dec ds=some a→zadd a=some r→Con Tryz.prog sg 168 ds [] (zaez.enc r) []:=by
 intro ds a r hd hf
 obtain ⟨code,fok,-,-⟩:=zbe Tryz.func168 zar9
 have hac:CCOk zxj:=CCOk.cons (zai.lst _) (CCOk.cons (zai.int _) (CCOk.cons (zai.lst _) CCOk.nil))
 exact zlg good.sgk fok (by kernel_rfl) zvs (hac ds a hd) hf
theorem zase:fnB Tryz.prog 225 Tryz.f225 []=true:=by kernel_rfl
theorem zvg:DelOk Tryz.prog 225 (sg.sz Kd.kHold):=⟨zlm,zln⟩
theorem zaja:∀ds a r,zxm.dec ds=some a→zadg a=some r→Con Tryz.prog sg 225 ds [] (zae2.enc r) []:=by
 intro ds a r hd hf
 obtain ⟨code,fok,-,-⟩:=zbe Tryz.func225 zase
 have hac:CCOk zxm:=CCOk.cons (zai.lst _) (CCOk.cons (zai.int _) (CCOk.cons (zai.int _) CCOk.nil))
 exact zr7 good.sgk fok (by kernel_rfl) zvg (hac ds a hd) hf
theorem zasb:fnB Tryz.prog 187 Tryz.f187 []=true:=by kernel_rfl
theorem zvh:DelOk Tryz.prog 187 (sg.sz Kd.kLoan):=⟨zlo,zlp⟩
theorem zai9:∀ds a r,zxl.dec ds=some a→zadf a=some r→Con Tryz.prog sg 187 ds [] (zae1.enc r) []:=by
 intro ds a r hd hf
 obtain ⟨code,fok,-,-⟩:=zbe Tryz.func187 zasb
 have hac:CCOk zxl:=CCOk.cons (zai.lst _) (CCOk.cons (zai.int _) (CCOk.cons (zai.int _) CCOk.nil))
 exact zr7 good.sgk fok (by kernel_rfl) zvh (hac ds a hd) hf
end Go.Proofs.YtpaidiaknfhclaaGreatDoor
namespace Go.Proofs.YtpaidiaknfhclaaGreatDoor
open Go Ev
open Go.Lib Go.RowKit
set_option maxRecDepth 100000
theorem zmn {w:World} {I:Nat→Nat→Prop} (h:zk3 sg w I):Lib.Utf8Tabs 0 1 w:=by
 constructor
 ·intro c hc
  have hl:c<zay.length:=by simp[zay];exact hc
  obtain ⟨v,h1,-,h3⟩:=h 0 .ku8 zay (by kernel_rfl) c hl 0 (.int .u8 zay[c]) rfl
  rw[h3.int_inv]at h1
  have e:zay[c]=(Lib.firstT c:Int):=by simp[zay]
  rw[e]at h1
  have h1:w.cell? ⟨0,c*1+0,none⟩=_:=h1
  rw[Nat.mul_one,Nat.add_zero]at h1
  exact h1
 ·intro i hi
  have hl:i<zan.length:=by simp[zan];exact hi
  obtain ⟨v,h1,-,h3⟩:=h 1 .kUtf8_acceptRange zan (by kernel_rfl) i hl 0 (.int .u8 zan[i].lo) rfl
  obtain ⟨v',k1,-,k3⟩:=h 1 .kUtf8_acceptRange zan (by kernel_rfl) i hl 1 (.int .u8 zan[i].hi) rfl
  rw[h3.int_inv]at h1
  rw[k3.int_inv]at k1
  have e:zan[i]=⟨(Lib.accLo i:Int),(Lib.accHi i:Int)⟩:=by simp[zan]
  rw[e]at h1 k1
  have h1:w.cell? ⟨1,i*2+0,none⟩=_:=h1
  have k1:w.cell? ⟨1,i*2+1,none⟩=_:=k1
  rw[Nat.mul_comm,Nat.add_zero]at h1
  rw[Nat.mul_comm]at k1
  exact ⟨h1,k1⟩
theorem zj1 {w w':World} {I:Nat→Nat→Prop} (hi:∀b o,I b o→b<w.heap.size) (h:Below w.heap.size w w'):Grow w w' I I:=
 ⟨h.size,h.os,h.output,h.tape,h.block,fun _ _ h=>h,fun _ _ h=>.inl h,fun b o hb=>Nat.lt_of_lt_of_le (hi b o hb) h.size⟩
theorem z5o {w:World} {I J:Nat→Nat→Prop} {vs:Array Value} {l:List UInt8} (ha:Args sg w I J vs [.str l]):∃b:ByteArray,vs = #[.string b]∧l=b.data.toList:=by
 obtain ⟨h1,h2⟩:=ha
 have h1:vs.size=1:=h1
 have h0:=h2 0 vs[0] (.str l) (Array.getElem?_eq_getElem (by omega)) rfl
 generalize hv:vs[0]=v at h0
 cases h0 with
 |str b=>
  refine ⟨b,?_,rfl⟩
  apply Array.ext
  ·simp[h1]
  ·intro i hi1 hi2
   have:i=0:=by omega
   subst this
   simpa using hv
theorem zar4:fnB Tryz.prog 126 Tryz.f126 [4]=true:=by kernel_rfl
theorem zy2:∀ds a r,zxc.dec ds=some a→zac7 a=some r→Con Tryz.prog sg 126 ds [] (zaem.enc r) []:=by
 intro ds a r hd hf
 obtain ⟨code,fok,-,-⟩:=zbe Tryz.func126 zar4
 have hac:CCOk zxc:=CCOk.cons zai.str CCOk.nil
 have hw:=hac ds a hd
 obtain ⟨l,⟨⟩⟩:=a
 unfold Con
 rw[show sg.md 126=.data by kernel_rfl]
 intro _ w I J vs hp ha
 obtain ⟨b,rfl,rfl⟩:=z5o (l:=l) (hw.args ha)
 replace hf:(bif decide (b.data.toList.length≤LIM) then some (vld b.data.toList) else none)=some r:=hf
 rw[zad]at hf
 split at hf
 ·rename_i hle
  cases hf
  rw[decide_eq_true_eq,←Lib.size_eq]at hle
  unfold zcb
  rw[MuLone.run_callFunc_enter fok.at_ fok.name fok.body _ w]
  refine (zw5 b w hle (zmn hp.gl)).mono ?_
  rintro e w' ⟨rfl,hb⟩
  exact ⟨I,zj1 hp.ib hb,.bool _⟩
 ·cases hf
theorem zasc:fnB Tryz.prog 198 Tryz.f198 []=true:=by kernel_rfl
theorem zaiq:∀ds a r,zxf.dec ds=some a→zac9 a=some r→Con Tryz.prog sg 198 ds [] (zaer.enc r) []:=by
 intro ds a r hd hf
 obtain ⟨code,fok,-,-⟩:=zbe Tryz.func198 zasc
 have hac:CCOk zxf:=CCOk.cons zai.str CCOk.nil
 have hw:=hac ds a hd
 obtain ⟨l,⟨⟩⟩:=a
 unfold Con
 rw[show sg.md 198=.data by kernel_rfl]
 intro _ w I J vs hp ha
 obtain ⟨b,rfl,rfl⟩:=z5o (l:=l) (hw.args ha)
 replace hf:(bif decide (b.data.toList.length≤LIM)&&vld b.data.toList then some (cln b.data.toList) else none)=some r:=hf
 rw[zad]at hf
 split at hf
 ·rename_i hle
  cases hf
  rw[Bool.and_eq_true,decide_eq_true_eq,←Lib.size_eq]at hle
  unfold zcb
  rw[MuLone.run_callFunc_enter fok.at_ fok.name fok.body _ w]
  refine (zu8 b w hle.1 hle.2).mono ?_
  rintro e w' ⟨rfl,hb⟩
  exact ⟨I,zj1 hp.ib hb,.str ⟨(cln b.data.toList).toArray⟩⟩
 ·cases hf
theorem zail:∀ds a r,zaa8.dec ds=some a→zac8 a=some r→Con Tryz.prog sg 276 ds [] (zaeo.enc r) []:=fun ds a r hd hf=>by cases hf
end Go.Proofs.YtpaidiaknfhclaaGreatDoor

namespace Go.Proofs.YtpaidiaknfhclaaGreatDoor
set_option maxRecDepth 100000
open Ev
open Go (IntKind)
open Go
noncomputable abbrev ZP:=Tryz.prog
theorem z74:fnB ZP 24 Tryz.f24 [4,9,14]=true:=by kernel_rfl
theorem z7h:CG ZP sg @zafx:=cg0
theorem zak2:zae ZP sg 0 Tryz.f24 @zhb 4:=zaq z0r good Tryz.func24 z74 z7h zaa (fun a=>by kernel_rfl) (by kernel_rfl) (fun _ _=>rfl)
theorem zak3:zae ZP sg 0 Tryz.f24 @zhb 9:=zaq z0s good Tryz.func24 z74 z7h zaa (fun a=>by kernel_rfl) (by kernel_rfl) (fun _ _=>rfl)
theorem z8r:zae ZP sg 0 Tryz.f24 @zhb 14:=zaq zsm good Tryz.func24 z74 z7h zaa (fun a=>by kernel_rfl) (by kernel_rfl) (fun _ _=>rfl)
theorem zarc:SG ZP sg 24 @zaut:=conD (loops:=zhb) good Tryz.func24 z74 (by kernel_rfl) z7h (all_cons zak2 (all_cons zak3 (all_cons z8r zaa))) (fun a=>by kernel_rfl)
theorem zpv:SG ZP sg 146 @zq9:=conE good Tryz.func146 (by kernel_rfl) (by kernel_rfl) cg0 (fun a=>by kernel_rfl)
theorem zasu:fnB ZP 88 Tryz.f88 [2]=true:=by kernel_rfl
theorem zabm:CG ZP sg @z6l:=(cgc zpv cg0)
theorem z8u:zae ZP sg 0 Tryz.f88 @zn5 2:=zaq zsp good Tryz.func88 zasu zabm zaa (fun a=>by kernel_rfl) (by kernel_rfl) (fun _ _=>rfl)
theorem zym:SG ZP sg 88 @zq6:=conD (loops:=zn5) good Tryz.func88 zasu (by kernel_rfl) zabm (all_cons z8u zaa) (fun a=>by kernel_rfl)
theorem zarg:SG ZP sg 147 @zae6:=conE good Tryz.func147 (by kernel_rfl) (by kernel_rfl) (cgc zpv cg0) (fun a=>by kernel_rfl)
theorem zag7:SG ZP sg 148 @z29:=conE good Tryz.func148 (by kernel_rfl) (by kernel_rfl) cg0 (fun a=>by kernel_rfl)
theorem zasv:fnB ZP 89 Tryz.f89 [4]=true:=by kernel_rfl
theorem zab3:CG ZP sg @z62:=(cgc zpv (cgc zarg (cgc zag7 cg0)))
theorem z9b:zae ZP sg 0 Tryz.f89 @zom 4:=zaq zs7 good Tryz.func89 zasv zab3 zaa (fun a=>by kernel_rfl) (by kernel_rfl) (fun _ _=>rfl)
theorem zahj:SG ZP sg 89 @z3j:=conD (loops:=zom) good Tryz.func89 zasv (by kernel_rfl) zab3 (all_cons z9b zaa) (fun a=>by kernel_rfl)
theorem zasi:fnB ZP 42 Tryz.f42 [4]=true:=by kernel_rfl
theorem zabu:CG ZP sg @z6t:=(cgc zym (cgc zahj cg0))
theorem z82:zae ZP sg 0 Tryz.f42 @zod 4:=zaq zsx good Tryz.func42 zasi zabu zaa (fun a=>by kernel_rfl) (by kernel_rfl) (fun _ _=>rfl)
theorem zahd:SG ZP sg 42 @z3d:=conD (loops:=zod) good Tryz.func42 zasi (by kernel_rfl) zabu (all_cons z82 zaa) (fun a=>by kernel_rfl)
theorem zasj:fnB ZP 43 Tryz.f43 [4]=true:=by kernel_rfl
theorem zabt:CG ZP sg @z6s:=cg0
theorem z81:zae ZP sg 0 Tryz.f43 @zoc 4:=zaq zsw good Tryz.func43 zasj zabt zaa (fun a=>by kernel_rfl) (by kernel_rfl) (fun _ _=>rfl)
theorem zahc:SG ZP sg 43 @z3c:=conD (loops:=zoc) good Tryz.func43 zasj (by kernel_rfl) zabt (all_cons z81 zaa) (fun a=>by kernel_rfl)
theorem zait:SG ZP sg 149 @zan7:=conE good Tryz.func149 (by kernel_rfl) (by kernel_rfl) cg0 (fun a=>by kernel_rfl)
theorem zajz:SG ZP sg 150 @zao6:=conE good Tryz.func150 (by kernel_rfl) (by kernel_rfl) cg0 (fun a=>by kernel_rfl)
theorem zai0:SG ZP sg 90 @z4w:=conE good Tryz.func90 (by kernel_rfl) (by kernel_rfl) (cgc zait (cgc zajz cg0)) (fun a=>by kernel_rfl)
theorem z8b:fnB ZP 44 Tryz.f44 [4,12,15]=true:=by kernel_rfl
theorem z7j:CG ZP sg @zaf8:=(cgc zai0 cg0)
theorem zalg:zae ZP sg 0 Tryz.f44 @zhd 4:=zaq z07 good Tryz.func44 z8b z7j zaa (fun a=>by kernel_rfl) (by kernel_rfl) (fun _ _=>rfl)
theorem ztw:zae ZP sg 0 Tryz.f44 @zhd 15:=zaq ztn good Tryz.func44 z8b z7j zaa (fun a=>by kernel_rfl) (by kernel_rfl) (fun _ _=>rfl)
theorem z9q:zae ZP sg 0 Tryz.f44 @zhd 12:=zaq ztm good Tryz.func44 z8b z7j (all_cons ztw zaa) (fun a=>by kernel_rfl) (by kernel_rfl) (fun _ _=>rfl)
theorem zarn:SG ZP sg 44 @zafa:=conD (loops:=zhd) good Tryz.func44 z8b (by kernel_rfl) z7j (all_cons zalg (all_cons z9q (all_cons ztw zaa))) (fun a=>by kernel_rfl)
theorem zajg:SG ZP sg 91 @z48:=conE good Tryz.func91 (by kernel_rfl) (by kernel_rfl) cg0 (fun a=>by kernel_rfl)
theorem zask:fnB ZP 45 Tryz.f45 [4]=true:=by kernel_rfl
theorem zab2:CG ZP sg @z61:=(cgc zajg cg0)
theorem z9a:zae ZP sg 0 Tryz.f45 @zol 4:=zaq zs6 good Tryz.func45 zask zab2 zaa (fun a=>by kernel_rfl) (by kernel_rfl) (fun _ _=>rfl)
theorem zahi:SG ZP sg 45 @z3i:=conD (loops:=zol) good Tryz.func45 zask (by kernel_rfl) zab2 (all_cons z9a zaa) (fun a=>by kernel_rfl)
theorem zahr:SG ZP sg 151 @zana:=conE good Tryz.func151 (by kernel_rfl) (by kernel_rfl) cg0 (fun a=>by kernel_rfl)
theorem zah7:SG ZP sg 92 @z30:=conE good Tryz.func92 (by kernel_rfl) (by kernel_rfl) (cgc zahr cg0) (fun a=>by kernel_rfl)
theorem zakn:fnB ZP 46 Tryz.f46 [4,9]=true:=by kernel_rfl
theorem zago:CG ZP sg @zaf7:=(cgc zah7 cg0)
theorem z1r:zae ZP sg 0 Tryz.f46 @zl7 9:=zaq z06 good Tryz.func46 zakn zago zaa (fun a=>by kernel_rfl) (by kernel_rfl) (fun _ _=>rfl)
theorem zalf:zae ZP sg 0 Tryz.f46 @zl7 4:=zaq z05 good Tryz.func46 zakn zago (all_cons z1r zaa) (fun a=>by kernel_rfl) (by kernel_rfl) (fun _ _=>rfl)
theorem zarm:SG ZP sg 46 @zae9:=conD (loops:=zl7) good Tryz.func46 zakn (by kernel_rfl) zago (all_cons zalf (all_cons z1r zaa)) (fun a=>by kernel_rfl)
theorem zako:fnB ZP 47 Tryz.f47 [6,11]=true:=by kernel_rfl
theorem zagq:CG ZP sg @zagh:=cg0
theorem zalq:zae ZP sg 0 Tryz.f47 @zl9 6:=zaq z1j good Tryz.func47 zako zagq zaa (fun a=>by kernel_rfl) (by kernel_rfl) (fun _ _=>rfl)
theorem z9v:zae ZP sg 0 Tryz.f47 @zl9 11:=zaq zts good Tryz.func47 zako zagq zaa (fun a=>by kernel_rfl) (by kernel_rfl) (fun _ _=>rfl)
theorem zaru:SG ZP sg 47 @zafe:=conD (loops:=zl9) good Tryz.func47 zako (by kernel_rfl) zagq (all_cons zalq (all_cons z9v zaa)) (fun a=>by kernel_rfl)
theorem zasw:fnB ZP 93 Tryz.f93 [2]=true:=by kernel_rfl
theorem zaby:CG ZP sg @z6x:=cg0
theorem z86:zae ZP sg 0 Tryz.f93 @zoh 2:=zaq zs1 good Tryz.func93 zasw zaby zaa (fun a=>by kernel_rfl) (by kernel_rfl) (fun _ _=>rfl)
theorem zahf:SG ZP sg 93 @zam0:=conD (loops:=zoh) good Tryz.func93 zasw (by kernel_rfl) zaby (all_cons z86 zaa) (fun a=>by kernel_rfl)
theorem zpu:SG ZP sg 48 @zml:=conE good Tryz.func48 (by kernel_rfl) (by kernel_rfl) (cgc zahf cg0) (fun a=>by kernel_rfl)
theorem zai1:SG ZP sg 152 @z4x:=conE good Tryz.func152 (by kernel_rfl) (by kernel_rfl) cg0 (fun a=>by kernel_rfl)
theorem zaj8:SG ZP sg 237 @zao9:=conE good Tryz.func237 (by kernel_rfl) (by kernel_rfl) cg0 (fun a=>by kernel_rfl)
theorem zai2:SG ZP sg 188 @zaoi:=conE good Tryz.func188 (by kernel_rfl) (by kernel_rfl) (cgc zaj8 cg0) (fun a=>by kernel_rfl)
theorem zaju:SG ZP sg 189 @zao0:=conE good Tryz.func189 (by kernel_rfl) (by kernel_rfl) cg0 (fun a=>by kernel_rfl)
theorem zaij:SG ZP sg 238 @z4o:=conE good Tryz.func238 (by kernel_rfl) (by kernel_rfl) cg0 (fun a=>by kernel_rfl)
theorem zacr:fnB ZP 190 Tryz.f190 [3]=true:=by kernel_rfl
theorem zabo:CG ZP sg @z6n:=(cgc zaij cg0)
theorem z8w:zae ZP sg 0 Tryz.f190 @zn7 3:=zaq zsr good Tryz.func190 zacr zabo zaa (fun a=>by kernel_rfl) (by kernel_rfl) (fun _ _=>rfl)
theorem zag8:SG ZP sg 190 @zamw:=conD (loops:=zn7) good Tryz.func190 zacr (by kernel_rfl) zabo (all_cons z8w zaa) (fun a=>by kernel_rfl)
theorem zaic:SG ZP sg 191 @zanr:=conE good Tryz.func191 (by kernel_rfl) (by kernel_rfl) cg0 (fun a=>by kernel_rfl)
theorem zakd:SG ZP sg 192 @zape:=conE good Tryz.func192 (by kernel_rfl) (by kernel_rfl) cg0 (fun a=>by kernel_rfl)
theorem zaik:SG ZP sg 124 @z4p:=conE good Tryz.func124 (by kernel_rfl) (by kernel_rfl) (cgc zai2 (cgc zaju (cgc zag8 (cgc zaic (cgc zakd cg0))))) (fun a=>by kernel_rfl)
theorem zasx:fnB ZP 94 Tryz.f94 [5]=true:=by kernel_rfl
theorem zabp:CG ZP sg @z6o:=(cgc zaik (cgc zai1 cg0))
theorem z8x:zae ZP sg 0 Tryz.f94 @zn8 5:=zaq zss good Tryz.func94 zasx zabp zaa (fun a=>by kernel_rfl) (by kernel_rfl) (fun _ _=>rfl)
theorem zag9:SG ZP sg 94 @z3a:=conD (loops:=zn8) good Tryz.func94 zasx (by kernel_rfl) zabp (all_cons z8x zaa) (fun a=>by kernel_rfl)
theorem zasm:fnB ZP 73 Tryz.f73 [2]=true:=by kernel_rfl
theorem zaq7:CG ZP sg @zage:=cg0
theorem zaln:zae ZP sg 0 Tryz.f73 @zt6 2:=zaq z1g good Tryz.func73 zasm zaq7 zaa (fun a=>by kernel_rfl) (by kernel_rfl) (fun _ _=>rfl)
theorem zzw:SG ZP sg 73 @zuh:=conD (loops:=zt6) good Tryz.func73 zasm (by kernel_rfl) zaq7 (all_cons zaln zaa) (fun a=>by kernel_rfl)
theorem zakp:fnB ZP 49 Tryz.f49 [4,15]=true:=by kernel_rfl
theorem zags:CG ZP sg @zagj:=(cgc zzw (cgc zym (cgc zag9 cg0)))
theorem zals:zae ZP sg 0 Tryz.f49 @zmb 4:=zaq z1l good Tryz.func49 zakp zags zaa (fun a=>by kernel_rfl) (by kernel_rfl) (fun _ _=>rfl)
theorem z9x:zae ZP sg 0 Tryz.f49 @zmb 15:=zaq ztu good Tryz.func49 zakp zags zaa (fun a=>by kernel_rfl) (by kernel_rfl) (fun _ _=>rfl)
theorem zarw:SG ZP sg 49 @zafg:=conD (loops:=zmb) good Tryz.func49 zakp (by kernel_rfl) zags (all_cons zals (all_cons z9x zaa)) (fun a=>by kernel_rfl)
theorem zajp:SG ZP sg 95 @z5a:=conE good Tryz.func95 (by kernel_rfl) (by kernel_rfl) cg0 (fun a=>by kernel_rfl)
theorem zacp:fnB ZP 125 Tryz.f125 [2]=true:=by kernel_rfl
theorem zabq:CG ZP sg @z6p:=cg0
theorem z8y:zae ZP sg 0 Tryz.f125 @zn9 2:=zaq zst good Tryz.func125 zacp zabq zaa (fun a=>by kernel_rfl) (by kernel_rfl) (fun _ _=>rfl)
theorem zaha:SG ZP sg 125 @zamx:=conD (loops:=zn9) good Tryz.func125 zacp (by kernel_rfl) zabq (all_cons z8y zaa) (fun a=>by kernel_rfl)
theorem zai3:SG ZP sg 96 @z4y:=conE good Tryz.func96 (by kernel_rfl) (by kernel_rfl) (cgc zaha cg0) (fun a=>by kernel_rfl)
theorem zakq:fnB ZP 50 Tryz.f50 [2,10]=true:=by kernel_rfl
theorem zagr:CG ZP sg @zagi:=(cgc zpu (cgc zzw (cgc zajp (cgc zai3 cg0))))
theorem zalr:zae ZP sg 0 Tryz.f50 @zma 2:=zaq z1k good Tryz.func50 zakq zagr zaa (fun a=>by kernel_rfl) (by kernel_rfl) (fun _ _=>rfl)
theorem z9w:zae ZP sg 0 Tryz.f50 @zma 10:=zaq ztt good Tryz.func50 zakq zagr zaa (fun a=>by kernel_rfl) (by kernel_rfl) (fun _ _=>rfl)
theorem zarv:SG ZP sg 50 @zaff:=conD (loops:=zma) good Tryz.func50 zakq (by kernel_rfl) zagr (all_cons zalr (all_cons z9w zaa)) (fun a=>by kernel_rfl)
theorem zasy:fnB ZP 97 Tryz.f97 [2]=true:=by kernel_rfl
theorem zabw:CG ZP sg @z6v:=cg0
theorem z84:zae ZP sg 0 Tryz.f97 @zof 2:=zaq zsz good Tryz.func97 zasy zabw zaa (fun a=>by kernel_rfl) (by kernel_rfl) (fun _ _=>rfl)
theorem zahe:SG ZP sg 97 @z3f:=conD (loops:=zof) good Tryz.func97 zasy (by kernel_rfl) zabw (all_cons z84 zaa) (fun a=>by kernel_rfl)
theorem zakr:fnB ZP 51 Tryz.f51 [2,18]=true:=by kernel_rfl
theorem zagt:CG ZP sg @zagk:=(cgc zpu (cgc zzw (cgc zahe cg0)))
theorem zalt:zae ZP sg 0 Tryz.f51 @zmc 2:=zaq z1m good Tryz.func51 zakr zagt zaa (fun a=>by kernel_rfl) (by kernel_rfl) (fun _ _=>rfl)
theorem z9y:zae ZP sg 0 Tryz.f51 @zmc 18:=zaq ztv good Tryz.func51 zakr zagt zaa (fun a=>by kernel_rfl) (by kernel_rfl) (fun _ _=>rfl)
theorem zarx:SG ZP sg 51 @zafh:=conD (loops:=zmc) good Tryz.func51 zakr (by kernel_rfl) zagt (all_cons zalt (all_cons z9y zaa)) (fun a=>by kernel_rfl)
theorem zakl:fnB ZP 25 Tryz.f25 [6,11]=true:=by kernel_rfl
theorem zya:CG ZP sg @z6k:=(cgc zahd (cgc zahc (cgc zarn (cgc zahi (cgc zarm (cgc zaru (cgc zpu (cgc zarw (cgc zarv (cgc zarx cg0))))))))))
theorem z8t:zae ZP sg 0 Tryz.f25 @zid 6:=zaq zso good Tryz.func25 zakl zya zaa (fun a=>by kernel_rfl) (by kernel_rfl) (fun _ _=>rfl)
theorem z1p:zae ZP sg 0 Tryz.f25 @zid 11:=zaq znr good Tryz.func25 zakl zya zaa (fun a=>by kernel_rfl) (by kernel_rfl) (fun _ _=>rfl)
theorem zag6:SG ZP sg 25 @zamv:=conD (loops:=zid) good Tryz.func25 zakl (by kernel_rfl) zya (all_cons z8t (all_cons z1p zaa)) (fun a=>by kernel_rfl)
theorem zake:SG ZP sg 9 @zapf:=conE good Tryz.func9 (by kernel_rfl) (by kernel_rfl) (cgc zarc (cgc zag6 cg0)) (fun a=>by kernel_rfl)
theorem zais:SG ZP sg 98 @zan6:=conE good Tryz.func98 (by kernel_rfl) (by kernel_rfl) cg0 (fun a=>by kernel_rfl)
theorem zaii:SG ZP sg 127 @z4n:=conE good Tryz.func127 (by kernel_rfl) (by kernel_rfl) cg0 (fun a=>by kernel_rfl)
theorem znh:fnB ZP 63 Tryz.f63 [2]=true:=by kernel_rfl
theorem zaq1:CG ZP sg @zafz:=(cgc zaii cg0)
theorem zak5:zae ZP sg 0 Tryz.f63 @zt0 2:=zaq z0u good Tryz.func63 znh zaq1 zaa (fun a=>by kernel_rfl) (by kernel_rfl) (fun _ _=>rfl)
theorem zare:SG ZP sg 63 @zauv:=conD (loops:=zt0) good Tryz.func63 znh (by kernel_rfl) zaq1 (all_cons zak5 zaa) (fun a=>by kernel_rfl)
theorem zhw:SG ZP sg 77 @zmk:=conE good Tryz.func77 (by kernel_rfl) (by kernel_rfl) (cgc zare cg0) (fun a=>by kernel_rfl)
theorem zzn:SG ZP sg 100 @z42:=conE good Tryz.func100 (by kernel_rfl) (by kernel_rfl) cg0 (fun a=>by kernel_rfl)
theorem zaig:SG ZP sg 101 @z4l:=conE good Tryz.func101 (by kernel_rfl) (by kernel_rfl) cg0 (fun a=>by kernel_rfl)
theorem zr2:CG ZP sg @zu2:=(cgc zaig cg0)
theorem zv0:zae ZP sg 0 Tryz.f63 @zij 2:=zaq zj9 good Tryz.func63 znh zr2 zaa (fun a=>by kernel_rfl) (by kernel_rfl) (fun _ _=>rfl)
theorem zy3:SG ZP sg 63 @z4a:=conD (loops:=zij) good Tryz.func63 znh (by kernel_rfl) zr2 (all_cons zv0 zaa) (fun a=>by kernel_rfl)
theorem zy7:SG ZP sg 103 @zant:=conS (loops:=l0) (ids:=[]) good Tryz.func103 (by kernel_rfl) (by kernel_rfl) cg0 zaa (fun a=>by kernel_rfl) (by kernel_rfl)
theorem zlh:SG ZP sg 36 @z3l:=conE good Tryz.func36 (by kernel_rfl) (by kernel_rfl) cg0 (fun a=>by kernel_rfl)
theorem zajc:SG ZP sg 76 @z41:=conE good Tryz.func76 (by kernel_rfl) (by kernel_rfl) (cgc zlh (cgc (sgP zy2) cg0)) (fun a=>by kernel_rfl)
theorem zli:SG ZP sg 128 @z3w:=conE good Tryz.func128 (by kernel_rfl) (by kernel_rfl) cg0 (fun a=>by kernel_rfl)
theorem zajm:SG ZP sg 194 @zaos:=conE good Tryz.func194 (by kernel_rfl) (by kernel_rfl) (cgc zli cg0) (fun a=>by kernel_rfl)
theorem zajk:SG ZP sg 195 @zaoq:=conE good Tryz.func195 (by kernel_rfl) (by kernel_rfl) (cgc zli cg0) (fun a=>by kernel_rfl)
theorem zzc:SG ZP sg 197 @zanu:=conE good Tryz.func197 (by kernel_rfl) (by kernel_rfl) cg0 (fun a=>by kernel_rfl)
theorem zaj9:SG ZP sg 196 @zapa:=conE good Tryz.func196 (by kernel_rfl) (by kernel_rfl) (cgc zzc cg0) (fun a=>by kernel_rfl)
theorem zzo:SG ZP sg 129 @z43:=conE good Tryz.func129 (by kernel_rfl) (by kernel_rfl) (cgc zli (cgc zajm (cgc zajk (cgc zaj9 (cgc zzc cg0))))) (fun a=>by kernel_rfl)
theorem zasn:fnB ZP 78 Tryz.f78 [5]=true:=by kernel_rfl
theorem zacb:CG ZP sg @z7b:=(cgc zzn (cgc zli (cgc zzo cg0)))
theorem z9j:zae ZP sg 0 Tryz.f78 @zou 5:=zaq ztf good Tryz.func78 zasn zacb zaa (fun a=>by kernel_rfl) (by kernel_rfl) (fun _ _=>rfl)
theorem zahv:SG ZP sg 78 @z3v:=conD (loops:=zou) good Tryz.func78 zasn (by kernel_rfl) zacb (all_cons z9j zaa) (fun a=>by kernel_rfl)
theorem z78:fnB ZP 37 Tryz.f37 [4,10,16]=true:=by kernel_rfl
theorem z7m:CG ZP sg @zagd:=(cgc zajc (cgc zhw (cgc zahv cg0)))
theorem zalm:zae ZP sg 0 Tryz.f37 @zhg 4:=zaq z1f good Tryz.func37 z78 z7m zaa (fun a=>by kernel_rfl) (by kernel_rfl) (fun _ _=>rfl)
theorem z9t:zae ZP sg 0 Tryz.f37 @zhg 10:=zaq ztq good Tryz.func37 z78 z7m zaa (fun a=>by kernel_rfl) (by kernel_rfl) (fun _ _=>rfl)
theorem z9u:zae ZP sg 0 Tryz.f37 @zhg 16:=zaq ztr good Tryz.func37 z78 z7m zaa (fun a=>by kernel_rfl) (by kernel_rfl) (fun _ _=>rfl)
theorem zars:SG ZP sg 37 @zau2:=conD (loops:=zhg) good Tryz.func37 z78 (by kernel_rfl) z7m (all_cons zalm (all_cons z9t (all_cons z9u zaa))) (fun a=>by kernel_rfl)
theorem zah6:SG ZP sg 130 @z3y:=conE good Tryz.func130 (by kernel_rfl) (by kernel_rfl) (cgc (sgP zy2) (cgc (sgP zaiq) cg0)) (fun a=>by kernel_rfl)
theorem zaso:fnB ZP 79 Tryz.f79 [5]=true:=by kernel_rfl
theorem zabg:CG ZP sg @z6d:=(cgc zah6 cg0)
theorem z8l:zae ZP sg 0 Tryz.f79 @znz 5:=zaq zsg good Tryz.func79 zaso zabg zaa (fun a=>by kernel_rfl) (by kernel_rfl) (fun _ _=>rfl)
theorem zyj:SG ZP sg 79 @z23:=conD (loops:=znz) good Tryz.func79 zaso (by kernel_rfl) zabg (all_cons z8l zaa) (fun a=>by kernel_rfl)
theorem zaj0:SG ZP sg 131 @z5d:=conE good Tryz.func131 (by kernel_rfl) (by kernel_rfl) cg0 (fun a=>by kernel_rfl)
theorem zajx:SG ZP sg 132 @z5c:=conE good Tryz.func132 (by kernel_rfl) (by kernel_rfl) cg0 (fun a=>by kernel_rfl)
theorem zasp:fnB ZP 80 Tryz.f80 [4]=true:=by kernel_rfl
theorem zabi:CG ZP sg @z6f:=(cgc zaj0 (cgc zajx cg0))
theorem z8n:zae ZP sg 0 Tryz.f80 @zn1 4:=zaq zsi good Tryz.func80 zasp zabi zaa (fun a=>by kernel_rfl) (by kernel_rfl) (fun _ _=>rfl)
theorem zyk:SG ZP sg 80 @z26:=conD (loops:=zn1) good Tryz.func80 zasp (by kernel_rfl) zabi (all_cons z8n zaa) (fun a=>by kernel_rfl)
theorem zpt:SG ZP sg 199 @zam5:=conE good Tryz.func199 (by kernel_rfl) (by kernel_rfl) cg0 (fun a=>by kernel_rfl)
theorem zajv:SG ZP sg 200 @zao1:=conE good Tryz.func200 (by kernel_rfl) (by kernel_rfl) (cgc zpt cg0) (fun a=>by kernel_rfl)
theorem zaje:SG ZP sg 133 @z44:=conE good Tryz.func133 (by kernel_rfl) (by kernel_rfl) (cgc zpt (cgc zajv cg0)) (fun a=>by kernel_rfl)
theorem zaid:SG ZP sg 135 @z4d:=conE good Tryz.func135 (by kernel_rfl) (by kernel_rfl) cg0 (fun a=>by kernel_rfl)
theorem zj0:fnB ZP 134 Tryz.f134 [2,5]=true:=by kernel_rfl
theorem zagm:CG ZP sg @zaf0:=(cgc zaid cg0)
theorem z1q:zae ZP sg 0 Tryz.f134 @zl5 5:=zaq z0w good Tryz.func134 zj0 zagm zaa (fun a=>by kernel_rfl) (by kernel_rfl) (fun _ _=>rfl)
theorem zak6:zae ZP sg 0 Tryz.f134 @zl5 2:=zaq z0v good Tryz.func134 zj0 zagm (all_cons z1q zaa) (fun a=>by kernel_rfl) (by kernel_rfl) (fun _ _=>rfl)
theorem zarf:SG ZP sg 134 @zae5:=conD (loops:=zl5) good Tryz.func134 zj0 (by kernel_rfl) zagm (all_cons zak6 (all_cons z1q zaa)) (fun a=>by kernel_rfl)
theorem zaiz:SG ZP sg 136 @z4v:=conE good Tryz.func136 (by kernel_rfl) (by kernel_rfl) cg0 (fun a=>by kernel_rfl)
theorem zle:CG ZP sg @zu5:=(cgc zaiz cg0)
theorem zkh:zae ZP sg 0 Tryz.f134 @zfb 5:=zaq zkd good Tryz.func134 zj0 zle zaa (fun a=>by kernel_rfl) (by kernel_rfl) (fun _ _=>rfl)
theorem zv3:zae ZP sg 0 Tryz.f134 @zfb 2:=zaq zkc good Tryz.func134 zj0 zle (all_cons zkh zaa) (fun a=>by kernel_rfl) (by kernel_rfl) (fun _ _=>rfl)
theorem zzi:SG ZP sg 134 @zo7:=conD (loops:=zfb) good Tryz.func134 zj0 (by kernel_rfl) zle (all_cons zv3 (all_cons zkh zaa)) (fun a=>by kernel_rfl)
theorem zasq:fnB ZP 81 Tryz.f81 [4]=true:=by kernel_rfl
theorem zaq5:CG ZP sg @zaf6:=(cgc zaje (cgc (sgi zarf (sgi zzi sg0)) cg0))
theorem zale:zae ZP sg 0 Tryz.f81 @zt4 4:=zaq z04 good Tryz.func81 zasq zaq5 zaa (fun a=>by kernel_rfl) (by kernel_rfl) (fun _ _=>rfl)
theorem zarl:SG ZP sg 81 @zae8:=conD (loops:=zt4) good Tryz.func81 zasq (by kernel_rfl) zaq5 (all_cons zale zaa) (fun a=>by kernel_rfl)
theorem zaj6:SG ZP sg 201 @zao8:=conE good Tryz.func201 (by kernel_rfl) (by kernel_rfl) cg0 (fun a=>by kernel_rfl)
theorem zzg:SG ZP sg 202 @zan5:=conE good Tryz.func202 (by kernel_rfl) (by kernel_rfl) cg0 (fun a=>by kernel_rfl)
theorem zahm:SG ZP sg 137 @z3m:=conE good Tryz.func137 (by kernel_rfl) (by kernel_rfl) (cgc zaj6 (cgc zzg cg0)) (fun a=>by kernel_rfl)
theorem zasr:fnB ZP 82 Tryz.f82 [4]=true:=by kernel_rfl
theorem zabj:CG ZP sg @z6g:=(cgc zahm cg0)
theorem z8o:zae ZP sg 0 Tryz.f82 @zn2 4:=zaq zsj good Tryz.func82 zasr zabj zaa (fun a=>by kernel_rfl) (by kernel_rfl) (fun _ _=>rfl)
theorem zyl:SG ZP sg 82 @z27:=conD (loops:=zn2) good Tryz.func82 zasr (by kernel_rfl) zabj (all_cons z8o zaa) (fun a=>by kernel_rfl)
theorem zyz:SG ZP sg 203 @zanl:=conE good Tryz.func203 (by kernel_rfl) (by kernel_rfl) cg0 (fun a=>by kernel_rfl)
theorem zaj4:SG ZP sg 138 @z5g:=conE good Tryz.func138 (by kernel_rfl) (by kernel_rfl) (cgc zyz cg0) (fun a=>by kernel_rfl)
theorem zy8:SG ZP sg 139 @z4g:=conE good Tryz.func139 (by kernel_rfl) (by kernel_rfl) cg0 (fun a=>by kernel_rfl)
theorem zacs:fnB ZP 204 Tryz.f204 [2]=true:=by kernel_rfl
theorem zab4:CG ZP sg @z63:=(cgc zy8 cg0)
theorem z9c:zae ZP sg 0 Tryz.f204 @zon 2:=zaq zs8 good Tryz.func204 zacs zab4 zaa (fun a=>by kernel_rfl) (by kernel_rfl) (fun _ _=>rfl)
theorem zahk:SG ZP sg 204 @zam4:=conD (loops:=zon) good Tryz.func204 zacs (by kernel_rfl) zab4 (all_cons z9c zaa) (fun a=>by kernel_rfl)
theorem zaj1:SG ZP sg 140 @z5e:=conE good Tryz.func140 (by kernel_rfl) (by kernel_rfl) (cgc zy8 (cgc zahk cg0)) (fun a=>by kernel_rfl)
theorem zass:fnB ZP 83 Tryz.f83 [4]=true:=by kernel_rfl
theorem zaq9:CG ZP sg @zagg:=(cgc zaj4 (cgc zaj1 cg0))
theorem zalp:zae ZP sg 0 Tryz.f83 @zt8 4:=zaq z1i good Tryz.func83 zass zaq9 zaa (fun a=>by kernel_rfl) (by kernel_rfl) (fun _ _=>rfl)
theorem zart:SG ZP sg 83 @zafd:=conD (loops:=zt8) good Tryz.func83 zass (by kernel_rfl) zaq9 (all_cons zalp zaa) (fun a=>by kernel_rfl)
theorem zpy:SG ZP sg 143 @z3z:=conE good Tryz.func143 (by kernel_rfl) (by kernel_rfl) cg0 (fun a=>by kernel_rfl)
theorem zze:SG ZP sg 142 @z4q:=conE good Tryz.func142 (by kernel_rfl) (by kernel_rfl) (cgc zpy cg0) (fun a=>by kernel_rfl)
theorem zact:fnB ZP 205 Tryz.f205 [2]=true:=by kernel_rfl
theorem zabe:CG ZP sg @z6b:=(cgc zze cg0)
theorem z8j:zae ZP sg 0 Tryz.f205 @znx 2:=zaq zse good Tryz.func205 zact zabe zaa (fun a=>by kernel_rfl) (by kernel_rfl) (fun _ _=>rfl)
theorem zagz:SG ZP sg 205 @zamn:=conD (loops:=znx) good Tryz.func205 zact (by kernel_rfl) zabe (all_cons z8j zaa) (fun a=>by kernel_rfl)
theorem zaj2:SG ZP sg 141 @z5f:=conE good Tryz.func141 (by kernel_rfl) (by kernel_rfl) (cgc zze (cgc zagz cg0)) (fun a=>by kernel_rfl)
theorem zast:fnB ZP 84 Tryz.f84 [8]=true:=by kernel_rfl
theorem zaq8:CG ZP sg @zagf:=(cgc zaj2 cg0)
theorem zalo:zae ZP sg 0 Tryz.f84 @zt7 8:=zaq z1h good Tryz.func84 zast zaq8 zaa (fun a=>by kernel_rfl) (by kernel_rfl) (fun _ _=>rfl)
theorem zack:SG ZP sg 84 @zafc:=conD (loops:=zt7) good Tryz.func84 zast (by kernel_rfl) zaq8 (all_cons zalo zaa) (fun a=>by kernel_rfl)
theorem z79:fnB ZP 38 Tryz.f38 [4,12,18]=true:=by kernel_rfl
theorem z7l:CG ZP sg @zagc:=(cgc zlh (cgc zyj (cgc zyk (cgc zarl (cgc zyl (cgc zart (cgc zack cg0)))))))
theorem zall:zae ZP sg 0 Tryz.f38 @zhf 4:=zaq z1e good Tryz.func38 z79 z7l zaa (fun a=>by kernel_rfl) (by kernel_rfl) (fun _ _=>rfl)
theorem z9r:zae ZP sg 0 Tryz.f38 @zhf 12:=zaq zto good Tryz.func38 z79 z7l zaa (fun a=>by kernel_rfl) (by kernel_rfl) (fun _ _=>rfl)
theorem z9s:zae ZP sg 0 Tryz.f38 @zhf 18:=zaq ztp good Tryz.func38 z79 z7l zaa (fun a=>by kernel_rfl) (by kernel_rfl) (fun _ _=>rfl)
theorem zarr:SG ZP sg 38 @zau1:=conD (loops:=zhf) good Tryz.func38 z79 (by kernel_rfl) z7l (all_cons zall (all_cons z9r (all_cons z9s zaa))) (fun a=>by kernel_rfl)
theorem zaim:SG ZP sg 207 @z4s:=conE good Tryz.func207 (by kernel_rfl) (by kernel_rfl) cg0 (fun a=>by kernel_rfl)
theorem zsb:fnB ZP 206 Tryz.f206 [2]=true:=by kernel_rfl
theorem zaq6:CG ZP sg @zaf9:=(cgc zaim cg0)
theorem zalh:zae ZP sg 0 Tryz.f206 @zt5 2:=zaq z08 good Tryz.func206 zsb zaq6 zaa (fun a=>by kernel_rfl) (by kernel_rfl) (fun _ _=>rfl)
theorem zaro:SG ZP sg 206 @zauz:=conD (loops:=zt5) good Tryz.func206 zsb (by kernel_rfl) zaq6 (all_cons zalh zaa) (fun a=>by kernel_rfl)
theorem zy0:SG ZP sg 144 @zanm:=conE good Tryz.func144 (by kernel_rfl) (by kernel_rfl) (cgc zaro cg0) (fun a=>by kernel_rfl)
theorem zp4:SG ZP sg 86 @zaoh:=conE good Tryz.func86 (by kernel_rfl) (by kernel_rfl) (cgc zy0 cg0) (fun a=>by kernel_rfl)
theorem zahn:SG ZP sg 85 @z3n:=conE good Tryz.func85 (by kernel_rfl) (by kernel_rfl) (cgc zp4 cg0) (fun a=>by kernel_rfl)
theorem z8a:fnB ZP 39 Tryz.f39 [3,9,15]=true:=by kernel_rfl
theorem z7i:CG ZP sg @zaf1:=(cgc zhw (cgc zahn cg0))
theorem zak7:zae ZP sg 0 Tryz.f39 @zhc 3:=zaq z0x good Tryz.func39 z8a z7i zaa (fun a=>by kernel_rfl) (by kernel_rfl) (fun _ _=>rfl)
theorem zak8:zae ZP sg 0 Tryz.f39 @zhc 9:=zaq z0y good Tryz.func39 z8a z7i zaa (fun a=>by kernel_rfl) (by kernel_rfl) (fun _ _=>rfl)
theorem z9p:zae ZP sg 0 Tryz.f39 @zhc 15:=zaq ztl good Tryz.func39 z8a z7i zaa (fun a=>by kernel_rfl) (by kernel_rfl) (fun _ _=>rfl)
theorem zarh:SG ZP sg 39 @zauw:=conD (loops:=zhc) good Tryz.func39 z8a (by kernel_rfl) z7i (all_cons zak7 (all_cons zak8 (all_cons z9p zaa))) (fun a=>by kernel_rfl)
theorem zpq:SG ZP sg 122 @zamz:=conE good Tryz.func122 (by kernel_rfl) (by kernel_rfl) cg0 (fun a=>by kernel_rfl)
theorem zyr:SG ZP sg 186 @z3o:=conE good Tryz.func186 (by kernel_rfl) (by kernel_rfl) cg0 (fun a=>by kernel_rfl)
theorem zsa:fnB ZP 185 Tryz.f185 [2]=true:=by kernel_rfl
theorem zaq4:CG ZP sg @zaf4:=(cgc zyr cg0)
theorem zalb:zae ZP sg 0 Tryz.f185 @zt3 2:=zaq z01 good Tryz.func185 zsa zaq4 zaa (fun a=>by kernel_rfl) (by kernel_rfl) (fun _ _=>rfl)
theorem zarj:SG ZP sg 185 @zaux:=conD (loops:=zt3) good Tryz.func185 zsa (by kernel_rfl) zaq4 (all_cons zalb zaa) (fun a=>by kernel_rfl)
theorem zpx:SG ZP sg 121 @zanq:=conE good Tryz.func121 (by kernel_rfl) (by kernel_rfl) (cgc zarj (cgc zyr cg0)) (fun a=>by kernel_rfl)
theorem zzh:SG ZP sg 69 @z4u:=conE good Tryz.func69 (by kernel_rfl) (by kernel_rfl) (cgc zpx (cgc zpq cg0)) (fun a=>by kernel_rfl)
theorem zash:fnB ZP 40 Tryz.f40 [2]=true:=by kernel_rfl
theorem zacc:CG ZP sg @z7c:=(cgc zzh cg0)
theorem z9k:zae ZP sg 0 Tryz.f40 @zov 2:=zaq ztg good Tryz.func40 zash zacc zaa (fun a=>by kernel_rfl) (by kernel_rfl) (fun _ _=>rfl)
theorem zahw:SG ZP sg 40 @zanf:=conD (loops:=zov) good Tryz.func40 zash (by kernel_rfl) zacc (all_cons z9k zaa) (fun a=>by kernel_rfl)
theorem zaih:SG ZP sg 145 @z4m:=conE good Tryz.func145 (by kernel_rfl) (by kernel_rfl) cg0 (fun a=>by kernel_rfl)
theorem zee:fnB ZP 110 Tryz.f110 [2]=true:=by kernel_rfl
theorem zaq0:CG ZP sg @zafy:=(cgc zaih cg0)
theorem zak4:zae ZP sg 0 Tryz.f110 @ztz 2:=zaq z0t good Tryz.func110 zee zaq0 zaa (fun a=>by kernel_rfl) (by kernel_rfl) (fun _ _=>rfl)
theorem zard:SG ZP sg 110 @zauu:=conD (loops:=ztz) good Tryz.func110 zee (by kernel_rfl) zaq0 (all_cons zak4 zaa) (fun a=>by kernel_rfl)
theorem zpo:SG ZP sg 87 @z24:=conE good Tryz.func87 (by kernel_rfl) (by kernel_rfl) (cgc zard cg0) (fun a=>by kernel_rfl)
theorem zakm:fnB ZP 41 Tryz.f41 [2,16]=true:=by kernel_rfl
theorem zagl:CG ZP sg @zafw:=(cgc zhw (cgc zpo cg0))
theorem zak1:zae ZP sg 0 Tryz.f41 @zl4 2:=zaq z0q good Tryz.func41 zakm zagl zaa (fun a=>by kernel_rfl) (by kernel_rfl) (fun _ _=>rfl)
theorem z8i:zae ZP sg 0 Tryz.f41 @zl4 16:=zaq zsd good Tryz.func41 zakm zagl zaa (fun a=>by kernel_rfl) (by kernel_rfl) (fun _ _=>rfl)
theorem zarb:SG ZP sg 41 @zaus:=conD (loops:=zl4) good Tryz.func41 zakm (by kernel_rfl) zagl (all_cons zak1 (all_cons z8i zaa)) (fun a=>by kernel_rfl)
theorem zakc:SG ZP sg 23 @zapd:=conE good Tryz.func23 (by kernel_rfl) (by kernel_rfl) (cgc zlh (cgc zars (cgc zarr (cgc zarh (cgc zahw (cgc zarb cg0)))))) (fun a=>by kernel_rfl)
theorem zaci:SG ZP sg 53 @zae4:=conE good Tryz.func53 (by kernel_rfl) (by kernel_rfl) (cgc zakc (cgc zy3 (cgc zhw (cgc zzn (cgc (sgP zai8) (cgc zy7 cg0)))))) (fun a=>by kernel_rfl)
theorem zah9:SG ZP sg 208 @z33:=conE good Tryz.func208 (by kernel_rfl) (by kernel_rfl) cg0 (fun a=>by kernel_rfl)
theorem zr6:CG ZP sg @zu7:=(cgc zah9 cg0)
theorem zv5:zae ZP sg 0 Tryz.f206 @zin 2:=zaq zkf good Tryz.func206 zsb zr6 zaa (fun a=>by kernel_rfl) (by kernel_rfl) (fun _ _=>rfl)
theorem zzv:SG ZP sg 206 @z5l:=conD (loops:=zin) good Tryz.func206 zsb (by kernel_rfl) zr6 (all_cons zv5 zaa) (fun a=>by kernel_rfl)
theorem zai6:SG ZP sg 211 @zaok:=conS (loops:=l0) (ids:=[]) good Tryz.func211 (by kernel_rfl) (by kernel_rfl) cg0 zaa (fun a=>by kernel_rfl) (by kernel_rfl)
theorem zajb:SG ZP sg 209 @zaol:=conE good Tryz.func209 (by kernel_rfl) (by kernel_rfl) (cgc zyj cg0) (fun a=>by kernel_rfl)
theorem zah4:SG ZP sg 153 @zano:=conE good Tryz.func153 (by kernel_rfl) (by kernel_rfl) (cgc zy0 (cgc zzv (cgc zajb (cgc (sgP zai5) (cgc zai6 cg0))))) (fun a=>by kernel_rfl)
theorem zaiy:SG ZP sg 99 @zaoe:=conE good Tryz.func99 (by kernel_rfl) (by kernel_rfl) (cgc zah4 cg0) (fun a=>by kernel_rfl)
theorem zaia:SG ZP sg 52 @z34:=conE good Tryz.func52 (by kernel_rfl) (by kernel_rfl) (cgc zaci (cgc zais (cgc zaiy cg0))) (fun a=>by kernel_rfl)
theorem zlj:SG ZP sg 64 @zans:=conN (loops:=l0) (ids:=[]) good Tryz.func64 (by kernel_rfl) (by kernel_rfl) cg0 zaa (fun a=>by kernel_rfl)
theorem zfk:SG ZP sg 67 @zau3:=conM (loops:=l0) (ids:=[]) good Tryz.func67 (by kernel_rfl) (by kernel_rfl) cg0 zaa (fun a b=>by kernel_rfl)
theorem zlk:SG ZP sg 65 @zanx:=conM (loops:=l0) (ids:=[]) good Tryz.func65 (by kernel_rfl) (by kernel_rfl) (cgc zfk (cgc zhw cg0)) zaa (fun a b=>by kernel_rfl)
theorem zaiw:SG ZP sg 156 @zaob:=conS (loops:=l0) (ids:=[]) good Tryz.func156 (by kernel_rfl) (by kernel_rfl) cg0 zaa (fun a=>by kernel_rfl) (by kernel_rfl)
theorem ze9:SG ZP sg 104 @zam8:=conM (loops:=l0) (ids:=[]) good Tryz.func104 (by kernel_rfl) (by kernel_rfl) (cgc zfk (cgc zy7 (cgc zzo (cgc zaiw cg0)))) zaa (fun a b=>by kernel_rfl)
theorem zps:SG ZP sg 260 @zq7:=conE good Tryz.func260 (by kernel_rfl) (by kernel_rfl) cg0 (fun a=>by kernel_rfl)
theorem zz8:fnB ZP 275 Tryz.f275 [1,4]=true:=by kernel_rfl
theorem zagp:CG ZP sg @zagb:=(cgc zps cg0)
theorem z1t:zae ZP sg MA Tryz.f275 @zl8 4:=zaq z1d good Tryz.func275 zz8 zagp zaa (fun a=>by kernel_rfl) (by kernel_rfl) (fun _ _=>rfl)
theorem zalk:zae ZP sg MA Tryz.f275 @zl8 1:=zaq z1c good Tryz.func275 zz8 zagp (all_cons z1t zaa) (fun a=>by kernel_rfl) (by kernel_rfl) (fun _ _=>rfl)
theorem zarq:SG ZP sg 275 @zafb:=conI (loops:=zl8) good Tryz.func275 zz8 (by kernel_rfl) zagp (all_cons zalk (all_cons z1t zaa)) (fun a=>by kernel_rfl)
theorem zsc:fnB ZP 269 Tryz.f269 [2,7,9]=true:=by kernel_rfl
theorem z7k:CG ZP sg @zaga:=(cgc zps (cgc zarq (cgc (sgP zail) cg0)))
theorem zali:zae ZP sg MA Tryz.f269 @zhe 2:=zaq z09 good Tryz.func269 zsc z7k zaa (fun a=>by kernel_rfl) (by kernel_rfl) (fun _ _=>rfl)
theorem z1s:zae ZP sg MA Tryz.f269 @zhe 9:=zaq z1b good Tryz.func269 zsc z7k zaa (fun a=>by kernel_rfl) (by kernel_rfl) (fun _ _=>rfl)
theorem zalj:zae ZP sg MA Tryz.f269 @zhe 7:=zaq z1a good Tryz.func269 zsc z7k (all_cons z1s zaa) (fun a=>by kernel_rfl) (by kernel_rfl) (fun _ _=>rfl)
theorem zarp:SG ZP sg 269 @zau0:=conI (loops:=zhe) good Tryz.func269 zsc (by kernel_rfl) z7k (all_cons zali (all_cons zalj (all_cons z1s zaa))) (fun a=>by kernel_rfl)
theorem zai4:SG ZP sg 259 @z4z:=conI (loops:=l0) (ids:=[]) good Tryz.func259 (by kernel_rfl) (by kernel_rfl) (cgc zps (cgc zarp cg0)) zaa (fun a=>by kernel_rfl)
theorem zac2:fnB ZP 246 Tryz.f246 [3]=true:=by kernel_rfl
theorem zaq3:CG ZP sg @zaf3:=(cgc zai4 cg0)
theorem zala:zae ZP sg 0 Tryz.f246 @zt2 3:=zaq z00 good Tryz.func246 zac2 zaq3 zaa (fun a=>by kernel_rfl) (by kernel_rfl) (fun _ _=>rfl)
theorem zari:SG ZP sg 246 @zae7:=conD (loops:=zt2) good Tryz.func246 zac2 (by kernel_rfl) zaq3 (all_cons zala zaa) (fun a=>by kernel_rfl)
theorem zacu:fnB ZP 213 Tryz.f213 [3]=true:=by kernel_rfl
theorem zab9:CG ZP sg @z69:=(cgc zari cg0)
theorem z9h:zae ZP sg 0 Tryz.f213 @zos 3:=zaq ztd good Tryz.func213 zacu zab9 zaa (fun a=>by kernel_rfl) (by kernel_rfl) (fun _ _=>rfl)
theorem zaht:SG ZP sg 213 @zand:=conD (loops:=zos) good Tryz.func213 zacu (by kernel_rfl) zab9 (all_cons z9h zaa) (fun a=>by kernel_rfl)
theorem zzs:SG ZP sg 157 @zao2:=conE good Tryz.func157 (by kernel_rfl) (by kernel_rfl) (cgc zaht cg0) (fun a=>by kernel_rfl)
theorem zaip:SG ZP sg 247 @z4t:=conE good Tryz.func247 (by kernel_rfl) (by kernel_rfl) cg0 (fun a=>by kernel_rfl)
theorem zrx:CG ZP sg @zux:=(cgc zaip cg0)
theorem zvv:zae ZP sg 0 Tryz.f110 @zie 2:=zaq zj4 good Tryz.func110 zee zrx zaa (fun a=>by kernel_rfl) (by kernel_rfl) (fun _ _=>rfl)
theorem zyu:SG ZP sg 110 @z3p:=conD (loops:=zie) good Tryz.func110 zee (by kernel_rfl) zrx (all_cons zvv zaa) (fun a=>by kernel_rfl)
theorem zpw:SG ZP sg 214 @zanc:=conE good Tryz.func214 (by kernel_rfl) (by kernel_rfl) (cgc zyu cg0) (fun a=>by kernel_rfl)
theorem zzt:SG ZP sg 158 @zao5:=conE good Tryz.func158 (by kernel_rfl) (by kernel_rfl) (cgc zpw cg0) (fun a=>by kernel_rfl)
theorem zzd:SG ZP sg 68 @zany:=conM (loops:=l0) (ids:=[]) good Tryz.func68 (by kernel_rfl) (by kernel_rfl) (cgc ze9 cg0) zaa (fun a b=>by kernel_rfl)
theorem zajq:SG ZP sg 270 @zaox:=conE good Tryz.func270 (by kernel_rfl) (by kernel_rfl) cg0 (fun a=>by kernel_rfl)
theorem zahl:SG ZP sg 261 @z3k:=conE good Tryz.func261 (by kernel_rfl) (by kernel_rfl) (cgc zajq cg0) (fun a=>by kernel_rfl)
theorem zac5:fnB ZP 262 Tryz.f262 [3]=true:=by kernel_rfl
theorem zab6:CG ZP sg @z65:=cg0
theorem z9e:zae ZP sg 0 Tryz.f262 @zop 3:=zaq zta good Tryz.func262 zac5 zab6 zaa (fun a=>by kernel_rfl) (by kernel_rfl) (fun _ _=>rfl)
theorem zahp:SG ZP sg 262 @z3u:=conD (loops:=zop) good Tryz.func262 zac5 (by kernel_rfl) zab6 (all_cons z9e zaa) (fun a=>by kernel_rfl)
theorem zac3:fnB ZP 248 Tryz.f248 [3]=true:=by kernel_rfl
theorem zabh:CG ZP sg @z6e:=(cgc zahl (cgc zahp cg0))
theorem z8m:zae ZP sg 0 Tryz.f248 @zn0 3:=zaq zsh good Tryz.func248 zac3 zabh zaa (fun a=>by kernel_rfl) (by kernel_rfl) (fun _ _=>rfl)
theorem zag1:SG ZP sg 248 @zamq:=conD (loops:=zn0) good Tryz.func248 zac3 (by kernel_rfl) zabh (all_cons z8m zaa) (fun a=>by kernel_rfl)
theorem zaio:SG ZP sg 220 @zan3:=conE good Tryz.func220 (by kernel_rfl) (by kernel_rfl) (cgc zag1 cg0) (fun a=>by kernel_rfl)
theorem zp2:SG ZP sg 162 @zanz:=conE good Tryz.func162 (by kernel_rfl) (by kernel_rfl) (cgc zp4 (cgc zaio cg0)) (fun a=>by kernel_rfl)
theorem zp3:SG ZP sg 165 @zan0:=conE good Tryz.func165 (by kernel_rfl) (by kernel_rfl) (cgc zlh cg0) (fun a=>by kernel_rfl)
theorem zzk:SG ZP sg 117 @zaof:=conE good Tryz.func117 (by kernel_rfl) (by kernel_rfl) cg0 (fun a=>by kernel_rfl)
theorem zaj7:SG ZP sg 271 @z5i:=conE good Tryz.func271 (by kernel_rfl) (by kernel_rfl) (cgc zzk cg0) (fun a=>by kernel_rfl)
theorem zajn:SG ZP sg 272 @z49:=conE good Tryz.func272 (by kernel_rfl) (by kernel_rfl) cg0 (fun a=>by kernel_rfl)
theorem zac6:fnB ZP 263 Tryz.f263 [3]=true:=by kernel_rfl
theorem zabz:CG ZP sg @z6y:=(cgc zaj7 (cgc zajn cg0))
theorem z87:zae ZP sg 0 Tryz.f263 @zoi 3:=zaq zs3 good Tryz.func263 zac6 zabz zaa (fun a=>by kernel_rfl) (by kernel_rfl) (fun _ _=>rfl)
theorem zahg:SG ZP sg 263 @zam1:=conD (loops:=zoi) good Tryz.func263 zac6 (by kernel_rfl) zabz (all_cons z87 zaa) (fun a=>by kernel_rfl)
theorem zac4:fnB ZP 251 Tryz.f251 [3]=true:=by kernel_rfl
theorem zabv:CG ZP sg @z6u:=cg0
theorem z83:zae ZP sg 0 Tryz.f251 @zoe 3:=zaq zsy good Tryz.func251 zac4 zabv zaa (fun a=>by kernel_rfl) (by kernel_rfl) (fun _ _=>rfl)
theorem zyo:SG ZP sg 251 @z3e:=conD (loops:=zoe) good Tryz.func251 zac4 (by kernel_rfl) zabv (all_cons z83 zaa) (fun a=>by kernel_rfl)
theorem zakb:SG ZP sg 265 @zapc:=conE good Tryz.func265 (by kernel_rfl) (by kernel_rfl) cg0 (fun a=>by kernel_rfl)
theorem zpz:SG ZP sg 253 @z35:=conE good Tryz.func253 (by kernel_rfl) (by kernel_rfl) (cgc zakb cg0) (fun a=>by kernel_rfl)
theorem zyt:SG ZP sg 249 @zq8:=conE good Tryz.func249 (by kernel_rfl) (by kernel_rfl) (cgc zpy (cgc zyo (cgc zpz (cgc zahg cg0)))) (fun a=>by kernel_rfl)
theorem zacy:fnB ZP 221 Tryz.f221 [2]=true:=by kernel_rfl
theorem zab0:CG ZP sg @z6z:=(cgc zyt cg0)
theorem z88:zae ZP sg 0 Tryz.f221 @zoj 2:=zaq zs4 good Tryz.func221 zacy zab0 zaa (fun a=>by kernel_rfl) (by kernel_rfl) (fun _ _=>rfl)
theorem zyp:SG ZP sg 221 @z3h:=conD (loops:=zoj) good Tryz.func221 zacy (by kernel_rfl) zab0 (all_cons z88 zaa) (fun a=>by kernel_rfl)
theorem zac1:fnB ZP 231 Tryz.f231 [9]=true:=by kernel_rfl
theorem zabf:CG ZP sg @z6c:=(cgc zpy (cgc zyp cg0))
theorem z8k:zae ZP sg 0 Tryz.f231 @zny 9:=zaq zsf good Tryz.func231 zac1 zabf zaa (fun a=>by kernel_rfl) (by kernel_rfl) (fun _ _=>rfl)
theorem zag0:SG ZP sg 231 @zamp:=conD (loops:=zny) good Tryz.func231 zac1 (by kernel_rfl) zabf (all_cons z8k zaa) (fun a=>by kernel_rfl)
theorem zajl:SG ZP sg 174 @zaor:=conM (loops:=l0) (ids:=[]) good Tryz.func174 (by kernel_rfl) (by kernel_rfl) (cgc zfk (cgc zp3 (cgc zag0 cg0))) zaa (fun a b=>by kernel_rfl)
theorem zy9:SG ZP sg 215 @z4h:=conE good Tryz.func215 (by kernel_rfl) (by kernel_rfl) cg0 (fun a=>by kernel_rfl)
theorem zry:CG ZP sg @zuy:=(cgc zy9 cg0)
theorem zvw:zae ZP sg 0 Tryz.f110 @zif 2:=zaq zj5 good Tryz.func110 zee zry zaa (fun a=>by kernel_rfl) (by kernel_rfl) (fun _ _=>rfl)
theorem zyv:SG ZP sg 110 @z3q:=conD (loops:=zif) good Tryz.func110 zee (by kernel_rfl) zry (all_cons zvw zaa) (fun a=>by kernel_rfl)
theorem zah5:SG ZP sg 57 @zanp:=conE good Tryz.func57 (by kernel_rfl) (by kernel_rfl) (cgc zyv (cgc zy9 cg0)) (fun a=>by kernel_rfl)
theorem zzq:SG ZP sg 226 @zaou:=conS (loops:=l0) (ids:=[]) good Tryz.func226 (by kernel_rfl) (by kernel_rfl) cg0 zaa (fun a=>by kernel_rfl) (by kernel_rfl)
theorem zajy:SG ZP sg 216 @zao4:=conE good Tryz.func216 (by kernel_rfl) (by kernel_rfl) (cgc zzq cg0) (fun a=>by kernel_rfl)
theorem zyq:SG ZP sg 160 @zam3:=conE good Tryz.func160 (by kernel_rfl) (by kernel_rfl) (cgc zah5 (cgc zpt (cgc zpw (cgc zajy cg0)))) (fun a=>by kernel_rfl)
theorem zp1:SG ZP sg 159 @zanw:=conM (loops:=l0) (ids:=[]) good Tryz.func159 (by kernel_rfl) (by kernel_rfl) (cgc zfk cg0) zaa (fun a b=>by kernel_rfl)
theorem zzj:SG ZP sg 114 @zaoc:=conM (loops:=l0) (ids:=[]) good Tryz.func114 (by kernel_rfl) (by kernel_rfl) (cgc ze9 (cgc zp1 (cgc zyq (cgc zp2 (cgc zajl cg0))))) zaa (fun a b=>by kernel_rfl)
theorem zzr:SG ZP sg 105 @zaov:=conM (loops:=l0) (ids:=[]) good Tryz.func105 (by kernel_rfl) (by kernel_rfl) (cgc zzd (cgc ze9 (cgc zzj (cgc zzs (cgc zzt (cgc zp1 (cgc zyq cg0))))))) zaa (fun a b=>by kernel_rfl)
theorem zyi:SG ZP sg 72 @zamo:=conM (loops:=l0) (ids:=[]) good Tryz.func72 (by kernel_rfl) (by kernel_rfl) cg0 zaa (fun a b=>by kernel_rfl)
theorem zaif:SG ZP sg 54 @z4j:=conE good Tryz.func54 (by kernel_rfl) (by kernel_rfl) (cgc zlj (cgc zlk (cgc zyi (cgc ze9 (cgc zzr cg0))))) (fun a=>by kernel_rfl)
theorem zacw:fnB ZP 218 Tryz.f218 [3]=true:=by kernel_rfl
theorem zaca:CG ZP sg @z7a:=cg0
theorem z9i:zae ZP sg 0 Tryz.f218 @zot 3:=zaq zte good Tryz.func218 zacw zaca zaa (fun a=>by kernel_rfl) (by kernel_rfl) (fun _ _=>rfl)
theorem zahu:SG ZP sg 218 @zane:=conD (loops:=zot) good Tryz.func218 zacw (by kernel_rfl) zaca (all_cons z9i zaa) (fun a=>by kernel_rfl)
theorem zacq:fnB ZP 163 Tryz.f163 [3]=true:=by kernel_rfl
theorem zabn:CG ZP sg @z6m:=cg0
theorem z8v:zae ZP sg 0 Tryz.f163 @zn6 3:=zaq zsq good Tryz.func163 zacq zabn zaa (fun a=>by kernel_rfl) (by kernel_rfl) (fun _ _=>rfl)
theorem zyn:SG ZP sg 163 @z28:=conD (loops:=zn6) good Tryz.func163 zacq (by kernel_rfl) zabn (all_cons z8v zaa) (fun a=>by kernel_rfl)
theorem zacx:fnB ZP 219 Tryz.f219 [3]=true:=by kernel_rfl
theorem zabk:CG ZP sg @z6h:=(cgc zyn cg0)
theorem z8p:zae ZP sg 0 Tryz.f219 @zn3 3:=zaq zsk good Tryz.func219 zacx zabk zaa (fun a=>by kernel_rfl) (by kernel_rfl) (fun _ _=>rfl)
theorem zag2:SG ZP sg 219 @zamr:=conD (loops:=zn3) good Tryz.func219 zacx (by kernel_rfl) zabk (all_cons z8p zaa) (fun a=>by kernel_rfl)
theorem zacv:fnB ZP 217 Tryz.f217 [3]=true:=by kernel_rfl
theorem zab5:CG ZP sg @z64:=cg0
theorem z9d:zae ZP sg 0 Tryz.f217 @zoo 3:=zaq zs9 good Tryz.func217 zacv zab5 zaa (fun a=>by kernel_rfl) (by kernel_rfl) (fun _ _=>rfl)
theorem zaho:SG ZP sg 217 @zam7:=conD (loops:=zoo) good Tryz.func217 zacv (by kernel_rfl) zab5 (all_cons z9d zaa) (fun a=>by kernel_rfl)
theorem zaka:SG ZP sg 161 @zapb:=conE good Tryz.func161 (by kernel_rfl) (by kernel_rfl) (cgc zaho (cgc zahu (cgc zag2 cg0))) (fun a=>by kernel_rfl)
theorem zacz:fnB ZP 222 Tryz.f222 [2]=true:=by kernel_rfl
theorem zacd:CG ZP sg @z7d:=(cgc zyt cg0)
theorem z9l:zae ZP sg 0 Tryz.f222 @zow 2:=zaq zth good Tryz.func222 zacz zacd zaa (fun a=>by kernel_rfl) (by kernel_rfl) (fun _ _=>rfl)
theorem zahx:SG ZP sg 222 @zang:=conD (loops:=zow) good Tryz.func222 zacz (by kernel_rfl) zacd (all_cons z9l zaa) (fun a=>by kernel_rfl)
theorem zair:SG ZP sg 164 @zan4:=conE good Tryz.func164 (by kernel_rfl) (by kernel_rfl) (cgc zyz (cgc zyp (cgc zahx cg0))) (fun a=>by kernel_rfl)
theorem zajs:SG ZP sg 106 @zaoy:=conE good Tryz.func106 (by kernel_rfl) (by kernel_rfl) (cgc zzs (cgc zzt (cgc zaka (cgc zp2 (cgc zyn (cgc zair (cgc zp3 cg0))))))) (fun a=>by kernel_rfl)
theorem zzb:SG ZP sg 166 @z4k:=conE good Tryz.func166 (by kernel_rfl) (by kernel_rfl) cg0 (fun a=>by kernel_rfl)
theorem zr5:CG ZP sg @zu6:=(cgc zzb cg0)
theorem zv4:zae ZP sg 0 Tryz.f185 @zim 2:=zaq zke good Tryz.func185 zsa zr5 zaa (fun a=>by kernel_rfl) (by kernel_rfl) (fun _ _=>rfl)
theorem zzu:SG ZP sg 185 @z5k:=conD (loops:=zim) good Tryz.func185 zsa (by kernel_rfl) zr5 (all_cons zv4 zaa) (fun a=>by kernel_rfl)
theorem zvc:SG ZP sg 121 @zwz:=conE good Tryz.func121 (by kernel_rfl) (by kernel_rfl) (cgc zzb (cgc zzu cg0)) (fun a=>by kernel_rfl)
theorem zzp:SG ZP sg 169 @zaot:=conS (loops:=l0) (ids:=[]) good Tryz.func169 (by kernel_rfl) (by kernel_rfl) cg0 zaa (fun a=>by kernel_rfl) (by kernel_rfl)
theorem zain:SG ZP sg 167 @zan2:=conE good Tryz.func167 (by kernel_rfl) (by kernel_rfl) (cgc zyk cg0) (fun a=>by kernel_rfl)
theorem zah2:SG ZP sg 107 @zank:=conE good Tryz.func107 (by kernel_rfl) (by kernel_rfl) (cgc (sgi (ac:=zafm) zpx (sgi (ac:=zk6) zvc sg0)) (cgc zpq (cgc zain (cgc (sgP zai7) (cgc zzp cg0))))) (fun a=>by kernel_rfl)
theorem zp0:SG ZP sg 71 @zanv:=conM (loops:=l0) (ids:=[]) good Tryz.func71 (by kernel_rfl) (by kernel_rfl) (cgc zfk cg0) zaa (fun a b=>by kernel_rfl)
theorem zajt:SG ZP sg 170 @zaoz:=conE good Tryz.func170 (by kernel_rfl) (by kernel_rfl) (cgc zpw (cgc (sgP zaja) (cgc zzq cg0))) (fun a=>by kernel_rfl)
theorem zaj3:SG ZP sg 108 @zao7:=conM (loops:=l0) (ids:=[]) good Tryz.func108 (by kernel_rfl) (by kernel_rfl) (cgc zp1 (cgc zajt cg0)) zaa (fun a b=>by kernel_rfl)
theorem zys:SG ZP sg 109 @zam6:=conM (loops:=l0) (ids:=[]) good Tryz.func109 (by kernel_rfl) (by kernel_rfl) cg0 zaa (fun a b=>by kernel_rfl)
theorem zajw:SG ZP sg 112 @zao3:=conE good Tryz.func112 (by kernel_rfl) (by kernel_rfl) cg0 (fun a=>by kernel_rfl)
theorem zaib:SG ZP sg 111 @z38:=conE good Tryz.func111 (by kernel_rfl) (by kernel_rfl) (cgc zajw cg0) (fun a=>by kernel_rfl)
theorem zrz:CG ZP sg @zuz:=(cgc zaib cg0)
theorem zvx:zae ZP sg 0 Tryz.f110 @zig 2:=zaq zj6 good Tryz.func110 zee zrz zaa (fun a=>by kernel_rfl) (by kernel_rfl) (fun _ _=>rfl)
theorem zyw:SG ZP sg 110 @z3r:=conD (loops:=zig) good Tryz.func110 zee (by kernel_rfl) zrz (all_cons zvx zaa) (fun a=>by kernel_rfl)
theorem zah0:SG ZP sg 55 @z3x:=conE good Tryz.func55 (by kernel_rfl) (by kernel_rfl) (cgc zlj (cgc zlk (cgc zfk (cgc zp0 (cgc zp4 (cgc zpo (cgc ze9 (cgc zajs (cgc zah2 (cgc zaj3 (cgc zys (cgc zyw cg0)))))))))))) (fun a=>by kernel_rfl)
theorem zaji:SG ZP sg 123 @zaoo:=conE good Tryz.func123 (by kernel_rfl) (by kernel_rfl) (cgc zzp (cgc (sgP zai9) cg0)) (fun a=>by kernel_rfl)
theorem zzm:SG ZP sg 70 @zaoj:=conE good Tryz.func70 (by kernel_rfl) (by kernel_rfl) (cgc zpx (cgc zpq (cgc zaji cg0))) (fun a=>by kernel_rfl)
theorem zajr:SG ZP sg 252 @z5b:=conE good Tryz.func252 (by kernel_rfl) (by kernel_rfl) (cgc zpz cg0) (fun a=>by kernel_rfl)
theorem zz7:fnB ZP 227 Tryz.f227 [7,13]=true:=by kernel_rfl
theorem zx9:CG ZP sg @z6j:=(cgc zyo (cgc zajr (cgc zpz cg0)))
theorem z8s:zae ZP sg 0 Tryz.f227 @zic 7:=zaq zsn good Tryz.func227 zz7 zx9 zaa (fun a=>by kernel_rfl) (by kernel_rfl) (fun _ _=>rfl)
theorem z1o:zae ZP sg 0 Tryz.f227 @zic 13:=zaq znq good Tryz.func227 zz7 zx9 zaa (fun a=>by kernel_rfl) (by kernel_rfl) (fun _ _=>rfl)
theorem zag4:SG ZP sg 227 @zamt:=conD (loops:=zic) good Tryz.func227 zz7 (by kernel_rfl) zx9 (all_cons z8s (all_cons z1o zaa)) (fun a=>by kernel_rfl)
theorem zakf:SG ZP sg 171 @zapg:=conE good Tryz.func171 (by kernel_rfl) (by kernel_rfl) (cgc zack (cgc zzg (cgc zag4 cg0))) (fun a=>by kernel_rfl)
theorem zaiu:SG ZP sg 228 @zan9:=conE good Tryz.func228 (by kernel_rfl) (by kernel_rfl) (cgc zyl cg0) (fun a=>by kernel_rfl)
theorem zajj:SG ZP sg 172 @zaop:=conM (loops:=l0) (ids:=[]) good Tryz.func172 (by kernel_rfl) (by kernel_rfl) (cgc zfk (cgc zaiu cg0)) zaa (fun a b=>by kernel_rfl)
theorem zah8:SG ZP sg 230 @z32:=conE good Tryz.func230 (by kernel_rfl) (by kernel_rfl) cg0 (fun a=>by kernel_rfl)
theorem zac0:fnB ZP 229 Tryz.f229 [2]=true:=by kernel_rfl
theorem zab1:CG ZP sg @z60:=(cgc zah8 cg0)
theorem z89:zae ZP sg 0 Tryz.f229 @zok 2:=zaq zs5 good Tryz.func229 zac0 zab1 zaa (fun a=>by kernel_rfl) (by kernel_rfl) (fun _ _=>rfl)
theorem zahh:SG ZP sg 229 @zam2:=conD (loops:=zok) good Tryz.func229 zac0 (by kernel_rfl) zab1 (all_cons z89 zaa) (fun a=>by kernel_rfl)
theorem zah3:SG ZP sg 173 @zann:=conE good Tryz.func173 (by kernel_rfl) (by kernel_rfl) (cgc zahh cg0) (fun a=>by kernel_rfl)
theorem zajh:SG ZP sg 113 @zaon:=conM (loops:=l0) (ids:=[]) good Tryz.func113 (by kernel_rfl) (by kernel_rfl) (cgc zzm (cgc zp0 (cgc ze9 (cgc zp2 (cgc zp3 (cgc zakf (cgc zajj (cgc zah3 cg0)))))))) zaa (fun a b=>by kernel_rfl)
theorem zajf:SG ZP sg 56 @z47:=conE good Tryz.func56 (by kernel_rfl) (by kernel_rfl) (cgc zlj (cgc zlk (cgc zfk (cgc zpo (cgc ze9 (cgc zzr (cgc zys (cgc zajh (cgc zzj cg0))))))))) (fun a=>by kernel_rfl)
theorem zasf:fnB ZP 26 Tryz.f26 [6]=true:=by kernel_rfl
theorem zab7:CG ZP sg @z67:=(cgc zaia (cgc zaci (cgc zaif (cgc zah0 (cgc zajf cg0)))))
theorem z9f:zae ZP sg 0 Tryz.f26 @zoq 6:=zaq ztb good Tryz.func26 zasf zab7 zaa (fun a=>by kernel_rfl) (by kernel_rfl) (fun _ _=>rfl)
theorem zahq:SG ZP sg 26 @zam9:=conD (loops:=zoq) good Tryz.func26 zasf (by kernel_rfl) zab7 (all_cons z9f zaa) (fun a=>by kernel_rfl)
theorem zar2:fnB ZP 11 Tryz.f11 [3]=true:=by kernel_rfl
theorem zabx:CG ZP sg @z6w:=cg0
theorem z85:zae ZP sg 0 Tryz.f11 @zog 3:=zaq zs0 good Tryz.func11 zar2 zabx zaa (fun a=>by kernel_rfl) (by kernel_rfl) (fun _ _=>rfl)
theorem zpr:SG ZP sg 11 @z3g:=conD (loops:=zog) good Tryz.func11 zar2 (by kernel_rfl) zabx (all_cons z85 zaa) (fun a=>by kernel_rfl)
theorem zar5:fnB ZP 13 Tryz.f13 [3]=true:=by kernel_rfl
theorem zabr:CG ZP sg @z6q:=cg0
theorem z8z:zae ZP sg 0 Tryz.f13 @zoa 3:=zaq zsu good Tryz.func13 zar5 zabr zaa (fun a=>by kernel_rfl) (by kernel_rfl) (fun _ _=>rfl)
theorem zpp:SG ZP sg 13 @z3b:=conD (loops:=zoa) good Tryz.func13 zar5 (by kernel_rfl) zabr (all_cons z8z zaa) (fun a=>by kernel_rfl)
theorem zy6:SG ZP sg 58 @z4f:=conE good Tryz.func58 (by kernel_rfl) (by kernel_rfl) cg0 (fun a=>by kernel_rfl)
theorem zr0:CG ZP sg @zu0:=(cgc zy6 cg0)
theorem zvy:zae ZP sg 0 Tryz.f110 @zih 2:=zaq zj7 good Tryz.func110 zee zr0 zaa (fun a=>by kernel_rfl) (by kernel_rfl) (fun _ _=>rfl)
theorem zyx:SG ZP sg 110 @z3s:=conD (loops:=zih) good Tryz.func110 zee (by kernel_rfl) zr0 (all_cons zvy zaa) (fun a=>by kernel_rfl)
theorem zva:SG ZP sg 57 @zk0:=conE good Tryz.func57 (by kernel_rfl) (by kernel_rfl) (cgc zy6 (cgc zyx cg0)) (fun a=>by kernel_rfl)
theorem zajo:SG ZP sg 62 @zaow:=conE good Tryz.func62 (by kernel_rfl) (by kernel_rfl) (cgc zzk cg0) (fun a=>by kernel_rfl)
theorem zasl:fnB ZP 61 Tryz.f61 [3]=true:=by kernel_rfl
theorem zab8:CG ZP sg @z68:=cg0
theorem z9g:zae ZP sg 0 Tryz.f61 @zor 3:=zaq ztc good Tryz.func61 zasl zab8 zaa (fun a=>by kernel_rfl) (by kernel_rfl) (fun _ _=>rfl)
theorem zahs:SG ZP sg 61 @zanb:=conD (loops:=zor) good Tryz.func61 zasl (by kernel_rfl) zab8 (all_cons z9g zaa) (fun a=>by kernel_rfl)
theorem zavf:SG ZP sg 60 @zan8:=conE good Tryz.func60 (by kernel_rfl) (by kernel_rfl) (cgc zahs (cgc zajo cg0)) (fun a=>by kernel_rfl)
theorem zasg:fnB ZP 27 Tryz.f27 [3]=true:=by kernel_rfl
theorem zaq2:CG ZP sg @zaf2:=(cgc zpr (cgc zva (cgc (sgP zaiv) cg0)))
theorem zak9:zae ZP sg 0 Tryz.f27 @zt1 3:=zaq z0z good Tryz.func27 zasg zaq2 zaa (fun a=>by kernel_rfl) (by kernel_rfl) (fun _ _=>rfl)
theorem zacj:SG ZP sg 27 @z5j:=conD (loops:=zt1) good Tryz.func27 zasg (by kernel_rfl) zaq2 (all_cons zak9 zaa) (fun a=>by kernel_rfl)
theorem zar8:fnB ZP 16 Tryz.f16 [3]=true:=by kernel_rfl
theorem zabl:CG ZP sg @z6i:=(cgc zacj cg0)
theorem z8q:zae ZP sg 0 Tryz.f16 @zn4 3:=zaq zsl good Tryz.func16 zar8 zabl zaa (fun a=>by kernel_rfl) (by kernel_rfl) (fun _ _=>rfl)
theorem zag3:SG ZP sg 16 @zams:=conD (loops:=zn4) good Tryz.func16 zar8 (by kernel_rfl) zabl (all_cons z8q zaa) (fun a=>by kernel_rfl)
theorem zar7:fnB ZP 15 Tryz.f15 [4]=true:=by kernel_rfl
theorem zabs:CG ZP sg @z6r:=cg0
theorem z80:zae ZP sg 0 Tryz.f15 @zob 4:=zaq zsv good Tryz.func15 zar7 zabs zaa (fun a=>by kernel_rfl) (by kernel_rfl) (fun _ _=>rfl)
theorem zahb:SG ZP sg 15 @zamy:=conD (loops:=zob) good Tryz.func15 zar7 (by kernel_rfl) zabs (all_cons z80 zaa) (fun a=>by kernel_rfl)
theorem zzf:SG ZP sg 32 @z4r:=conE good Tryz.func32 (by kernel_rfl) (by kernel_rfl) cg0 (fun a=>by kernel_rfl)
theorem zr3:CG ZP sg @zu3:=(cgc zzf cg0)
theorem zv1:zae ZP sg 0 Tryz.f63 @zik 2:=zaq zka good Tryz.func63 znh zr3 zaa (fun a=>by kernel_rfl) (by kernel_rfl) (fun _ _=>rfl)
theorem zy4:SG ZP sg 63 @z4b:=conD (loops:=zik) good Tryz.func63 znh (by kernel_rfl) zr3 (all_cons zv1 zaa) (fun a=>by kernel_rfl)
theorem zaie:SG ZP sg 31 @z4e:=conE good Tryz.func31 (by kernel_rfl) (by kernel_rfl) (cgc zzf (cgc zy4 cg0)) (fun a=>by kernel_rfl)
theorem zzl:SG ZP sg 119 @zaog:=conE good Tryz.func119 (by kernel_rfl) (by kernel_rfl) cg0 (fun a=>by kernel_rfl)
theorem zy1:SG ZP sg 118 @z36:=conE good Tryz.func118 (by kernel_rfl) (by kernel_rfl) (cgc zzl cg0) (fun a=>by kernel_rfl)
theorem zr4:CG ZP sg @zu4:=(cgc zy1 cg0)
theorem zv2:zae ZP sg 0 Tryz.f63 @zil 2:=zaq zkb good Tryz.func63 znh zr4 zaa (fun a=>by kernel_rfl) (by kernel_rfl) (fun _ _=>rfl)
theorem zy5:SG ZP sg 63 @z4c:=conD (loops:=zil) good Tryz.func63 znh (by kernel_rfl) zr4 (all_cons zv2 zaa) (fun a=>by kernel_rfl)
theorem zvd:SG ZP sg 31 @zw0:=conE good Tryz.func31 (by kernel_rfl) (by kernel_rfl) (cgc zy5 (cgc zy1 cg0)) (fun a=>by kernel_rfl)
theorem zza:SG ZP sg 120 @z4i:=conE good Tryz.func120 (by kernel_rfl) (by kernel_rfl) cg0 (fun a=>by kernel_rfl)
theorem zr1:CG ZP sg @zu1:=(cgc zza cg0)
theorem zvz:zae ZP sg 0 Tryz.f110 @zii 2:=zaq zj8 good Tryz.func110 zee zr1 zaa (fun a=>by kernel_rfl) (by kernel_rfl) (fun _ _=>rfl)
theorem zyy:SG ZP sg 110 @z3t:=conD (loops:=zii) good Tryz.func110 zee (by kernel_rfl) zr1 (all_cons zvz zaa) (fun a=>by kernel_rfl)
theorem zvb:SG ZP sg 57 @zwy:=conE good Tryz.func57 (by kernel_rfl) (by kernel_rfl) (cgc zyy (cgc zza cg0)) (fun a=>by kernel_rfl)
theorem zag5:SG ZP sg 66 @zamu:=conE good Tryz.func66 (by kernel_rfl) (by kernel_rfl) (cgc zvd (cgc zvb (cgc zzl cg0))) (fun a=>by kernel_rfl)
theorem zaj5:SG ZP sg 33 @z5h:=conE good Tryz.func33 (by kernel_rfl) (by kernel_rfl) (cgc zlj (cgc zlk (cgc zag5 (cgc zfk (cgc zzd (cgc zzh (cgc zzm (cgc zp0 (cgc zyi cg0))))))))) (fun a=>by kernel_rfl)
theorem zakk:fnB ZP 20 Tryz.f20 [2,9]=true:=by kernel_rfl
theorem zagn:CG ZP sg @zaf5:=(cgc zaie (cgc zaj5 cg0))
theorem zalc:zae ZP sg 0 Tryz.f20 @zl6 2:=zaq z02 good Tryz.func20 zakk zagn zaa (fun a=>by kernel_rfl) (by kernel_rfl) (fun _ _=>rfl)
theorem zald:zae ZP sg 0 Tryz.f20 @zl6 9:=zaq z03 good Tryz.func20 zakk zagn zaa (fun a=>by kernel_rfl) (by kernel_rfl) (fun _ _=>rfl)
theorem zark:SG ZP sg 20 @zauy:=conD (loops:=zl6) good Tryz.func20 zakk (by kernel_rfl) zagn (all_cons zalc (all_cons zald zaa)) (fun a=>by kernel_rfl)
theorem zasa:fnB ZP 18 Tryz.f18 [4]=true:=by kernel_rfl
theorem zacf:CG ZP sg @z7f:=(cgc zpp (cgc zacj cg0))
theorem z9n:zae ZP sg 0 Tryz.f18 @zoy 4:=zaq ztj good Tryz.func18 zasa zacf zaa (fun a=>by kernel_rfl) (by kernel_rfl) (fun _ _=>rfl)
theorem zahz:SG ZP sg 18 @zani:=conD (loops:=zoy) good Tryz.func18 zasa (by kernel_rfl) zacf (all_cons z9n zaa) (fun a=>by kernel_rfl)
theorem zajd:SG ZP sg 10 @zaom:=conE good Tryz.func10 (by kernel_rfl) (by kernel_rfl) (cgc zpr (cgc zpp (cgc zahb (cgc zag3 (cgc zahz (cgc zark (cgc zahq cg0))))))) (fun a=>by kernel_rfl)
theorem zar3:fnB ZP 12 Tryz.f12 [3]=true:=by kernel_rfl
theorem zacg:CG ZP sg @z7g:=cg0
theorem z9o:zae ZP sg 0 Tryz.f12 @zoz 3:=zaq ztk good Tryz.func12 zar3 zacg zaa (fun a=>by kernel_rfl) (by kernel_rfl) (fun _ _=>rfl)
theorem zah1:SG ZP sg 12 @zanj:=conD (loops:=zoz) good Tryz.func12 zar3 (by kernel_rfl) zacg (all_cons z9o zaa) (fun a=>by kernel_rfl)
theorem zar6:fnB ZP 14 Tryz.f14 [3]=true:=by kernel_rfl
theorem zace:CG ZP sg @z7e:=cg0
theorem z9m:zae ZP sg 0 Tryz.f14 @zox 3:=zaq zti good Tryz.func14 zar6 zace zaa (fun a=>by kernel_rfl) (by kernel_rfl) (fun _ _=>rfl)
theorem zahy:SG ZP sg 14 @zanh:=conD (loops:=zox) good Tryz.func14 zar6 (by kernel_rfl) zace (all_cons z9m zaa) (fun a=>by kernel_rfl)
theorem zaix:SG ZP sg 3 @zaod:=conE good Tryz.func3 (by kernel_rfl) (by kernel_rfl) (cgc zake (cgc zajd (cgc zpr (cgc zah1 (cgc zpp (cgc zahy cg0)))))) (fun a=>by kernel_rfl)
end Go.Proofs.YtpaidiaknfhclaaGreatDoor
namespace Go.Proofs.YtpaidiaknfhclaaGreatDoor
open Ev
open Go (IntKind)
section
variable {α β σ X:Type}
theorem zvt {step:α→Option (α⊕β)}:∀{n m:Nat} {a:α} {b:β},n≤m→zcl step n a=some b→zcl step m a=some b:=by
 intro n
 induction n with
 |zero=>intro m a b _ h;cases h
 |succ n ih=>
  intro m a b hm h
  obtain ⟨m,rfl⟩:∃k,m=k+1:=⟨m-1,by omega⟩
  simp only[zcl]at h ⊢
  cases h1:step a with
  |none=>rw[h1]at h;cases h
  |some x=>
   rw[h1]at h
   cases x with
   |inl a'=>exact ih (by omega) h
   |inr b'=>exact h
theorem zeu {step:α→Option (α⊕β)} {a:α} {b:β} (n:Nat) (hn:n≤FUEL) (h:zcl step n a=some b):zah step a=some b:=zvt hn h
def ze6 (f:Nat→X→σ→σ⊕β) (fin:σ→β):Nat→List X→σ→β
 |_,[],s=>fin s
 |i,x::l,s=>match f i x s with
  |.inl s'=>ze6 f fin (i+1) l s'
  |.inr b=>b
theorem zpe {step:α→Option (α⊕β)} (Inv:Nat→σ→Prop) (enc:Nat→σ→α) (l:List X) (f:Nat→X→σ→σ⊕β) (fin:σ→β) (hl:l.length<FUEL)
 (h0:∀s,Inv l.length s→step (enc l.length s)=some (.inr (fin s)))
 (h1:∀i x s,l[i]?=some x→Inv i s→(step (enc i s)=some (match f i x s with | .inl s'=>.inl (enc (i+1) s') | .inr b=>.inr b))∧∀s',f i x s=.inl s'→Inv (i+1) s')
 (s:σ) (hs:Inv 0 s):zah step (enc 0 s)=some (ze6 f fin 0 l s):=by
 have key:∀k i s,i+k=l.length→Inv i s→zcl step (k+1) (enc i s)=some (ze6 f fin i (l.drop i) s):=by
  intro k
  induction k with
  |zero=>
   intro i s hi hs
   have:i=l.length:=by omega
   subst this
   rw[List.drop_length]
   simp only[zcl,h0 s hs,ze6]
  |succ k ih=>
   intro i s hi hs
   have hlt:i<l.length:=by omega
   obtain ⟨e1,e2⟩:=h1 i l[i] s (List.getElem?_eq_getElem hlt) hs
   rw[List.drop_eq_getElem_cons hlt]
   rw[zcl,e1]
   simp only[ze6]
   cases hf:f i l[i] s with
   |inl s'=>simp only;exact ih (i+1) s' (by omega) (e2 s' hf)
   |inr b=>rfl
 have:=key l.length 0 s (by omega) hs
 exact zeu (l.length+1) (by omega) (by simpa using this)
theorem zdd {step:α→Option (α⊕β)} (enc:Nat→σ→α) (l:List X) (f:Nat→X→σ→σ⊕β) (fin:σ→β) (hl:l.length<FUEL)
 (h0:∀s,step (enc l.length s)=some (.inr (fin s)))
 (h1:∀i x s,l[i]?=some x→step (enc i s)=some (match f i x s with | .inl s'=>.inl (enc (i+1) s') | .inr b=>.inr b))
 (s:σ):zah step (enc 0 s)=some (ze6 f fin 0 l s):=
 zpe (fun _ _=>True) enc l f fin hl (fun s _=>h0 s) (fun i x s hx _=>⟨h1 i x s hx,fun _ _=>trivial⟩) s trivial
def fIdx (p:X→Bool) (l:List X):Int:=match l.findIdx? p with|some i=>(i:Int)|none=>-1
def zcc (f:Nat→X→Int):Nat→List X→Int
 |_,[]=>0
 |i,x::l=>if f i x==0 then zcc f (i+1) l else f i x
theorem z2y {f:Nat→X→Int} {d:β} {g:Int→β}:∀{l:List X} {i:Nat},ze6 (σ:=Unit) (fun i x _=>if f i x==0 then .inl () else .inr (g (f i x))) (fun _=>d) i l ()=if zcc f i l==0 then d else g (zcc f i l):=by
 intro l
 induction l with
 |nil=>intros;rfl
 |cons x l ih=>
  intro i
  simp only[ze6,zcc]
  by_cases h:(f i x==0)=true
  ·simp only[h,if_true];exact ih
  ·have h2:¬f i x=0:=fun e=>h (by simp[e])
   simp[h2]
theorem zww {f:X→σ→σ} {fin:σ→β}:∀{l:List X} {i:Nat} {s:σ},ze6 (fun _ x s=>.inl (f x s)) fin i l s=fin (l.foldl (fun s x=>f x s) s):=by
 intro l
 induction l with
 |nil=>intros;rfl
 |cons x l ih=>intro i s;simp only[ze6,List.foldl_cons];exact ih
end
section
variable {α β σ X:Type} {step:α→Option (α⊕β)}
def zgr (a:α) (g:Int→β) (e:Int):Option (α⊕β):=if e==0 then some (.inl a) else some (.inr (g e))
theorem zda (a:α) (g:Int→β) (b:Bool) (x y:Int):zgr a g (bif b then x else y)=bif b then zgr a g x else zgr a g y:=by cases b<;>rfl
theorem zd5 (enc:Nat→α) (l:List X) (f:Nat→X→Int) (d:β) (g:Int→β) (hl:l.length<1000000000) (h0:step (enc l.length)=some (.inr d))
 (h1:∀i x,l[i]?=some x→step (enc i)=zgr (enc (i+1)) g (f i x)):zah step (enc 0)=some (if zcc f 0 l==0 then d else g (zcc f 0 l)):=by
 have h:=zdd (step:=step) (fun i (_:Unit)=>enc i) l (fun i x _=>if f i x==0 then .inl () else .inr (g (f i x))) (fun _=>d) (by show l.length<18446744073709551616;omega) (fun _=>h0)
  (fun i x _ hx=>by rw[h1 i x hx];unfold zgr;split<;>rfl) ()
 rw[h,z2y]
def zek (p:X→Bool) (g:Nat→X→β) (d:β):Nat→List X→β
 |_,[]=>d
 |i,x::l=>bif p x then g i x else zek p g d (i+1) l
theorem zdc (enc:Nat→α) (l:List X) (p:X→Bool) (g:Nat→X→β) (d:β) (hl:l.length<1000000000) (h0:step (enc l.length)=some (.inr d))
 (h1:∀i x,l[i]?=some x→step (enc i)=bif p x then some (.inr (g i x)) else some (.inl (enc (i+1)))):zah step (enc 0)=some (zek p g d 0 l):=by
 have h:=zdd (step:=step) (fun i (_:Unit)=>enc i) l (fun i x _=>if p x then .inr (g i x) else .inl ()) (fun _=>d) (by show l.length<18446744073709551616;omega) (fun _=>h0)
  (fun i x _ hx=>by rw[h1 i x hx];cases p x<;>rfl) ()
 rw[h]
 have key:∀(l:List X) (i:Nat),ze6 (σ:=Unit) (fun i x _=>if p x then .inr (g i x) else .inl ()) (fun _=>d) i l ()=zek p g d i l:=by
  intro l
  induction l with
  |nil=>intro i;rfl
  |cons x l ih=>
   intro i
   simp only[ze6,zek]
   cases p x with
   |true=>rfl
   |false=>exact ih _
 rw[key]
theorem zvn {p:X→Bool} {g:X→β} {d:β}:∀{l:List X} {i:Nat},zek p (fun _ x=>g x) d i l=(match l.find? p with|some x=>g x|none=>d):=by
 intro l
 induction l with
 |nil=>intros;rfl
 |cons x l ih=>intro i;simp only[zek,List.find?_cons];cases p x with|true=>rfl|false=>exact ih
theorem z0a {p:X→Bool}:∀{l:List X} {i:Nat},zek p (fun i _=>(i:Int)) (-1) i l=(match l.findIdx? p with|some k=>((i+k:Nat):Int)|none=>-1):=by
 intro l
 induction l with
 |nil=>intros;rfl
 |cons x l ih=>
  intro i
  simp only[zek,List.findIdx?_cons]
  cases p x with
  |true=>rfl
  |false=>
   simp only[Bool.false_eq_true,if_false,cond_false]
   rw[ih]
   cases l.findIdx? p with
   |none=>rfl
   |some k=>simp only[Option.map_some];rw[show i+1+k=i+(k+1) by omega]
theorem zga {p:X→Bool} {l:List X}:zek p (fun i _=>(i:Int)) (-1) 0 l=fIdx p l:=by
 rw[z0a];unfold fIdx;simp
theorem zdy {γ:Type} {p:X→Bool} {g:Nat→X→β} {d:β} (f:β→γ):∀{l:List X} {i:Nat},f (zek p g d i l)=zek p (fun i x=>f (g i x)) (f d) i l:=by
 intro l
 induction l with
 |nil=>intros;rfl
 |cons x l ih=>intro i;simp only[zek];cases p x with|true=>rfl|false=>exact ih
def ze3 (p:Nat→X→Bool):Nat→List X→Bool
 |_,[]=>true
 |i,x::l=>p i x&&ze3 p (i+1) l
theorem za6 (enc:Nat→α) (l:List X) (p:Nat→X→Bool) (b d:β) (hl:l.length<1000000000) (h0:step (enc l.length)=some (.inr d))
 (h1:∀i x,l[i]?=some x→step (enc i)=bif p i x then some (.inl (enc (i+1))) else some (.inr b)):zah step (enc 0)=some (bif ze3 p 0 l then d else b):=by
 have h:=zdd (step:=step) (fun i (_:Unit)=>enc i) l (fun i x _=>if p i x then .inl () else .inr b) (fun _=>d) (by show l.length<18446744073709551616;omega) (fun _=>h0)
  (fun i x _ hx=>by rw[h1 i x hx];cases p i x<;>rfl) ()
 rw[h]
 have key:∀(l:List X) (i:Nat),ze6 (σ:=Unit) (fun i x _=>if p i x then .inl () else .inr b) (fun _=>d) i l ()=bif ze3 p i l then d else b:=by
  intro l
  induction l with
  |nil=>intro i;rfl
  |cons x l ih=>
   intro i
   simp only[ze6,ze3]
   cases p i x with
   |true=>exact ih _
   |false=>rfl
 rw[key]
theorem zbv {p:X→Bool}:∀{l:List X} {i:Nat},ze3 (fun _=>p) i l=l.all p:=by
 intro l
 induction l with
 |nil=>intros;rfl
 |cons x l ih=>intro i;simp only[ze3,List.all_cons];rw[ih]
theorem zec (enc:Nat→σ→α) (l:List X) (f:X→σ→σ) (fin:σ→β) (hl:l.length<1000000000) (h0:∀s,step (enc l.length s)=some (.inr (fin s)))
 (h1:∀i x s,l[i]?=some x→step (enc i s)=some (.inl (enc (i+1) (f x s)))) (s:σ):zah step (enc 0 s)=some (fin (l.foldl (fun s x=>f x s) s)):=by
 have h:=zdd (step:=step) enc l (fun i x s=>.inl (f x s)) fin (by show l.length<18446744073709551616;omega) h0 (fun i x s hx=>by rw[h1 i x s hx]) s
 rw[h,zww]
end
def zd9 {X:Type} (l:List X) (i:Nat) (f:X→Bool):Bool:=match i with
 |0=>false
 |j+1=>match l[j]? with|some y=>f y|none=>false
theorem zev {n:Int} (h1 : -9223372036854775808≤n) (h2:n≤9223372036854775807):wr .i64 n=n:=by
 unfold wr;rw[IntKind.wrap_i64];omega
theorem zav {n:Nat} (h:n<9223372036854775807):wr .i64 ((n:Int)+1)=((n+1:Nat):Int):=by
 rw[zev (by omega) (by omega)];rfl
theorem zgn {j:Nat} (h:j<1000000000):wr .i64 (((j+1:Nat):Int)-1)=(j:Int):=by
 rw[show ((j+1:Nat):Int)-1=(j:Int) by omega]
 exact zev (by omega) (by omega)
theorem dpos {j:Nat}:decide ((0:Int)<((j+1:Nat):Int))=true:=by rw[decide_eq_true_eq];omega
theorem zz4:decide ((0:Int)<((0:Nat):Int))=false:=rfl
theorem zar {α:Type} (l:List α) (i:Nat):getI l (i:Int)=l[i]?:=by
 unfold getI;simp
theorem zaau:LIM=1073741824:=rfl
theorem zk2:FUEL=18446744073709551616:=rfl
end Go.Proofs.YtpaidiaknfhclaaGreatDoor
namespace Go.Proofs.YtpaidiaknfhclaaGreatDoor
open Ev
open Go (IntKind)
theorem dlt {i n:Nat} (h:i<n):decide ((i:Int)<(n:Int))=true:=by simpa using h
theorem dge {n:Nat}:decide ((n:Int)<(n:Int))=false:=by simp
theorem k_or {α:Type} (k:Bool→α) (a b:Bool):(bif a then k true else k b)=k (a||b):=by cases a<;>rfl
theorem zb0 {α:Type} (k:Bool→α) (a b:Bool):(bif a then k b else k false)=k (a&&b):=by cases a<;>rfl
theorem zly {α:Type} (k:Bool→α) (a b:Bool):(bif a then k a else k b)=k (a||b):=by cases a<;>rfl
theorem zce {α:Type} (c:Bool) (a b:α):(bif c then some a else some b)=some (bif c then a else b):=by cases c<;>rfl
theorem zapk (b:UInt8):wr .i64 (b.toNat:Int)=(b.toNat:Int):=by
 have:=b.toNat_lt
 exact zev (by omega) (by omega)
def dcdI (r:List UInt8):Int×Int:=(((dcd r).1:Int),((dcd r).2:Int))
theorem z2g {s:List UInt8} {i:Nat} (hi:i<s.length) (hs:s.length<1000000000):qbf s (i:Int)=some (dcdI (s.drop i)):=by
 obtain ⟨a,r,hr⟩:∃a r,s.drop i=a::r:=⟨s[i],s.drop (i+1),List.drop_eq_getElem_cons hi⟩
 have g:∀k,getI s ((i+k:Nat):Int)=(a::r)[k]?:=fun k=>by rw[zar,←hr,List.getElem?_drop]
 have h0:getI s (i:Int)=some a:=g 0
 have w1:wr .i64 ((i:Int)+1)=((i+1:Nat):Int):=zav (by omega)
 have w2:wr .i64 ((i:Int)+2)=((i+2:Nat):Int):=by rw[zev (by omega) (by omega)];rfl
 have hl:s.length=i+(r.length+1):=by
  have:=congrArg List.length hr
  simp only[List.length_drop,List.length_cons]at this
  omega
 have ha:=a.toNat_lt
 unfold qbf
 rw[hr]
 unfold dcdI dcd
 have t1:decide (((i+1:Nat):Int)<((i+(r.length+1):Nat):Int))=decide (0<r.length):=by congr 1;simp only[eq_iff_iff];omega
 have t2:decide (((i+2:Nat):Int)<((i+(r.length+1):Nat):Int))=decide (1<r.length):=by congr 1;simp only[eq_iff_iff];omega
 simp -zeta only[h0,w1,w2,g 1,g 2,zapk,k_or,zb0,hl,t1,t2]
 dsimp only
 clear hl t1 t2 g hr hi h0 w1 w2 hs
 by_cases c1:32≤a.toNat∧a.toNat<127
 ·have e1:(decide ((32:Int)≤(a.toNat:Int))&&decide ((a.toNat:Int)<127))=true:=by simp;omega
  simp only[e1,cond_true,if_pos c1];rfl
 have e1:(decide ((32:Int)≤(a.toNat:Int))&&decide ((a.toNat:Int)<127))=false:=by simp;omega
 simp only[e1,cond_false,if_neg c1]
 by_cases c2:194≤a.toNat∧a.toNat<224
 ·have e2:(decide ((194:Int)≤(a.toNat:Int))&&decide ((a.toNat:Int)<224))=true:=by simp;omega
  have e3:decide ((224:Int)≤(a.toNat:Int))=false:=by simp;omega
  simp only[e2,e3,Bool.true_and,Bool.false_and,cond_false,if_pos c2]
  rcases r with _|⟨b,r⟩
  ·rfl
  have hb:=b.toNat_lt
  have l1:decide (0<(b::r).length)=true:=by simp
  have g1:(a::b::r)[1]?=some b:=rfl
  have e4:wr .i64 ((wr .i64 ((wr .i64 ((wr .i64 ((a.toNat:Int)-192))*64))+(b.toNat:Int)))-128)=((a.toNat:Int)-192)*64+(b.toNat:Int)-128:=by
   rw[zev (n:=(a.toNat:Int)-192) (by omega) (by omega),zev (n:=((a.toNat:Int)-192)*64) (by omega) (by omega),zev (n:=((a.toNat:Int)-192)*64+(b.toNat:Int)) (by omega) (by omega),zev (by omega) (by omega)]
  simp only[l1,g1,e4,cond_true]
  by_cases cb:128≤b.toNat
  ·have b1:decide ((128:Int)≤(b.toNat:Int))=true:=by simp;omega
   simp only[b1,cond_true]
   by_cases cb2:b.toNat<192
   ·have b2:decide ((b.toNat:Int)<192)=true:=by simp;omega
    simp only[b2,g1,cond_true,Bool.cond_eq_ite,decide_eq_true_eq]
    rw[if_pos True.intro]
    split
    ·rw[if_pos (by omega)];simp only[Option.some.injEq,Prod.mk.injEq];omega
    ·rw[if_neg (by omega)];rfl
   ·have b2:decide ((b.toNat:Int)<192)=false:=by simp;omega
    simp only[b2,cond_false]
    rw[if_neg (by omega)];rfl
  ·have b1:decide ((128:Int)≤(b.toNat:Int))=false:=by simp;omega
   simp only[b1,cond_false]
   rw[if_neg (by omega)];rfl
 have e2:(decide ((194:Int)≤(a.toNat:Int))&&decide ((a.toNat:Int)<224))=false:=by simp;omega
 simp only[e2,Bool.false_and,cond_false,if_neg c2]
 by_cases c3:224≤a.toNat∧a.toNat<240
 ·have e3:(decide ((224:Int)≤(a.toNat:Int))&&decide ((a.toNat:Int)<240))=true:=by simp;omega
  simp only[e3,Bool.true_and,if_pos c3]
  rcases r with _|⟨b,_|⟨c,r⟩⟩
  ·rfl
  ·rfl
  have hb:=b.toNat_lt
  have hc:=c.toNat_lt
  have l1:decide (1<(b::c::r).length)=true:=by simp
  have g1:(a::b::c::r)[1]?=some b:=rfl
  have g2:(a::b::c::r)[2]?=some c:=rfl
  have e4:wr .i64 ((wr .i64 ((wr .i64 ((wr .i64 ((wr .i64 ((a.toNat:Int)-224))*4096))+(wr .i64 ((wr .i64 ((b.toNat:Int)-128))*64))))+(c.toNat:Int)))-128)=((a.toNat:Int)-224)*4096+((b.toNat:Int)-128)*64+(c.toNat:Int)-128:=by
   rw[zev (n:=(a.toNat:Int)-224) (by omega) (by omega),zev (n:=((a.toNat:Int)-224)*4096) (by omega) (by omega),zev (n:=(b.toNat:Int)-128) (by omega) (by omega),zev (n:=((b.toNat:Int)-128)*64) (by omega) (by omega),
    zev (n:=((a.toNat:Int)-224)*4096+((b.toNat:Int)-128)*64) (by omega) (by omega),zev (n:=((a.toNat:Int)-224)*4096+((b.toNat:Int)-128)*64+(c.toNat:Int)) (by omega) (by omega),zev (by omega) (by omega)]
  simp only[l1,g1,g2,e4,cond_true]
  by_cases cb:128≤b.toNat
  ·have b1:decide ((128:Int)≤(b.toNat:Int))=true:=by simp;omega
   simp only[b1,cond_true]
   by_cases cb2:b.toNat<192
   ·have b2:decide ((b.toNat:Int)<192)=true:=by simp;omega
    simp only[b2,cond_true]
    by_cases cc:128≤c.toNat
    ·have d1:decide ((128:Int)≤(c.toNat:Int))=true:=by simp;omega
     simp only[d1,cond_true]
     by_cases cc2:c.toNat<192
     ·have d2:decide ((c.toNat:Int)<192)=true:=by simp;omega
      simp only[d2,g1,g2,cond_true,Bool.cond_eq_ite,Bool.and_eq_true,Bool.or_eq_true,decide_eq_true_eq]
      rw[if_pos True.intro]
      split
      ·rw[if_pos (by omega)];simp only[Option.some.injEq,Prod.mk.injEq];omega
      ·rw[if_neg (by omega)];rfl
     ·have d2:decide ((c.toNat:Int)<192)=false:=by simp;omega
      simp only[d2,cond_false]
      rw[if_neg (by omega)];rfl
    ·have d1:decide ((128:Int)≤(c.toNat:Int))=false:=by simp;omega
     simp only[d1,cond_false]
     rw[if_neg (by omega)];rfl
   ·have b2:decide ((b.toNat:Int)<192)=false:=by simp;omega
    simp only[b2,cond_false]
    rw[if_neg (by omega)];rfl
  ·have b1:decide ((128:Int)≤(b.toNat:Int))=false:=by simp;omega
   simp only[b1,cond_false]
   rw[if_neg (by omega)];rfl
 ·have e3:(decide ((224:Int)≤(a.toNat:Int))&&decide ((a.toNat:Int)<240))=false:=by simp;omega
  simp only[e3,Bool.false_and,cond_false,if_neg c3];rfl
theorem zacm (l:List UInt8):(dcd l).2≤l.length:=by
 unfold dcd
 split
 ·simp
 ·rename_i a r
  split
  ·simp
  ·split
   ·split
    ·split<;>simp
    ·simp
   ·split
    ·split
     ·split<;>simp
     ·simp
    ·simp
theorem z5s (n:Nat) {s:List UInt8} {i:Nat} (hi:i<s.length):vldN (n+1) (s.drop i)=if (dcd (s.drop i)).2=0 then false else vldN n (s.drop (i+(dcd (s.drop i)).2)):=by
 have:s.drop i≠[]:=by simp;omega
 simp only[vldN,this,if_false,List.drop_drop]
theorem zadr {s:List UInt8} (hs:s.length<1000000000):qad s=some (vld s):=by
 have key:∀n i,s.length-i≤n→i≤s.length→zcl zkj (n+1) (s,(i:Int),())=some (if vldN n (s.drop i) then .inl () else .inr (false,())):=by
  intro n
  induction n with
  |zero=>
   intro i h1 h2
   have:i=s.length:=by omega
   subst this
   simp only[zcl,zkj,dge,cond_false,vldN,if_true]
  |succ n ih=>
   intro i h1 h2
   rw[zcl]
   by_cases hi:i<s.length
   ·rw[z5s n hi]
    have hle:=zacm (s.drop i)
    rw[List.length_drop]at hle
    simp only[zkj,dlt hi,cond_true,z2g hi hs,dcdI]
    by_cases h0:(dcd (s.drop i)).2=0
    ·simp[h0]
    ·have hb:(((dcd (s.drop i)).2:Int)==0)=false:=by simp;omega
     have hw:wr .i64 ((i:Int)+((dcd (s.drop i)).2:Int))=((i+(dcd (s.drop i)).2:Nat):Int):=by rw[zev (by omega) (by omega)];rfl
     simp only[hb,cond_false,hw,h0,if_false]
     exact ih _ (by omega) (by omega)
   ·have:i=s.length:=by omega
    subst this
    simp[zkj,vldN]
 unfold qad
 have:=key s.length 0 (by omega) (by omega)
 rw[show ((0:Int))=((0:Nat):Int) from rfl,zeu (s.length+1) (by rw[zk2];omega) this]
 simp only[List.drop_zero]
 unfold vld
 cases vldN s.length s<;>rfl
theorem zavi {s:List UInt8} {i:Nat} (hi:i<s.length) (hs:s.length<1000000000):qe s (i:Int)=some ((wid (s.drop i):Nat):Int):=by
 unfold qe wid
 rw[z2g hi hs]
 show some (if (((dcd (s.drop i)).2:Nat):Int)<1 then (1:Int) else (((dcd (s.drop i)).2:Nat):Int))=_
 rw[Option.some.injEq]
 by_cases h:(dcd (s.drop i)).2<1
 ·rw[if_pos h,if_pos (by omega)];rfl
 ·rw[if_neg h,if_neg (by omega)]
theorem zau6 {l:List UInt8} (h:l≠[]):1≤wid l∧wid l≤l.length:=by
 have:=zacm l
 have:0<l.length:=List.length_pos_iff.2 h
 unfold wid
 split<;>omega
theorem zye (n:Nat) {s:List UInt8} {i:Nat} (hi:i<s.length) {out:List UInt8} {gap:Bool}:clnN (n+1) (s.drop i) out gap =
 if blk (dcd (s.drop i)).1 then clnN n (s.drop (i+wid (s.drop i))) out true else clnN n (s.drop (i+wid (s.drop i))) ((if gap&&!(out==[]) then out++[32] else out)++(s.drop i).take (wid (s.drop i))) false:=by
 have:s.drop i≠[]:=by simp;omega
 rw[clnN,if_neg this,List.drop_drop]
theorem zatk {s:List UInt8} (hs:s.length<100000000):qay s=some (cln s):=by
 have key:∀n i (out:List UInt8) (gap:Bool),s.length-i≤n→i≤s.length→out.length≤2*i→zcl zkr (n+1) (s,out,gap,(i:Int),())=some (clnN n (s.drop i) out gap,()):=by
  intro n
  induction n with
  |zero=>
   intro i out gap h1 h2 h3
   have:i=s.length:=by omega
   subst this
   simp only[zcl,zkr,dge,cond_false,clnN]
  |succ n ih=>
   intro i out gap h1 h2 h3
   rw[zcl]
   by_cases hi:i<s.length
   ·rw[zye n hi]
    have hw0:=zau6 (l:=s.drop i) (by simp;omega)
    rw[List.length_drop]at hw0
    obtain ⟨k,hk⟩:∃k,wid (s.drop i)=k:=⟨_,rfl⟩
    rw[hk]at hw0 ⊢
    have hw:wr .i64 ((i:Int)+(k:Int))=((i+k:Nat):Int):=by rw[zev (by omega) (by omega)];rfl
    have hb:qaf ((dcd (s.drop i)).1:Int)=some (blk (dcd (s.drop i)).1):=by
     unfold qaf
     simp -zeta only[k_or]
     simp only[Option.some.injEq,blk]
     rw[Bool.eq_iff_iff];simp;omega
    simp only[zkr,dlt hi,cond_true,z2g hi (show s.length<1000000000 by omega),zavi hi (show s.length<1000000000 by omega),dcdI,hb,hk,hw]
    cases blk (dcd (s.drop i)).1 with
    |true=>simp only[cond_true,if_true];exact ih _ _ _ (by omega) (by omega) (by omega)
    |false=>
     have hc:(decide ((0:Int)≤(i:Int))&&(decide ((i:Int)≤((i+k:Nat):Int))&&decide (((i+k:Nat):Int)≤(s.length:Int))))=true:=by simp;omega
     have ht:(s.take (i+k)).drop i=(s.drop i).take k:=by rw[List.drop_take];congr 1;omega
     simp only[cond_false,hc,cond_true,Int.toNat_natCast,ht,Bool.false_eq_true,if_false]
     have hlen:∀o:List UInt8,o.length≤2*i+1→decide (o.length+((s.drop i).take k).length≤LIM)=true:=fun o ho=>by
      rw[zaau];simp only[List.length_take,List.length_drop,decide_eq_true_eq];omega
     cases hg:(gap&&!(out==[])) with
     |true=>
      simp only[Bool.and_eq_true,Bool.not_eq_true']at hg
      have h32:decide (out.length+([32]:List Nat).length≤LIM)=true:=by rw[zaau];simp;omega
      simp only[hg.1,hg.2,hc,ht,Int.toNat_natCast,cond_true,Bool.not_false,h32,hlen (out++[32]) (by simp;omega),if_true]
      exact ih _ _ _ (by omega) (by omega) (by simp;omega)
     |false=>
      cases gap with
      |false=>
       simp only[cond_false,hlen out (by omega),cond_true,Bool.false_eq_true,if_false]
       exact ih _ _ _ (by omega) (by omega) (by simp;omega)
      |true=>
       simp only[Bool.true_and]at hg
       simp only[cond_true,hg,cond_false,hlen out (by omega),Bool.false_eq_true,if_false]
       exact ih _ _ _ (by omega) (by omega) (by simp;omega)
   ·have:i=s.length:=by omega
    subst this
    simp[zkr,clnN]
 unfold qay
 have:=key s.length 0 [] false (by omega) (by omega) (by simp)
 rw[show ((0:Int))=((0:Nat):Int) from rfl,zeu (s.length+1) (by rw[zk2];omega) this]
 try rfl
end Go.Proofs.YtpaidiaknfhclaaGreatDoor
namespace Go.Proofs.YtpaidiaknfhclaaGreatDoor
open Ev
open Go (IntKind)
def rng (lo hi n:Int):Bool:=decide (lo≤n)&&decide (n≤hi)
theorem zaeb (n:Int):qe3 n=some (rng 0 109572 n):=by
 unfold qe3
 simp -zeta only[k_or,zb0]
 try rfl
theorem zatv (n:Int):qer n=some (rng 0 109572 n):=by
 unfold qer
 simp -zeta only[k_or,zb0]
 try rfl
theorem zatr (n:Int):qd8 n=some (rng 1 9999 n):=by
 unfold qd8
 simp -zeta only[k_or,zb0]
 try rfl
theorem zatl (n lo hi:Int):qbe n lo hi=some (rng lo hi n):=by
 unfold qbe
 simp -zeta only[k_or,zb0]
 try rfl
def zdt (l:List Charge) (i:Nat) (x:Charge):Int:=
 bif zd9 l i (fun y=>decide (x.ID≤y.ID)) then 7
 else bif decide (x.ID<1)||decide (99999<x.ID)||decide (x.Patron<1)||decide (9999<x.Patron)||decide (x.Item<1)||decide (9999<x.Item)||!(rng 0 109572 x.Day) then 2
 else bif decide (x.Kind<1)||decide (3<x.Kind) then 1
 else bif decide (x.Amount<1)||decide (100000000<x.Amount)||decide (x.Paid<0)||decide (x.Amount≤x.Paid) then 2 else 0
def zey (l:List Charge):Int:=bif decide (128<(l.length:Int)) then 13 else zcc (zdt l) 0 l
theorem zwm {l:List Charge} (hl:l.length<1000000000):zah zit (l,0,())=some (if zcc (zdt l) 0 l==0 then .inl () else .inr (zcc (zdt l) 0 l,())):=by
 have h:=zd5 (step:=zit) (fun i=>(l,(i:Int),())) l (zdt l) (.inl ()) (fun e=>.inr (e,())) hl
  (by simp only[zit,dge,cond_false])
  (fun i x hx=>by
   have hi:=(List.getElem?_eq_some_iff.1 hx).1
   have hxm:=List.mem_of_getElem? hx
   unfold zdt
   simp only[zda]
   rcases i with _|j
   ·simp -zeta only[zit,dlt hi,zar,hx,k_or,zb0,zz4,cond_false,cond_true,zd9,zav (show 0<9223372036854775807 by omega),zaeb]
    try rfl
   ·have hj:l[j]?=some l[j]:=List.getElem?_eq_getElem (by omega)
    simp -zeta only[zit,dlt hi,zar,hx,k_or,zb0,dpos,zgn (show j<1000000000 by omega),hj,cond_false,cond_true,zd9,zav (show j+1<9223372036854775807 by omega),zaeb]
    rfl)
 exact h
theorem zatj {l:List Charge} (hl:l.length<1000000000):qax l=some (zey l):=by
 unfold qax zey
 rw[zwm hl]
 generalize zcc (zdt l) 0 l=e
 cases decide (128<(l.length:Int)) with
 |true=>rfl
 |false=>
  by_cases h:e=0
  ·subst h;rfl
  ·have h2:(e==0)=false:=by simpa using h
   simp only[h2,Bool.false_eq_true,if_false,cond_false]
def zd1 (l:List Patron) (i:Nat) (x:Patron):Int:=
 bif decide (x.ID<1)||decide (9999<x.ID) then 2
 else bif zd9 l i (fun y=>decide (x.ID≤y.ID)) then 7
 else bif decide (x.Kind<1)||decide (9<x.Kind)||decide (x.Branch<1)||decide (4<x.Branch) then 1
 else bif decide (x.Until<0)||decide (109572<x.Until) then 2
 else bif x.Name==[]||!(vld x.Name)||!(cln x.Name==x.Name) then 3
 else bif decide (200<(x.Name.length:Int)) then 4 else 0
def ze0 (l:List Patron):Int:=bif decide (32<(l.length:Int)) then 13 else zcc (zd1 l) 0 l
theorem zwl {l:List Patron} (hl:l.length<1000000000) (hn:∀x∈l,x.Name.length<10000000):zah zis (l,0,())=some (if zcc (zd1 l) 0 l==0 then .inl () else .inr (zcc (zd1 l) 0 l,())):=by
 have h:=zd5 (step:=zis) (fun i=>(l,(i:Int),())) l (zd1 l) (.inl ()) (fun e=>.inr (e,())) hl
  (by simp only[zis,dge,cond_false])
  (fun i x hx=>by
   have hi:=(List.getElem?_eq_some_iff.1 hx).1
   have hxm:=List.mem_of_getElem? hx
   have hv:=zadr (s:=x.Name) (by have:=hn x hxm;omega)
   have hc:=zatk (s:=x.Name) (by have:=hn x hxm;omega)
   unfold zd1
   simp only[zda]
   rcases i with _|j
   ·simp -zeta only[zis,dlt hi,zar,hx,k_or,zb0,zz4,cond_false,cond_true,zd9,zav (show 0<9223372036854775807 by omega),hv,hc]
    try rfl
   ·have hj:l[j]?=some l[j]:=List.getElem?_eq_getElem (by omega)
    simp -zeta only[zis,dlt hi,zar,hx,k_or,zb0,dpos,zgn (show j<1000000000 by omega),hj,cond_false,cond_true,zd9,zav (show j+1<9223372036854775807 by omega),hv,hc]
    rfl)
 exact h
theorem zatf {l:List Patron} (hl:l.length<1000000000) (hn:∀x∈l,x.Name.length<10000000):qan l=some (ze0 l):=by
 unfold qan ze0
 rw[zwl hl hn]
 generalize zcc (zd1 l) 0 l=e
 cases decide (32<(l.length:Int)) with
 |true=>rfl
 |false=>
  by_cases h:e=0
  ·subst h;rfl
  ·have h2:(e==0)=false:=by simpa using h
   simp only[h2,Bool.false_eq_true,if_false,cond_false]
def zge (l:List Loan) (i:Nat) (x:Loan):Int:=
 bif zd9 l i (fun y=>decide (x.Item≤y.Item)) then 7
 else bif decide (x.Item<1)||decide (9999<x.Item)||decide (x.Patron<1)||decide (9999<x.Patron)||decide (x.Out<0)||decide (109572<x.Out)||decide (x.Due<0)||decide (109572<x.Due)||decide (x.Due<x.Out)||decide (x.Renewals<0)||decide (10<x.Renewals) then 2 else 0
def zha (l:List Loan):Int:=bif decide (64<(l.length:Int)) then 13 else zcc (zge l) 0 l
theorem zwk {l:List Loan} (hl:l.length<1000000000):zah zir (l,0,())=some (if zcc (zge l) 0 l==0 then .inl () else .inr (zcc (zge l) 0 l,())):=by
 have h:=zd5 (step:=zir) (fun i=>(l,(i:Int),())) l (zge l) (.inl ()) (fun e=>.inr (e,())) hl
  (by simp only[zir,dge,cond_false])
  (fun i x hx=>by
   have hi:=(List.getElem?_eq_some_iff.1 hx).1
   have hxm:=List.mem_of_getElem? hx
   unfold zge
   simp only[zda]
   rcases i with _|j
   ·simp -zeta only[zir,dlt hi,zar,hx,k_or,zb0,zz4,cond_false,cond_true,zd9,zav (show 0<9223372036854775807 by omega)]
    try rfl
   ·have hj:l[j]?=some l[j]:=List.getElem?_eq_getElem (by omega)
    simp -zeta only[zir,dlt hi,zar,hx,k_or,zb0,dpos,zgn (show j<1000000000 by omega),hj,cond_false,cond_true,zd9,zav (show j+1<9223372036854775807 by omega)]
    rfl)
 exact h
theorem zate {l:List Loan} (hl:l.length<1000000000):qam l=some (zha l):=by
 unfold qam zha
 rw[zwk hl]
 generalize zcc (zge l) 0 l=e
 cases decide (64<(l.length:Int)) with
 |true=>rfl
 |false=>
  by_cases h:e=0
  ·subst h;rfl
  ·have h2:(e==0)=false:=by simpa using h
   simp only[h2,Bool.false_eq_true,if_false,cond_false]
def zb9 (h:Hold):Int:=
 bif decide (h.ID<1)||decide (99999<h.ID)||!(rng 1 9999 h.Patron)||!(rng 1 9999 h.Record)||!(h.Item==0)&&!(rng 1 9999 h.Item)||decide (h.Pickup<1)||decide (4<h.Pickup)||!(rng 0 109572 h.Placed)||!(h.Got==0)&&!(rng 1 9999 h.Got)||!(rng 0 109572 h.Until)||!(rng 0 109572 h.Asleep)||decide (h.Rank<0)||decide (9<h.Rank) then 2
 else bif decide (h.State<1)||decide (3<h.State) then 1
 else bif !((decide (0<h.Got))==(!(h.State==1)))||!((decide (0<h.Until))==(h.State==3)) then 12 else 0
theorem zad9 (h:Hold):qdk h=some (zb9 h):=by
 unfold qdk zb9
 simp -zeta only[k_or,zb0,zatr,zatv,←zce]
 try rfl
def zen (l:List Hold) (i:Nat) (x:Hold):Int:=
 bif zd9 l i (fun y=>decide (x.ID≤y.ID)) then 7 else bif !(zb9 x==0) then zb9 x else 0
theorem z2n {l:List Hold} (hl:l.length<1000000000):zah zqu (l,0,())=some (if zcc (zen l) 0 l==0 then .inl (l,()) else .inr (zcc (zen l) 0 l,())):=by
 have h:=zd5 (step:=zqu) (fun i=>(l,(i:Int),())) l (zen l) (.inl (l,())) (fun e=>.inr (e,())) hl
  (by simp only[zqu,dge,cond_false])
  (fun i x hx=>by
   have hi:=(List.getElem?_eq_some_iff.1 hx).1
   have hxm:=List.mem_of_getElem? hx
   have hs:∀(a:List Hold×Int×Unit) (g:Int→((List Hold×Unit)⊕(Int×Unit))),(bif !(zb9 x==0) then zgr a g (zb9 x) else zgr a g 0)=bif !(zb9 x==0) then some (.inr (g (zb9 x))) else some (.inl a):=fun a g=>by
    unfold zgr
    cases zb9 x==0<;>rfl
   unfold zen
   simp only[zda,hs]
   rcases i with _|j
   ·simp -zeta only[zqu,dlt hi,zar,hx,k_or,zb0,zz4,cond_false,cond_true,zd9,zav (show 0<9223372036854775807 by omega),zad9]
    try rfl
   ·have hj:l[j]?=some l[j]:=List.getElem?_eq_getElem (by omega)
    simp -zeta only[zqu,dlt hi,zar,hx,k_or,zb0,dpos,zgn (show j<1000000000 by omega),hj,cond_false,cond_true,zd9,zav (show j+1<9223372036854775807 by omega),zad9]
    rfl)
 exact h
def zdz (x y:Hold):Bool:=x.Patron==y.Patron&&x.Record==y.Record||decide (0<x.Got)&&x.Got==y.Got
theorem zwp {l:List Hold} {i:Nat} {x:Hold} (hl:l.length<1000000000) (hx:l[i]?=some x):zah ziw (l,(i:Int),0,())=some (bif (l.take i).all (fun y=>!(zdz x y)) then .inl (l,(i:Int),()) else .inr (7,())):=by
 have hi:=(List.getElem?_eq_some_iff.1 hx).1
 have h:=za6 (step:=ziw) (fun k=>(l,(i:Int),(k:Int),())) (l.take i) (fun _ y=>!(zdz x y)) (.inr (7,())) (.inl (l,(i:Int),())) (by rw[List.length_take];omega)
  (by rw[List.length_take,Nat.min_eq_left (by omega)];simp only[ziw,dge,cond_false])
  (fun k y hy=>by
   have hk:=(List.getElem?_eq_some_iff.1 hy).1
   rw[List.length_take]at hk
   have hy2:l[k]?=some y:=by rw[←hy,List.getElem?_take_of_lt (by omega)]
   simp -zeta only[ziw,dlt (show k<i by omega),zar,hx,hy2,k_or,zb0,cond_true,zav (show k<9223372036854775807 by omega)]
   dsimp only
   unfold zdz
   cases (x.Patron==y.Patron&&x.Record==y.Record||decide (0<x.Got)&&x.Got==y.Got)<;>rfl)
 rw[show zah ziw (l,(i:Int),0,())=_ from h,zbv]
def zgc (l:List Hold):Bool:=ze3 (fun i x=>(l.take i).all (fun y=>!(zdz x y))) 0 l
theorem zwo {l:List Hold} (hl:l.length<1000000000):zah zkv (l,0,())=some (bif zgc l then .inl () else .inr (7,())):=by
 have h:=za6 (step:=zkv) (fun i=>(l,(i:Int),())) l (fun i x=>(l.take i).all (fun y=>!(zdz x y))) (.inr (7,())) (.inl ()) hl
  (by simp only[zkv,dge,cond_false])
  (fun i x hx=>by
   have hi:=(List.getElem?_eq_some_iff.1 hx).1
   simp only[zkv,dlt hi,cond_true,zwp hl hx]
   cases (l.take i).all (fun y=>!(zdz x y)) with
   |true=>simp only[cond_true,zav (show i<9223372036854775807 by omega)]
   |false=>rfl)
 exact h
def zg8 (l:List Hold):Int:=bif decide (64<(l.length:Int)) then 13 else bif zcc (zen l) 0 l==0 then (bif zgc l then 0 else 7) else zcc (zen l) 0 l
theorem zavk {l:List Hold} (hl:l.length<1000000000):qm l=some (zg8 l):=by
 unfold qm zg8
 rw[z2n hl]
 cases decide (64<(l.length:Int)) with
 |true=>rfl
 |false=>
  by_cases h:zcc (zen l) 0 l=0
  ·simp only[h,beq_self_eq_true,if_true,cond_false,cond_true,zwo hl]
   cases zgc l<;>rfl
  ·have:(zcc (zen l) 0 l==0)=false:=by simpa using h
   simp only[this,Bool.false_eq_true,if_false,cond_false]
def zug (r:Rule):Bool:=rng 0 9 r.Patron&&rng 0 9 r.Item&&rng 0 4 r.Branch&&(rng 0 365 r.Days&&rng 0 10 r.Renewals&&rng 0 99 r.Loans)&&(rng 0 1000 r.Fine&&rng 0 30 r.Grace&&rng 0 100000000 r.MaxFine)&&rng 1 60 r.Shelf&&rng 1 60 r.Recall&&rng 0 109572 r.Fixed&&rng 0 9 r.Rank
theorem zato (r:Rule):qc1 r=some (zug r):=by
 unfold qc1 zug
 simp -zeta only[k_or,zb0,zatl]
 try rfl
def zf1 (x y:Rule):Bool:=x.Patron==y.Patron&&x.Item==y.Item&&x.Branch==y.Branch
def zgl (l:List Rule) (i:Nat) (x:Rule):Int:=bif !(zug x) then 2 else bif (l.take i).all (fun y=>!(zf1 y x)) then 0 else 7
theorem z2m {l:List Rule} {i:Nat} {x:Rule} (hl:l.length<1000000000) (hx:l[i]?=some x):zah zqt (l,(i:Int),0,())=some (bif (l.take i).all (fun y=>!(zf1 y x)) then .inl (l,(i:Int),()) else .inr (7,())):=by
 have hi:=(List.getElem?_eq_some_iff.1 hx).1
 have h:=za6 (step:=zqt) (fun k=>(l,(i:Int),(k:Int),())) (l.take i) (fun _ y=>!(zf1 y x)) (.inr (7,())) (.inl (l,(i:Int),())) (by rw[List.length_take];omega)
  (by rw[List.length_take,Nat.min_eq_left (by omega)];simp only[zqt,dge,cond_false])
  (fun k y hy=>by
   have hk:=(List.getElem?_eq_some_iff.1 hy).1
   rw[List.length_take]at hk
   have hy2:l[k]?=some y:=by rw[←hy,List.getElem?_take_of_lt (by omega)]
   simp -zeta only[zqt,dlt (show k<i by omega),zar,hx,hy2,k_or,zb0,cond_true,zav (show k<9223372036854775807 by omega)]
   dsimp only
   unfold zf1
   cases (y.Patron==x.Patron&&y.Item==x.Item&&y.Branch==x.Branch)<;>rfl)
 rw[show zah zqt (l,(i:Int),0,())=_ from h,zbv]
theorem z2l {l:List Rule} (hl:l.length<1000000000):zah zwn (l,0,())=some (if zcc (zgl l) 0 l==0 then .inl () else .inr (zcc (zgl l) 0 l,())):=by
 have h:=zd5 (step:=zwn) (fun i=>(l,(i:Int),())) l (zgl l) (.inl ()) (fun e=>.inr (e,())) hl
  (by simp only[zwn,dge,cond_false])
  (fun i x hx=>by
   have hi:=(List.getElem?_eq_some_iff.1 hx).1
   unfold zgl
   simp only[zda,zwn,dlt hi,zar,hx,cond_true,zato,z2m hl hx]
   cases zug x with
   |false=>rfl
   |true=>
    simp only[Bool.not_true,cond_false]
    cases (l.take i).all (fun y=>!(zf1 y x)) with
    |true=>simp only[cond_true,zav (show i<9223372036854775807 by omega)];rfl
    |false=>rfl)
 exact h
def zhi (l:List Rule):Int:=bif decide (32<(l.length:Int)) then 13 else zcc (zgl l) 0 l
theorem zavj {l:List Rule} (hl:l.length<1000000000):ql l=some (zhi l):=by
 unfold ql zhi
 rw[z2l hl]
 generalize zcc (zgl l) 0 l=e
 cases decide (32<(l.length:Int)) with
 |true=>rfl
 |false=>
  by_cases h:e=0
  ·subst h;rfl
  ·have h2:(e==0)=false:=by simpa using h
   simp only[h2,Bool.false_eq_true,if_false,cond_false]
def incr (l:List Int):Bool:=ze3 (fun i x=>!(zd9 l i (fun y=>decide (x≤y)))) 0 l
theorem zpg {X:Type} {p:Nat→X→Bool}:∀{l:List X} {i:Nat},ze3 p (i+1) l=ze3 (fun i=>p (i+1)) i l:=by
 intro l
 induction l with
 |nil=>intros;rfl
 |cons x l ih=>intro i;simp only[ze3];rw[ih]
theorem z0l (l:List Int):incr l=ze3 (fun i x=>!(zd9 l (i+1) (fun y=>decide (x≤y)))) 0 l.tail:=by
 cases l with
 |nil=>rfl
 |cons x l=>
  unfold incr
  simp only[ze3,List.tail_cons]
  rw[zpg]
  try rfl
def zcd (c:Calendar):Int:=
 bif decide (c.Week<0)||decide (126<c.Week) then 1
 else bif decide (64<(c.Closed.length:Int)) then 13
 else bif c.Closed.all (fun x=>!(decide (x<0)||decide (109572<x))) then (bif incr c.Closed then 0 else 7) else 2
theorem z2o {c:Calendar} (hl:c.Closed.length<1000000000):zah zqv (0,c,())=some (bif c.Closed.all (fun x=>!(decide (x<0)||decide (109572<x))) then .inl (c,()) else .inr (2,())):=by
 have h:=za6 (step:=zqv) (fun i=>((i:Int),c,())) c.Closed (fun _ x=>!(decide (x<0)||decide (109572<x))) (.inr (2,())) (.inl (c,())) hl
  (by simp only[zqv,dge,cond_false])
  (fun i x hx=>by
   have hi:=(List.getElem?_eq_some_iff.1 hx).1
   simp -zeta only[zqv,dlt hi,zar,hx,k_or,zb0,cond_true,zav (show i<9223372036854775807 by omega)]
   cases (decide (x<0)||decide (109572<x))<;>rfl)
 rw[show zah zqv (0,c,())=_ from h,zbv]
theorem zwr {c:Calendar} (hl:c.Closed.length<1000000000):zah zix (1,c,())=some (bif incr c.Closed then .inl () else .inr (7,())):=by
 have h:=za6 (step:=zix) (fun i=>(((i+1:Nat):Int),c,())) c.Closed.tail (fun i x=>!(zd9 c.Closed (i+1) (fun y=>decide (x≤y)))) (.inr (7,())) (.inl ()) (by rw[List.length_tail];omega)
  (by
   rw[List.length_tail]
   have:decide (((c.Closed.length-1+1:Nat):Int)<(c.Closed.length:Int))=false:=by rw[decide_eq_false_iff_not];omega
   simp only[zix,this,cond_false])
  (fun i x hx=>by
   rw[List.getElem?_tail]at hx
   have hi:=(List.getElem?_eq_some_iff.1 hx).1
   have hj:c.Closed[i]?=some c.Closed[i]:=List.getElem?_eq_getElem (by omega)
   simp -zeta only[zix,dlt hi,zar,hx,cond_true,zgn (show i<1000000000 by omega),hj,zd9,zav (show i+1<9223372036854775807 by omega)]
   cases decide (x≤c.Closed[i])<;>rfl)
 rw[show zah zix (1,c,())=_ from h,z0l]
theorem zaaf {c:Calendar} (hl:c.Closed.length<1000000000):qw c=some (zcd c):=by
 unfold qw zcd
 simp -zeta only[k_or]
 dsimp only
 rw[z2o hl]
 cases (decide (c.Week<0)||decide (126<c.Week)) with
 |true=>rfl
 |false=>
  cases decide (64<(c.Closed.length:Int)) with
  |true=>rfl
  |false=>
   cases c.Closed.all (fun x=>!(decide (x<0)||decide (109572<x))) with
   |false=>rfl
   |true=>
    simp only[cond_false,cond_true,zwr hl]
    cases incr c.Closed<;>rfl
end Go.Proofs.YtpaidiaknfhclaaGreatDoor
namespace Go.Proofs.YtpaidiaknfhclaaGreatDoor
open Ev
open Go (IntKind)
def zaty (state:Int):Bool:=(state==4||state==5||state==8||state==9||state==10)
theorem ziv (state:Int):qfa state=some (zaty state):=by
 unfold qfa
 try simp -zeta only[k_or,zb0,zly,zce,cond_true,cond_false]
 try dsimp only
 try simp only[zce]
 try rfl
def zats (c:Custody):Bool:=(bif decide (c.State<1)||decide (12<c.State)||decide (c.Branch<1)||decide (4<c.Branch) then false
 else
  bif c.State==6 then
   decide (0≤c.Who)&&decide (c.Who≤9999)&&decide (1≤c.To)&&decide (c.To≤4)&&!c.To==c.Branch
  else
   bif !c.To==0 then false
   else bif zaty c.State then decide (1≤c.Who)&&decide (c.Who≤9999) else c.Who==0)
theorem ziu (c:Custody):qdm c=some (zats c):=by
 unfold qdm
 try simp -zeta only[k_or,zb0,zly,zce,cond_true,cond_false,ziv]
 try dsimp only
 try simp only[zce]
 try rfl
def zatu (m:Move):Bool:=(decide (0≤m.Day)&&decide (m.Day≤109572)&&decide (1≤m.Item)&&decide (m.Item≤9999)&&
 decide (1≤m.Kind)&&
 decide (m.Kind≤15)&&
 decide (1≤m.Branch)&&
 decide (m.Branch≤4)&&
 decide (0≤m.Who)&&
 decide (m.Who≤9999))
theorem zku (m:Move):qek m=some (zatu m):=by
 unfold qek
 try simp -zeta only[k_or,zb0,zly,zce,cond_true,cond_false,ziv,ziu]
 try dsimp only
 try simp only[zce]
 try rfl
def z2j (kind:Int):(List Int):=(bif kind==1 then [1]
 else
  bif kind==2 then [2,5]
  else
   bif kind==3 then [3,5]
   else
    bif kind==4 then [4,8,9,10]
    else
     bif kind==5||kind==8 then [2,3]
     else
      bif kind==6 then [2,3,5]
      else
       bif kind==7 then [6]
       else
        bif kind==9 then [7]
        else
         bif kind==10 then [3]
         else
          bif kind==11 then [4]
          else
           bif kind==12 then [4,9]
           else
            bif kind==13 then [2,3,5,6,7]
            else bif kind==14 then [11] else bif kind==15 then [1,2,3,11,10] else [])
theorem zo3 (kind:Int):qcs kind=some (z2j kind):=by
 unfold qcs
 try simp -zeta only[k_or,zb0,zly,zce,cond_true,cond_false,ziv,ziu,zku]
 try dsimp only
 try simp only[zce]
 try rfl
def zgi (kind:Int):Int:=(bif kind==1||(kind==4||(kind==7||(kind==9||kind==14))) then 2
 else
  bif kind==2 then 3
  else
   bif kind==3 then 4
   else
    bif kind==5 then 5
    else
     bif kind==6 then 6
     else
      bif kind==8 then 7
      else
       bif kind==10 then 8
       else bif kind==11 then 9 else bif kind==12 then 10 else bif kind==13 then 11 else 12)
theorem zua (kind:Int):qff kind=some (zgi kind):=by
 unfold qff
 try simp -zeta only[k_or,zb0,zly,zce,cond_true,cond_false,ziv,ziu,zku,zo3]
 try dsimp only
 try simp only[zce]
 try rfl
def zatp (c:Custody) (m:Move):Bool:=(bif m.Kind==1||(m.Kind==4||(m.Kind==9||m.Kind==14)) then m.Who==0
 else
  bif m.Kind==7 then m.Who==0&&m.Branch==c.To
  else
   bif m.Kind==6 then !m.Branch==c.Branch
   else
    bif m.Kind==3||(m.Kind==5||m.Kind==10) then m.Branch==c.Branch&&decide (1≤m.Who)
    else m.Branch==c.Branch&&m.Who==0)
theorem z2h (c:Custody) (m:Move):qc9 c m=some (zatp c m):=by
 unfold qc9
 try simp -zeta only[k_or,zb0,zly,zce,cond_true,cond_false,ziv,ziu,zku,zo3,zua]
 try dsimp only
 try simp only[zce]
 try rfl
def z2k (branch:Int):Custody:={State:=1,Branch:=branch,Who:=0,To:=0}
theorem zaea (branch:Int):qdl branch=some (z2k branch):=by
 unfold qdl
 try simp -zeta only[k_or,zb0,zly,zce,cond_true,cond_false,ziv,ziu,zku,zo3,zua,z2h]
 try dsimp only
 try simp only[zce]
 try rfl
def zqs (u:Custody):Bool:=(u.State==4||u.State==9||u.State==10)
theorem zaec (u:Custody):qef u=some (zqs u):=by
 unfold qef
 try simp -zeta only[k_or,zb0,zly,zce,cond_true,cond_false,ziv,ziu,zku,zo3,zua,z2h,zaea]
 try dsimp only
 try simp only[zce]
 try rfl
end Go.Proofs.YtpaidiaknfhclaaGreatDoor
namespace Go.Proofs.YtpaidiaknfhclaaGreatDoor
open Ev
open Go (IntKind)
theorem hasX {X:Type} {p:X→Bool}:∀{l:List X} {i:Nat},zek p (fun _ _=>true) false i l=l.any p:=by
 intro l
 induction l with
 |nil=>intros;rfl
 |cons x l ih=>intro i;simp only[zek,List.any_cons];cases p x with|true=>rfl|false=>rw[cond_false,ih,Bool.false_or]
def zxq (state kind:Int):Bool:=(z2j kind).any (fun x=>x==state)
theorem z7s {X:Type} {b:Bool} {x y:List X} {n:Nat} (hx:x.length<n) (hy:y.length<n):(bif b then x else y).length<n:=by cases b<;>assumption
theorem zw3 (kind:Int):(z2j kind).length<10:=by
 unfold z2j
 repeat' first|apply z7s|decide
theorem zata (state kind:Int):qah state kind=some (zxq state kind):=by
 unfold qah zxq
 rw[zo3]
 have hl:=zw3 kind
 generalize z2j kind=l at hl ⊢
 have h:=zdc (step:=zkk) (fun i=>(state,l,(i:Int),())) l (fun x=>x==state) (fun _ _=>(.inr (true,()):Unit⊕(Bool×Unit))) (.inl ()) (by omega)
  (by simp only[zkk,dge,cond_false])
  (fun i x hx=>by
   have hi:=(List.getElem?_eq_some_iff.1 hx).1
   simp only[zkk,dlt hi,zar,hx,cond_true,zav (show i<9223372036854775807 by omega)])
 dsimp only
 rw[show zah zkk (state,l,0,())=_ from h,←hasX (i:=0)]
 have key:∀(l:List Int) (i:Nat),(match some (zek (fun x=>x==state) (fun _ _=>(.inr (true,()):Unit⊕(Bool×Unit))) (.inl ()) i l) with|some (.inl _)=>some false|some (.inr (v,_))=>some v|none=>none)=some (zek (fun x=>x==state) (fun _ _=>true) false i l):=by
  intro l
  induction l with
  |nil=>intro i;rfl
  |cons x l ih=>intro i;simp only[zek];cases x==state with|true=>rfl|false=>exact ih _
 exact key l 0
def zdp (c:Custody) (m:Move):Custody×Int:=
 bif !(zats c)||!(zatu m) then (⟨0,0,0,0⟩,1)
 else bif !(zxq c.State m.Kind) then (⟨0,0,0,0⟩,12)
 else bif m.Kind==3&&c.State==5&&!(m.Who==c.Who) then (⟨0,0,0,0⟩,16)
 else bif !(zatp c m) then (⟨0,0,0,0⟩,1)
 else bif zgi m.Kind==2 then (⟨zgi m.Kind,m.Branch,0,0⟩,0)
 else bif zgi m.Kind==4||(zgi m.Kind==5||zgi m.Kind==8) then (⟨zgi m.Kind,c.Branch,m.Who,0⟩,0)
 else bif zgi m.Kind==6 then (⟨zgi m.Kind,c.Branch,m.Who,m.Branch⟩,0)
 else bif zgi m.Kind==9||zgi m.Kind==10 then (⟨zgi m.Kind,c.Branch,c.Who,0⟩,0)
 else (⟨zgi m.Kind,c.Branch,0,0⟩,0)
theorem zatq (c:Custody) (m:Move):qct c m=some (zdp c m):=by
 unfold qct zdp
 simp -zeta only[k_or,zb0,zly,ziu,zku,zata,z2h,zua]
 dsimp only
 simp only[zce]
def zgj:Nat→List Move→Int→Custody→(Custody⊕(Int×Int))
 |_,[],_,c=>.inl c
 |i,x::l,item,c=>bif x.Item==item then (bif (zdp c x).2==0 then zgj (i+1) l item (zdp c x).1 else .inr ((i:Int),(zdp c x).2)) else zgj (i+1) l item c
def zer (branch:Int) (l:List Move) (item:Int):Custody×Int×Int:=
 bif decide (branch<1)||decide (4<branch) then (⟨0,0,0,0⟩,-1,1)
 else match zgj 0 l item (z2k branch) with
  |.inl c=>(c,-1,0)
  |.inr (i,e)=>(⟨0,0,0,0⟩,i,e)
theorem zq4 {β:Type} (item:Int) (fin:Custody→β) (out:Int×Int→β):∀(l:List Move) (i:Nat) (c:Custody),
 ze6 (fun i x c=>bif x.Item==item then (bif (zdp c x).2==0 then .inl (zdp c x).1 else .inr (out ((i:Int),(zdp c x).2))) else .inl c) fin i l c=(match zgj i l item c with | .inl c=>fin c | .inr p=>out p):=by
 intro l
 induction l with
 |nil=>intros;rfl
 |cons x l ih=>
  intro i c
  simp only[ze6,zgj]
  cases x.Item==item with
  |false=>exact ih _ _
  |true=>
   simp only[cond_true]
   cases (zdp c x).2==0 with
   |true=>exact ih _ _
   |false=>rfl
theorem zatb {branch:Int} {l:List Move} {item:Int} (hl:l.length<1000000000):qai branch l item=some (zer branch l item):=by
 unfold qai zer
 simp -zeta only[k_or,zaea]
 dsimp only
 have h:=zdd (step:=zkl) (fun i c=>(l,item,(i:Int),(⟨0,0,0,0⟩:Custody),c,())) l
  (fun i x c=>bif x.Item==item then (bif (zdp c x).2==0 then .inl (zdp c x).1 else .inr (.inr ((i:Int),(zdp c x).2,(⟨0,0,0,0⟩:Custody),()))) else .inl c)
  (fun c=>.inl (⟨0,0,0,0⟩,c,())) (by show l.length<18446744073709551616;omega) (fun c=>by simp only[zkl,dge,cond_false])
  (fun i x c hx=>by
   have hi:=(List.getElem?_eq_some_iff.1 hx).1
   simp only[zkl,dlt hi,zar,hx,cond_true,zatq,zav (show i<9223372036854775807 by omega)]
   cases x.Item==item with
   |false=>rfl
   |true=>
    simp only[Bool.not_true,cond_false,cond_true]
    obtain ⟨d,e⟩:=zdp c x
    cases he:e==0 with
    |true=>rfl
    |false=>rfl) (z2k branch)
 rw[zq4 item (fun c=>(.inl (⟨0,0,0,0⟩,c,()):(Custody×Custody×Unit)⊕(Int×Int×Custody×Unit))) (fun p=>.inr (p.1,p.2,(⟨0,0,0,0⟩:Custody),()))]at h
 rw[show zah zkl (l,item,0,(⟨0,0,0,0⟩:Custody),z2k branch,())=_ from h]
 cases (decide (branch<1)||decide (4<branch)) with
 |true=>rfl
 |false=>
  simp only[cond_false]
  cases zgj 0 l item (z2k branch) with
  |inl c=>rfl
  |inr p=>rfl
end Go.Proofs.YtpaidiaknfhclaaGreatDoor
namespace Go.Proofs.YtpaidiaknfhclaaGreatDoor
open Ev
open Go (IntKind)
theorem zf9 {X:Type} (p:X→Bool) (l:List X):(fIdx p l = -1∧l.find? p=none)∨∃(i:Nat) (x:X),fIdx p l=(i:Int)∧l[i]?=some x∧p x=true∧l.find? p=some x:=by
 unfold fIdx
 induction l with
 |nil=>exact .inl ⟨rfl,rfl⟩
 |cons y l ih=>
  simp only[List.findIdx?_cons,List.find?_cons]
  cases hp:p y with
  |true=>exact .inr ⟨0,y,rfl,rfl,hp,rfl⟩
  |false=>
   simp only[Bool.false_eq_true,if_false]
   rcases ih with ⟨h1,h2⟩|⟨i,x,h1,h2,h3,h4⟩
   ·left
    refine ⟨?_,h2⟩
    cases hf:l.findIdx? p with
    |none=>rfl
    |some k=>rw[hf]at h1;simp only at h1;omega
   ·right
    refine ⟨i+1,x,?_,by simpa using h2,h3,h4⟩
    cases hf:l.findIdx? p with
    |none=>rw[hf]at h1;simp only at h1;omega
    |some k=>rw[hf]at h1;simp only[Option.map_some]at h1 ⊢;omega
theorem zz3:decide ((-1:Int)<0)=true:=rfl
theorem zz2 {i:Nat}:decide ((i:Int)<0)=false:=by rw[decide_eq_false_iff_not];omega
def getP (l:List Patron) (id:Int):Patron×Bool:=match l.find? (fun p=>p.ID==id) with|some p=>(p,true)|none=>(⟨0,0,0,0,false,[]⟩,false)
def zvo (l:List Loan) (item:Int):Loan×Bool:=match l.find? (fun n=>n.Item==item) with|some n=>(n,true)|none=>(⟨0,0,0,0,0,false⟩,false)
def z18:Hold:=⟨0,0,0,0,0,0,0,0,0,0,0⟩
def zf6 (c:Circ) (item:Int):Hold×Bool:=match c.Holds.find? (fun h=>h.Got==item) with|some h=>(h,true)|none=>(z18,false)
theorem zavl {c:Circ} {item:Int} (hl:c.Items.length<1000000000):qt c item=some (fIdx (fun x=>x.ID==item) c.Items):=by
 unfold qt
 have h:=zdc (step:=zwq) (fun i=>(item,(i:Int),c,())) c.Items (fun x=>x.ID==item) (fun i _=>(.inr ((i:Int),()):Unit⊕(Int×Unit))) (.inl ()) hl
  (by simp only[zwq,dge,cond_false])
  (fun i x hx=>by
   have hi:=(List.getElem?_eq_some_iff.1 hx).1
   simp only[zwq,dlt hi,zar,hx,cond_true,zav (show i<9223372036854775807 by omega)])
 rw[show zah zwq (item,0,c,())=_ from h,←zga]
 have:=zdy (p:=fun x:Item=>x.ID==item) (g:=fun i _=>(.inr ((i:Int),()):Unit⊕(Int×Unit))) (d:=.inl ()) (fun z=>match (some z:Option (Unit⊕(Int×Unit))) with|some (.inl _)=>some (-1)|some (.inr (v,_))=>some v|none=>none) (l:=c.Items) (i:=0)
 exact this.trans ((zdy (p:=fun x:Item=>x.ID==item) (g:=fun i _=>(i:Int)) (d:=-1) (fun z=>some z) (l:=c.Items) (i:=0)).symm)
theorem zmh {c:Circ} {item:Int} (hl:c.Items.length<1000000000):(qt c item=some (-1)∧c.Items.find? (fun x=>x.ID==item)=none)∨
 ∃(i:Nat) (x:Item),qt c item=some (i:Int)∧c.Items[i]?=some x∧x.ID=item∧c.Items.find? (fun x=>x.ID==item)=some x:=by
 rw[zavl hl]
 rcases zf9 (fun x:Item=>x.ID==item) c.Items with ⟨h1,h2⟩|⟨i,x,h1,h2,h3,h4⟩
 ·exact .inl ⟨by rw[h1],h2⟩
 ·exact .inr ⟨i,x,by rw[h1],h2,by simpa using h3,h4⟩
theorem zati {l:List Patron} {id:Int} (hl:l.length<1000000000):qas l id=some (fIdx (fun x=>x.ID==id) l):=by
 unfold qas
 have h:=zdc (step:=zkq) (fun i=>(l,id,(i:Int),())) l (fun x=>x.ID==id) (fun i _=>(.inr ((i:Int),()):Unit⊕(Int×Unit))) (.inl ()) hl
  (by simp only[zkq,dge,cond_false])
  (fun i x hx=>by
   have hi:=(List.getElem?_eq_some_iff.1 hx).1
   simp only[zkq,dlt hi,zar,hx,cond_true,zav (show i<9223372036854775807 by omega)])
 rw[show zah zkq (l,id,0,())=_ from h,←zga]
 have:=zdy (p:=fun x:Patron=>x.ID==id) (g:=fun i _=>(.inr ((i:Int),()):Unit⊕(Int×Unit))) (d:=.inl ()) (fun z=>match (some z:Option (Unit⊕(Int×Unit))) with|some (.inl _)=>some (-1)|some (.inr (v,_))=>some v|none=>none) (l:=l) (i:=0)
 exact this.trans ((zdy (p:=fun x:Patron=>x.ID==id) (g:=fun i _=>(i:Int)) (d:=-1) (fun z=>some z) (l:=l) (i:=0)).symm)
theorem zo2 {l:List Patron} {id:Int} (hl:l.length<1000000000):qb6 l id=some (getP l id):=by
 unfold qb6 getP
 rw[zati hl]
 rcases zf9 (fun x:Patron=>x.ID==id) l with ⟨h1,h2⟩|⟨i,x,h1,h2,h3,h4⟩
 ·simp only[h1,h2,zz3,cond_true]
 ·simp only[h1,h4,zz2,cond_false,zar,h2]
theorem zatc {l:List Loan} {id:Int} (hl:l.length<1000000000):qaj l id=some (fIdx (fun x=>x.Item==id) l):=by
 unfold qaj
 have h:=zdc (step:=zkm) (fun i=>(l,id,(i:Int),())) l (fun x=>x.Item==id) (fun i _=>(.inr ((i:Int),()):Unit⊕(Int×Unit))) (.inl ()) hl
  (by simp only[zkm,dge,cond_false])
  (fun i x hx=>by
   have hi:=(List.getElem?_eq_some_iff.1 hx).1
   simp only[zkm,dlt hi,zar,hx,cond_true,zav (show i<9223372036854775807 by omega)])
 rw[show zah zkm (l,id,0,())=_ from h,←zga]
 have:=zdy (p:=fun x:Loan=>x.Item==id) (g:=fun i _=>(.inr ((i:Int),()):Unit⊕(Int×Unit))) (d:=.inl ()) (fun z=>match (some z:Option (Unit⊕(Int×Unit))) with|some (.inl _)=>some (-1)|some (.inr (v,_))=>some v|none=>none) (l:=l) (i:=0)
 exact this.trans ((zdy (p:=fun x:Loan=>x.Item==id) (g:=fun i _=>(i:Int)) (d:=-1) (fun z=>some z) (l:=l) (i:=0)).symm)
theorem zatt {l:List Loan} {id:Int} (hl:l.length<1000000000):qdo l id=some (zvo l id):=by
 unfold qdo zvo
 rw[zatc hl]
 rcases zf9 (fun x:Loan=>x.Item==id) l with ⟨h1,h2⟩|⟨i,x,h1,h2,h3,h4⟩
 ·simp only[h1,h2,zz3,cond_true]
 ·simp only[h1,h4,zz2,cond_false,zar,h2]
theorem zatg {c:Circ} {item:Int} (hl:c.Holds.length<1000000000):qaq c item=some (zf6 c item):=by
 unfold qaq zf6
 have h:=zdc (step:=zko) (fun i=>(item,(i:Int),c,z18,())) c.Holds (fun x=>x.Got==item) (fun _ x=>(.inr (true,x,()):(Hold×Unit)⊕(Bool×Hold×Unit))) (.inl (z18,())) hl
  (by simp only[zko,dge,cond_false])
  (fun i x hx=>by
   have hi:=(List.getElem?_eq_some_iff.1 hx).1
   simp only[zko,dlt hi,zar,hx,cond_true,zav (show i<9223372036854775807 by omega)])
 rw[show zah zko (item,0,c,(⟨0,0,0,0,0,0,0,0,0,0,0⟩:Hold),())=_ from h,zvn]
 cases c.Holds.find? (fun x=>x.Got==item)<;>rfl
def zfv (c:Circ) (i:Nat) (x:Item):Bool:=
 !(decide (x.ID<1)||decide (9999<x.ID)||zd9 c.Items i (fun y=>decide (x.ID≤y.ID))||decide (x.Record<1)||decide (9999<x.Record)||decide (x.Branch<1)||decide (4<x.Branch))&&
 !(decide (x.Kind<1)||decide (9<x.Kind)||decide (x.Price<0)||decide (100000000<x.Price)||decide (200<(x.Call.length:Int))||!(vld x.Call))&&
 !(!((zer x.Branch c.Moves x.ID).2.2==0)||!(zck (zer x.Branch c.Moves x.ID).1 x.Custody))
def zfw (c:Circ):Bool:=!(decide (64<(c.Items.length:Int))||decide (2000<(c.Moves.length:Int)))&&(ze3 (zfv c) 0 c.Items&&c.Moves.all (fun m=>(c.Items.find? (fun x=>x.ID==m.Item)).isSome))
structure Short (c:Circ):Prop where
 items:c.Items.length<1000000000
 patrons:c.Patrons.length<1000000000
 loans:c.Loans.length<1000000000
 holds:c.Holds.length<1000000000
 charges:c.Charges.length<1000000000
 rules:c.Rules.length<1000000000
 moves:c.Moves.length<1000000000
 call:∀x∈c.Items,x.Call.length<10000000
 name:∀x∈c.Patrons,x.Name.length<10000000
 cal0:c.Cals.x0.Closed.length<1000000000
 cal1:c.Cals.x1.Closed.length<1000000000
 cal2:c.Cals.x2.Closed.length<1000000000
 cal3:c.Cals.x3.Closed.length<1000000000
theorem z2p {c:Circ} (hs:Short c):zah zqx (0,c,())=some (bif ze3 (zfv c) 0 c.Items then .inl (c,()) else .inr (false,())):=by
 have h:=za6 (step:=zqx) (fun i=>((i:Int),c,())) c.Items (zfv c) (.inr (false,())) (.inl (c,())) hs.items
  (by simp only[zqx,dge,cond_false])
  (fun i x hx=>by
   have hi:=(List.getElem?_eq_some_iff.1 hx).1
   have hm:=List.mem_of_getElem? hx
   have hv:=zadr (s:=x.Call) (by have:=hs.call x hm;omega)
   have hr:=zatb (branch:=x.Branch) (item:=x.ID) hs.moves
   unfold zfv
   rcases i with _|j
   ·simp -zeta only[zqx,dlt hi,zar,hx,k_or,zb0,zz4,cond_false,cond_true,zd9,zav (show 0<9223372036854775807 by omega),hv,hr]
    dsimp only
    generalize (decide (x.ID<1)||decide (9999<x.ID)||false||decide (x.Record<1)||decide (9999<x.Record)||decide (x.Branch<1)||decide (4<x.Branch))=b1
    generalize (decide (x.Kind<1)||decide (9<x.Kind)||decide (x.Price<0)||decide (100000000<x.Price)||decide (200<(x.Call.length:Int))||!(vld x.Call))=b2
    generalize (!((zer x.Branch c.Moves x.ID).2.2==0)||!(zck (zer x.Branch c.Moves x.ID).1 x.Custody))=b3
    cases b1<;>cases b2<;>cases b3<;>rfl
   ·have hj:c.Items[j]?=some c.Items[j]:=List.getElem?_eq_getElem (by omega)
    have:=hs.items
    simp -zeta only[zqx,dlt hi,zar,hx,k_or,zb0,dpos,zgn (show j<1000000000 by omega),hj,cond_false,cond_true,Bool.true_and,zd9,zav (show j+1<9223372036854775807 by omega),hv,hr]
    dsimp only
    generalize (decide (x.ID<1)||decide (9999<x.ID)||decide (x.ID≤c.Items[j].ID)||decide (x.Record<1)||decide (9999<x.Record)||decide (x.Branch<1)||decide (4<x.Branch))=b1
    generalize (decide (x.Kind<1)||decide (9<x.Kind)||decide (x.Price<0)||decide (100000000<x.Price)||decide (200<(x.Call.length:Int))||!(vld x.Call))=b2
    generalize (!((zer x.Branch c.Moves x.ID).2.2==0)||!(zck (zer x.Branch c.Moves x.ID).1 x.Custody))=b3
    cases b1<;>cases b2<;>cases b3<;>rfl)
 exact h
theorem zws {c:Circ} (hs:Short c):zah ziy (0,c,())=some (bif c.Moves.all (fun m=>(c.Items.find? (fun x=>x.ID==m.Item)).isSome) then .inl () else .inr (false,())):=by
 have h:=za6 (step:=ziy) (fun i=>((i:Int),c,())) c.Moves (fun _ m=>(c.Items.find? (fun x=>x.ID==m.Item)).isSome) (.inr (false,())) (.inl ()) hs.moves
  (by simp only[ziy,dge,cond_false])
  (fun i x hx=>by
   have hi:=(List.getElem?_eq_some_iff.1 hx).1
   have:=hs.moves
   simp only[ziy,dlt hi,zar,hx,cond_true,zav (show i<9223372036854775807 by omega)]
   rcases zmh (item:=x.Item) hs.items with ⟨h1,h2⟩|⟨k,y,h1,h2,h3,h4⟩
   ·simp only[h1,h2,zz3,cond_true,Option.isSome_none,cond_false]
   ·simp only[h1,h4,zz2,cond_false,Option.isSome_some,cond_true])
 rw[show zah ziy (0,c,())=_ from h,zbv]
theorem zavn {c:Circ} (hs:Short c):qy c=some (zfw c):=by
 unfold qy zfw
 simp -zeta only[k_or]
 dsimp only
 rw[z2p hs]
 cases (decide (64<(c.Items.length:Int))||decide (2000<(c.Moves.length:Int))) with
 |true=>rfl
 |false=>
  cases ze3 (zfv c) 0 c.Items with
  |false=>rfl
  |true=>
   simp only[cond_false,cond_true,zws hs]
   cases c.Moves.all (fun m=>(c.Items.find? (fun x=>x.ID==m.Item)).isSome)<;>rfl
def zg9 (c:Circ) (n:Loan):Bool:=match c.Items.find? (fun x=>x.ID==n.Item) with
 |some x=>!(!(getP c.Patrons n.Patron).2||!(zqs x.Custody)||!(x.Custody.Who==n.Patron))
 |none=>false
def zfx (c:Circ):Bool:=c.Loans.all (zg9 c)&&c.Items.all (fun x=>(zvo c.Loans x.ID).2==zqs x.Custody)
theorem zavm {c:Circ} (hs:Short c):qx c=some (zfx c):=by
 have h1:=za6 (step:=zqw) (fun i=>((i:Int),c,())) c.Loans (fun _=>zg9 c) (.inr (false,())) (.inl (c,())) hs.loans
  (by simp only[zqw,dge,cond_false])
  (fun i x hx=>by
   have hi:=(List.getElem?_eq_some_iff.1 hx).1
   have:=hs.loans
   unfold zg9
   rcases zmh (item:=x.Item) hs.items with ⟨h1,h2⟩|⟨k,y,h1,h2,h3,h4⟩
   ·simp -zeta only[zqw,dlt hi,zar,hx,cond_true,k_or,zo2 hs.patrons,h1,h2,zz3,Bool.true_or]
    try rfl
   ·simp -zeta only[zqw,dlt hi,zar,hx,cond_true,k_or,zo2 hs.patrons,h1,h2,h4,zz2,Bool.false_or,zaec,zav (show i<9223372036854775807 by omega)]
    dsimp only
    cases (!(getP c.Patrons x.Patron).2||!(zqs y.Custody)||!(y.Custody.Who==x.Patron))<;>rfl)
 have h2:=za6 (step:=zkw) (fun i=>((i:Int),c,())) c.Items (fun _ x=>(zvo c.Loans x.ID).2==zqs x.Custody) (.inr (false,())) (.inl ()) hs.items
  (by simp only[zkw,dge,cond_false])
  (fun i x hx=>by
   have hi:=(List.getElem?_eq_some_iff.1 hx).1
   have:=hs.items
   simp only[zkw,dlt hi,zar,hx,cond_true,zatt hs.loans,zaec,zav (show i<9223372036854775807 by omega)]
   cases (zvo c.Loans x.ID).2==zqs x.Custody<;>rfl)
 unfold qx zfx
 rw[show zah zqw (0,c,())=_ from h1,zbv]
 cases c.Loans.all (zg9 c) with
 |false=>rfl
 |true=>
  simp only[cond_true]
  rw[show zah zkw (0,c,())=_ from h2,zbv]
  cases c.Items.all (fun x=>(zvo c.Loans x.ID).2==zqs x.Custody)<;>rfl
def zg7 (c:Circ) (h:Hold):Bool:=
 !(!(getP c.Patrons h.Patron).2||decide (c.NextHold≤h.ID))&&(h.State==1||(match c.Items.find? (fun x=>x.ID==h.Got) with
  |some x=>!(!(x.Record==h.Record))&&!(h.State==3&&(!(x.Custody.State==5)||!(x.Custody.Branch==h.Pickup)||!(x.Custody.Who==h.Patron)))&&
   !(h.State==2&&(!(x.Custody.State==6)||!(x.Custody.To==h.Pickup)||!(x.Custody.Who==h.Patron)))
  |none=>false))
def zf0 (c:Circ) (x:Item):Bool:=!(x.Custody.State==5)||!(!(zf6 c x.ID).2||!((zf6 c x.ID).1.State==3))
def zfr (c:Circ):Bool:=c.Holds.all (zg7 c)&&c.Items.all (zf0 c)
theorem zavo {c:Circ} (hs:Short c):qz c=some (zfr c):=by
 have h1:=za6 (step:=zqy) (fun i=>((i:Int),c,())) c.Holds (fun _=>zg7 c) (.inr (false,())) (.inl (c,())) hs.holds
  (by simp only[zqy,dge,cond_false])
  (fun i x hx=>by
   have hi:=(List.getElem?_eq_some_iff.1 hx).1
   have:=hs.holds
   unfold zg7
   rcases zmh (item:=x.Got) hs.items with ⟨h1,h2⟩|⟨k,y,h1,h2,h3,h4⟩
   ·simp -zeta only[zqy,dlt hi,zar,hx,cond_true,k_or,zo2 hs.patrons,h1,h2,zz3,zav (show i<9223372036854775807 by omega)]
    dsimp only
    cases (!(getP c.Patrons x.Patron).2||decide (c.NextHold≤x.ID)) with
    |true=>rfl
    |false=>cases x.State==1<;>rfl
   ·simp -zeta only[zqy,dlt hi,zar,hx,cond_true,k_or,zb0,zo2 hs.patrons,h1,h2,h4,zz2,cond_false,zav (show i<9223372036854775807 by omega)]
    dsimp only
    generalize (!(getP c.Patrons x.Patron).2||decide (c.NextHold≤x.ID))=b1
    generalize (x.State==1)=b2
    generalize (!(y.Record==x.Record))=b3
    generalize (!(y.Custody.State==5)||!(y.Custody.Branch==x.Pickup)||!(y.Custody.Who==x.Patron))=b4
    generalize (!(y.Custody.State==6)||!(y.Custody.To==x.Pickup)||!(y.Custody.Who==x.Patron))=b5
    generalize (x.State==3)=b6
    generalize (x.State==2)=b7
    cases b1<;>cases b2<;>cases b3<;>cases b4<;>cases b5<;>cases b6<;>cases b7<;>rfl)
 have h2:=za6 (step:=zkx) (fun i=>((i:Int),c,())) c.Items (fun _=>zf0 c) (.inr (false,())) (.inl ()) hs.items
  (by simp only[zkx,dge,cond_false])
  (fun i x hx=>by
   have hi:=(List.getElem?_eq_some_iff.1 hx).1
   have:=hs.items
   unfold zf0
   simp -zeta only[zkx,dlt hi,zar,hx,cond_true,k_or,zatg hs.holds,zav (show i<9223372036854775807 by omega)]
   dsimp only
   cases x.Custody.State==5 with
   |false=>rfl
   |true=>
    generalize (!(zf6 c x.ID).2||!((zf6 c x.ID).1.State==3))=b
    cases b<;>rfl)
 unfold qz zfr
 rw[show zah zqy (0,c,())=_ from h1,zbv]
 cases c.Holds.all (zg7 c) with
 |false=>rfl
 |true=>
  simp only[cond_true]
  rw[show zah zkx (0,c,())=_ from h2,zbv]
  cases c.Items.all (zf0 c)<;>rfl
end Go.Proofs.YtpaidiaknfhclaaGreatDoor
