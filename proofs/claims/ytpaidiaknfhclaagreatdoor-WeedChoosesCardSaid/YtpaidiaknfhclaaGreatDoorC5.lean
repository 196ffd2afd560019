/- WeedChooses: a part of the proof of the given statement, which is proved without conditions. -/
import Derived.Test.YtpaidiaknfhclaaGreatDoorC4
import Derived.Lib.TrimUEq
import Derived.Lib.ValidU
import Derived.Lib.FieldsP
import Derived.Lib.Join
import Derived.Shelf.Strings.OnBuilder
import Derived.Shelf.Strings.FieldsFuncAny
import Derived.Shelf.Unicode.ValidAny
import Derived.Shelf.SlSortCmp.WholeK
import Derived.Shelf.SlicesG.Cmp
import Derived.Ground.SlsfProg
import Derived.Ground.SlgcProg
import Derived.Ground.NamesProg
import Derived.Ground.Names2Prog
import Derived.Test.YtpaidiaknfhclaaGreatDoorProg
import Derived.WalkKit
import Derived.WalkMore
import Derived.Below
import Derived.Laws.RangeString
import Derived.Laws.Runes
import Derived.LoopTactic
import Derived.Deep.LoopGhost
import Derived.Test.YtpaidiaknfhclaaGreatDoorTie
import Derived.Tactics
import Derived.Tactics2
import Derived.WalkSpells
import Derived.StillTactics
import Derived.Laws.Pointers
import Derived.Deep.RegionHeld3
import Derived.KernelRfl
import Derived.Shelf.SlSortCmp.NoneTotal
import Derived.Laws.BitsLemmas
set_option linter.all false
namespace Go.Proofs.YtpaidiaknfhclaaGreatDoor.Ev
open Go
section
variable {κ:Type} {El:κ→Type} {S:Sg κ El} {P:Program}
structure DelOk (P:Program) (f z:Nat):Prop where
 non:∀{w:World} {base:Option Addr} {n c i:Nat},n≤c→i≤n→Calls P f #[.slice base n c,.int .i64 i,.int .i64 i] w fun e w'=>e=.returned (.slice base n c)∧w'=w
 som:∀{w:World} {b n c i j:Nat} {L:List Value} {t:TypeId},i<j→j≤n→n≤c→w.heap[b]?=some (.cells L.toArray t (0,0))→L.length=c*z→(∀v∈(L.drop (j*z)).take ((n-j)*z),v.oneCell'=true)→
  Calls P f #[.slice (some ⟨b,0,none⟩) n c,.int .i64 i,.int .i64 j] w fun e w'=>
   e=.returned (.slice (some ⟨b,0,none⟩) (i+(n-j)) c)∧∃(M0:Array Value) (zs:List Value),zs.length=(j-i)*z∧w'=(w.drew.setRow b M0).setRow b (Go.splice (Go.splice L (i*z) ((L.drop (j*z)).take ((n-j)*z))) ((i+(n-j))*z) zs).toArray
theorem zahv (sgk:SgOk S) {f:Nat} {fn:Func} {code:Code} (fok:FnOk P f fn code) (hmd:S.md f=.cons) {k:κ} (W:DelOk P f (S.sz k))
 {xs:List (El k)} {i j:Nat} {ds:List (D κ El)} (hij:i≤j) (hj:j≤xs.length) (hwl:WL ds [.lst k xs,.int .i64 (i:Int),.int .i64 (j:Int)]) :
 Con P S f ds [] (.lst k (xs.take i++xs.drop j)) []:=by
 unfold Con
 rw[hmd]
 intro _ k' xs' ds0 hds k2 xs2 hd w I J mb v0 vs hp ho ha
 subst hds
 cases hd
 have hw0:=hwl.2 0 _ _ rfl rfl
 cases hw0 with
 |leaf _ _ hw0=>
 cases hw0
 have ha:=WL.args (cs':=[.int .i64 (i:Int),.int .i64 (j:Int)]) ⟨by simpa using hwl.1,fun q d d' h1 h2=>hwl.2 (q+1) d d' (by simpa using h1) (by simpa using h2)⟩ ha
 obtain ⟨base,c,rfl,hnc,hz⟩:=ho
 obtain ⟨hvs,hav⟩:=ha
 obtain ⟨u1,u2,rfl⟩:∃u1 u2,vs = #[u1,u2]:=by
  simp at hvs
  exact ⟨vs[0],vs[1],by
   apply Array.ext
   ·simp[hvs]
   ·intro j h1 h2;simp at h2;rcases (show j=0∨j=1 by omega) with rfl|rfl<;>rfl⟩
 have hu1:u1=.int .i64 i:=(hav 0 u1 _ rfl rfl).int_inv
 have hu2:u2=.int .i64 j:=(hav 1 u2 _ rfl rfl).int_inv
 subst hu1 hu2
 obtain ⟨n,hn⟩:∃n,n=xs.length:=⟨_,rfl⟩
 have hpos:=sgk.pos k
 have hIw:∀b o,I b o→b<w.heap.size:=hp.ib
 have hres:(xs.take i++xs.drop j).length=i+(n-j):=by simp;omega
 unfold zcb
 rw[MuLone.run_callFunc_enter fok.at_ fok.name fok.body _ w]
 simp only
 show Calls P f #[.slice base xs.length c,.int .i64 (i:Int),.int .i64 (j:Int)] w _
 by_cases heq:i=j
 ·subst heq
  refine (W.non hnc hj).mono (fun e w' he=>?_)
  obtain ⟨rfl,rfl⟩:=he
  have e:xs.take i++xs.drop i=xs:=by simp
  rw[e]
  refine ⟨I,⟨Nat.le_refl _,rfl,rfl,rfl,fun _ _ _=>rfl,fun _ _ h=>h,fun _ _ h=>.inl h,hIw⟩,base,c,rfl,hnc,?_⟩
  rcases hz with ⟨h,_⟩|⟨b,vals,t,rfl,rfl,hb,hvsz,hel⟩
  ·exact .inl h
  ·have hbI:∀o,¬I b o:=fun o h=>(hp.jb b o (hp.ij b o h)).2 (by simp)
   refine .inr ⟨b,vals,t,rfl,hb,hvsz,.inr (by simp),hbI,fun q hq j d hj=>?_⟩
   obtain ⟨v,a,e⟩:=hel q hq j d hj
   exact ⟨v,a,zel sgk e (zcx sgk hj) (fun _ _ h=>⟨rfl,h⟩)⟩
 ·have hlt:i<j:=by omega
  rcases hz with ⟨rfl,rfl⟩|⟨b,vals,t,rfl,rfl,hb,hvsz,hel⟩
  ·exfalso;omega
  ·have hbw:b<w.heap.size:=(Array.getElem?_eq_some_iff.1 hb).1
   have hbI:∀o,¬I b o:=fun o h=>(hp.jb b o (hp.ij b o h)).2 (by simp)
   obtain ⟨L,hL⟩:∃L,L=vals.toList:=⟨_,rfl⟩
   have hLa:vals=L.toArray:=by rw[hL]
   have hLl:L.length=c*S.sz k:=by rw[hL];simpa using hvsz
   rw[hLa]at hb
   have hel':∀i (hi:i<xs.length) j d,(S.enc k xs[i])[j]?=some d→∃v,L[i*S.sz k+j]?=some v∧DR S w I J v d:=fun i hi j d hj=>by
    obtain ⟨v,a,e⟩:=hel i hi j d hj
    exact ⟨v,by rw[hL];simpa using a,e⟩
   have hnL:n*S.sz k≤L.length:=by rw[hLl];exact Nat.mul_le_mul_right _ (by omega)
   have hone:∀v∈L.take (n*S.sz k),v.oneCell'=true:=fun v hv=>by
    obtain ⟨p,hp'⟩:=List.getElem?_of_mem hv
    have hlt:=(List.getElem?_eq_some_iff.1 hp').1
    simp only[List.length_take]at hlt
    have h1:p / S.sz k<n:=(Nat.div_lt_iff_lt_mul hpos).2 (by omega)
    have h2:=Nat.mod_lt p hpos
    have h3:p % S.sz k<(S.enc k (xs[p / S.sz k]'(by omega))).length:=by rw[sgk.sz];exact h2
    obtain ⟨v',a,e⟩:=hel' (p / S.sz k) (by omega) _ _ (List.getElem?_eq_getElem h3)
    rw[Nat.div_add_mod']at a
    rw[List.getElem?_take,if_pos (by omega),a]at hp'
    cases hp'
    exact z28 e (sgk.plain k _ _ (List.getElem_mem h3))
   have hjn:j*S.sz k≤n*S.sz k:=Nat.mul_le_mul_right _ (by omega)
   have hC1:(L.drop (j*S.sz k)).take ((n-j)*S.sz k)=(L.take (n*S.sz k)).drop (j*S.sz k):=by
    rw[List.drop_take];congr 1;rw[Nat.sub_mul]
   have hone1:∀v∈(L.drop (j*S.sz k)).take ((n-j)*S.sz k),v.oneCell'=true:=fun v hv=>hone v (by rw[hC1]at hv;exact List.mem_of_mem_drop hv)
   obtain ⟨C1,hC⟩:∃C1,C1=(L.drop (j*S.sz k)).take ((n-j)*S.sz k):=⟨_,rfl⟩
   have hC1l:C1.length=n*S.sz k-j*S.sz k:=by rw[hC,hC1];simp;omega
   have hC1g:∀q,q<n*S.sz k-j*S.sz k→C1[q]?=L[j*S.sz k+q]?:=fun q hq=>by rw[hC,hC1,List.getElem?_drop,List.getElem?_take,if_pos (by omega)]
   have hij':i*S.sz k≤j*S.sz k:=Nat.mul_le_mul_right _ (by omega)
   have hm:(i+(n-j))*S.sz k=i*S.sz k+(n*S.sz k-j*S.sz k):=by rw[Nat.add_mul,Nat.sub_mul]
   have hz2:(j-i)*S.sz k=j*S.sz k-i*S.sz k:=by rw[Nat.sub_mul]
   refine (W.som hlt hj hnc hb hLl (by rw[←hn];exact hone1)).mono (fun e w' he=>?_)
   obtain ⟨rfl,M0,zs,hzl,rfl⟩:=he
   rw[←hn,←hC]
   have l1:(Go.splice L (i*S.sz k) C1).length=L.length:=length_splice _ _ _ (by omega)
   have l2:(Go.splice (Go.splice L (i*S.sz k) C1) ((i+(n-j))*S.sz k) zs).length=L.length:=by rw[length_splice _ _ _ (by omega),l1]
   generalize hM:Go.splice (Go.splice L (i*S.sz k) C1) ((i+(n-j))*S.sz k) zs=M at l2 ⊢
   have hMg:∀p,p<(i+(n-j))*S.sz k→M[p]?=if p<i*S.sz k then L[p]? else L[p+(j*S.sz k-i*S.sz k)]?:=fun p hp=>by
    rw[←hM,za6 (by omega),if_neg (by omega),za6 (by omega)]
    by_cases h:p<i*S.sz k
    ·rw[if_neg (by omega),if_pos h]
    ·rw[if_pos (by omega),if_neg h,hC1g _ (by omega)]
     congr 1;omega
   have hheap:((w.drew.setRow b M0).setRow b M.toArray).heap[b]?=some (.cells M.toArray t (0,0)):=setRow_heap _ _ _ _ _ _ (setRow_heap w.drew _ _ _ _ _ hb)
   have hoth:∀q,q≠b→((w.drew.setRow b M0).setRow b M.toArray).heap[q]?=w.heap[q]?:=fun q hq=>by rw[setRow_other _ _ _ _ hq,setRow_other _ _ _ _ hq];rfl
   have hsz:((w.drew.setRow b M0).setRow b M.toArray).heap.size=w.heap.size:=by simp only[setRow_size];rfl
   refine ⟨I,⟨by omega,rfl,rfl,rfl,fun q hq hm=>hoth q (by simpa using hm),fun _ _ h=>h,fun _ _ h=>.inl h,fun q o h=>by have:=hIw q o h;omega⟩,
    some ⟨b,0,none⟩,c,by rw[hres],by omega,.inr ⟨b,_,t,rfl,hheap,by simp[l2,hLl],.inr (by simp),hbI,?_⟩⟩
   intro q hq s d hs
   have hs':s<S.sz k:=by have:=(List.getElem?_eq_some_iff.1 hs).1;rwa [sgk.sz]at this
   rw[hres]at hq
   have hlt2:=zcq hs' hq
   by_cases hqi:q<i
   ·have e:(xs.take i++xs.drop j)[q]'(by omega)=xs[q]'(by omega):=by rw[List.getElem_append_left (by simp;omega)];simp
    rw[e]at hs
    obtain ⟨v,a,e2⟩:=hel' q (by omega) s d hs
    refine ⟨v,?_,zel sgk e2 (zcx sgk hs) (fun q o h=>⟨by simp only[World.cell?];rw[hoth q (fun e=>by subst e;exact hbI o h)],h⟩)⟩
    rw[←a,List.getElem?_toArray,hMg _ hlt2,if_pos (zcq hs' hqi)]
   ·have e:(xs.take i++xs.drop j)[q]'(by omega)=xs[q+(j-i)]'(by omega):=by
     have hl:(xs.take i).length=i:=by simp;omega
     rw[List.getElem_append_right (by omega)]
     simp only[hl,List.getElem_drop]
     congr 1;omega
    rw[e]at hs
    obtain ⟨v,a,e2⟩:=hel' (q+(j-i)) (by omega) s d hs
    refine ⟨v,?_,zel sgk e2 (zcx sgk hs) (fun q o h=>⟨by simp only[World.cell?];rw[hoth q (fun e=>by subst e;exact hbI o h)],h⟩)⟩
    have hqz:i*S.sz k≤q*S.sz k:=Nat.mul_le_mul_right _ (by omega)
    rw[←a,List.getElem?_toArray,hMg _ hlt2,if_neg (by omega)]
    congr 1
    rw[Nat.add_mul,hz2];omega
theorem zsr (sgk:SgOk S) {f:Nat} {fn:Func} {code:Code} (fok:FnOk P f fn code) (hmd:S.md f=.cons) {k:κ} (W:DelOk P f (S.sz k))
 {xs r:List (El k)} {i j:Int} {ds:List (D κ El)} (hwl:WL ds [.lst k xs,.int .i64 i,.int .i64 j]) (hr:zl8 xs i j=some r):Con P S f ds [] (.lst k r) []:=by
 unfold zl8 at hr
 rw[zad]at hr
 split at hr
 ·rename_i h
  simp only[Bool.and_eq_true,decide_eq_true_eq]at h
  cases hr
  obtain ⟨n,rfl⟩:=Int.eq_ofNat_of_zero_le h.1.1.1
  obtain ⟨m,rfl⟩:=Int.eq_ofNat_of_zero_le (Int.le_trans h.1.1.1 h.1.1.2)
  exact zahv sgk fok hmd W (i:=n) (j:=m) (by omega) (by omega) hwl
 ·cases hr
end
end Go.Proofs.YtpaidiaknfhclaaGreatDoor.Ev
namespace Go.Proofs.YtpaidiaknfhclaaGreatDoor.Ev
open Go
def badC (c:Nat):Bool:=decide (c<32)||(decide (127≤c)&&decide (c≤159))||decide (65535<c)
theorem zex {c:Nat}:badC c=true↔c<32∨(127≤c∧c≤159)∨65535<c:=by
 unfold badC;simp only[Bool.or_eq_true,Bool.and_eq_true,decide_eq_true_eq];omega
theorem zaw9 {a:UInt8} {r:List UInt8} {k:Nat}:(a::r).getD (k+1) 0=r.getD k 0:=by simp[List.getD]
set_option maxHeartbeats 2000000 in
theorem zkd {l:List UInt8} (hl:l≠[]):dcd l=if ((Lib.decodeL l).1=65533∧(Lib.decodeL l).2=1)∨badC (Lib.decodeL l).1=true then (0,0) else Lib.decodeL l:=by
 cases l with
 |nil=>exact absurd rfl hl
 |cons a r=>
  rw[Lib.decodeL_N]
  have ha:=a.toNat_lt
  simp only[zex]
  rcases r with _|⟨b,_|⟨c,_|⟨d,r⟩⟩⟩
  ·simp only[List.getD_cons_zero,List.getD_cons_succ,List.getD_nil,List.length_cons,List.length_nil]
   obtain ⟨X,hX⟩:∃X,Lib.decodeN (0+1) a.toNat (0:UInt8).toNat (0:UInt8).toNat (0:UInt8).toNat=X:=⟨_,rfl⟩
   rw[hX]
   unfold Lib.decodeN at hX
   unfold dcd
   dsimp only
   split at hX
   ·subst hX
    repeat' split
    all_goals first|with_reducible rfl|(exfalso;omega)
   ·rw[if_neg (by omega),if_neg (by omega),if_neg (by omega)]at hX
    subst hX
    repeat' split
    all_goals first|with_reducible rfl|(exfalso;omega)
  ·simp only[List.getD_cons_zero,List.getD_cons_succ,List.getD_nil,List.length_cons,List.length_nil]
   have hb:=b.toNat_lt
   obtain ⟨X,hX⟩:∃X,Lib.decodeN (0+1+1) a.toNat b.toNat (0:UInt8).toNat (0:UInt8).toNat=X:=⟨_,rfl⟩
   rw[hX]
   unfold Lib.decodeN at hX
   unfold dcd
   dsimp only
   repeat' split at hX
   all_goals subst hX
   all_goals dsimp only
   all_goals repeat' split
   all_goals first|with_reducible rfl|(exfalso;omega)|(simp only[Prod.mk.injEq,and_true];omega)
  ·simp only[List.getD_cons_zero,List.getD_cons_succ,List.getD_nil,List.length_cons,List.length_nil]
   have hb:=b.toNat_lt
   have hc:=c.toNat_lt
   obtain ⟨X,hX⟩:∃X,Lib.decodeN (0+1+1+1) a.toNat b.toNat c.toNat (0:UInt8).toNat=X:=⟨_,rfl⟩
   rw[hX]
   unfold Lib.decodeN at hX
   unfold dcd
   dsimp only
   repeat' split at hX
   all_goals subst hX
   all_goals dsimp only
   all_goals repeat' split
   all_goals first|with_reducible rfl|(exfalso;omega)|(simp only[Prod.mk.injEq,and_true];omega)
  ·simp only[List.getD_cons_zero,List.getD_cons_succ,List.getD_nil,List.length_cons,List.length_nil]
   have hb:=b.toNat_lt
   have hc:=c.toNat_lt
   have hd:=d.toNat_lt
   obtain ⟨X,hX⟩:∃X,Lib.decodeN (r.length+1+1+1+1) a.toNat b.toNat c.toNat d.toNat=X:=⟨_,rfl⟩
   rw[hX]
   unfold Lib.decodeN at hX
   unfold dcd
   dsimp only
   repeat' split at hX
   all_goals subst hX
   all_goals dsimp only
   all_goals repeat' split
   all_goals first|with_reducible rfl|(exfalso;omega)|(simp only[Prod.mk.injEq,and_true];omega)
def okN:Nat→List UInt8→Bool
 |0,_=>true
 |n+1,l=>if l=[] then true else if badC (Lib.decodeL l).1 then false else okN n (l.drop (Lib.decodeL l).2)
theorem zd8 {l:List UInt8} (hl:l≠[]):1≤(Lib.decodeL l).2∧(Lib.decodeL l).2≤l.length:=by
 cases l with
 |nil=>exact absurd rfl hl
 |cons a r=>
  rw[Lib.decodeL_N]
  unfold Lib.decodeN
  have:1≤(a::r).length:=by simp
  repeat' split
  all_goals simp only
  all_goals omega
theorem zaqm:∀(n:Nat) (l:List UInt8),vldN n l=(Lib.validGoD n l&&okN n l):=by
 intro n
 induction n with
 |zero=>intro l;rfl
 |succ n ih=>
  intro l
  simp only[vldN,Lib.validGoD,okN]
  by_cases hl:l=[]
  ·simp[hl]
  ·simp only[hl,if_false]
   rw[zkd hl]
   by_cases h1:(Lib.decodeL l).1=65533∧(Lib.decodeL l).2=1
   ·simp[h1]
   ·by_cases h2:badC (Lib.decodeL l).1=true
    ·simp[h2]
    ·have:=zd8 hl
     have hne:¬(((Lib.decodeL l).1=65533∧(Lib.decodeL l).2=1)∨badC (Lib.decodeL l).1=true):=fun h=>h.elim h1 h2
     rw[if_neg hne,if_neg (show ¬(Lib.decodeL l).2=0 by omega),if_neg h1,if_neg h2]
     exact ih _
theorem zabe:∀(n m:Nat) (l:List UInt8),l.length≤n→l.length≤m→okN n l=okN m l:=by
 intro n
 induction n with
 |zero=>intro m l h1 h2;have:l=[]:=List.length_eq_zero_iff.1 (by omega);subst this;cases m<;>simp[okN]
 |succ n ih=>
  intro m l h1 h2
  by_cases hl:l=[]
  ·subst hl;cases m<;>simp[okN]
  ·have hp:=zd8 hl
   have:0<l.length:=List.length_pos_iff.2 hl
   obtain ⟨m,rfl⟩:∃k,m=k+1:=⟨m-1,by omega⟩
   simp only[okN,hl,if_false]
   split
   ·rfl
   ·exact ih m _ (by rw[List.length_drop];omega) (by rw[List.length_drop];omega)
theorem z1f (xs:List (List UInt8)) (y sep:List UInt8):Lib.join (xs++[y]) sep=if xs=[] then y else Lib.join xs sep++(sep++y):=by
 cases xs with
 |nil=>simp[Lib.join_one]
 |cons x xs=>
  rw[List.cons_append,Lib.join_cons,Lib.join_cons]
  simp[Lib.joinTail]
def pcs (l:List UInt8) (acc:List (Nat×Nat)):List (List UInt8):=acc.map fun x=>(l.take x.2).drop x.1
def J (l:List UInt8) (acc:List (Nat×Nat)):List UInt8:=Lib.join (pcs l acc) [32]
theorem zaqr (l:List UInt8):J l []=[]:=rfl
theorem zxv (l:List UInt8) (acc:List (Nat×Nat)) (a b:Nat):J l (acc++[(a,b)])=if acc=[] then (l.take b).drop a else J l acc++([32]++(l.take b).drop a):=by
 unfold J pcs
 rw[List.map_append,List.map_singleton,z1f]
 simp only[List.map_eq_nil_iff]
theorem J_ne {l:List UInt8}:∀{acc:List (Nat×Nat)},(∀x∈acc,x.1<x.2∧x.2≤l.length)→acc≠[]→J l acc≠[]:=by
 intro acc h hne
 obtain ⟨x,r,rfl⟩:=List.exists_cons_of_ne_nil hne
 have hx:=h x (by simp)
 unfold J pcs
 rw[List.map_cons,Lib.join_cons]
 intro e
 have:=congrArg List.length e
 simp only[List.length_append,List.length_drop,List.length_take,List.length_nil]at this
 omega
theorem zy3 {s:ByteArray} {l:List UInt8} (hl:s.data.toList=l) (p:Nat→Bool) (hp:∀c,p c=blk c):∀(f pos:Nat) (st:Option Nat) (acc:List (Nat×Nat)) (gap:Bool),
 s.size≤pos+f→pos≤s.size→vldN f (l.drop pos)=true→(∀a,st=some a→a<pos∧gap=false)→(st=none→gap=true∨acc=[])→(∀x∈acc,x.1<x.2∧x.2≤l.length)→
 J l (Lib.closeSpans s (Lib.spansFromP p s f pos st acc))=clnN f (l.drop pos) (match st with|some a=>J l (acc++[(a,pos)])|none=>J l acc) gap:=by
 have hsz:s.size=l.length:=by rw[Lib.size_eq,hl]
 intro f
 induction f with
 |zero=>
  intro pos st acc gap h1 h2 hv hs hn hacc
  have:pos=s.size:=by omega
  subst this
  simp only[Lib.spansFromP,clnN]
  cases st with
  |none=>rfl
  |some a=>rfl
 |succ f ih=>
  intro pos st acc gap h1 h2 hv hs hn hacc
  by_cases hlt:pos<s.size
  ·have hne:l.drop pos≠[]:=by simp;omega
   have hdec:Lib.decodeL (l.drop pos)=Utf8.decode s pos:=by rw[←hl];exact Lib.decodeL_drop s pos
   have hpos:=zd8 hne
   rw[List.length_drop]at hpos
   have hv2:=hv
   simp only[vldN,hne,if_false]at hv2
   have hd:=zkd hne
   split at hd
   ·rw[hd]at hv2;simp at hv2
   ·rename_i hnb
    have hz:¬(dcd (l.drop pos)).2=0:=by rw[hd];omega
    rw[if_neg hz,List.drop_drop,hd,hdec]at hv2
    have hw:wid (l.drop pos)=(Utf8.decode s pos).2:=by unfold wid;rw[hd,hdec,if_neg (by rw[←hdec];omega)]
    rw[hdec]at hpos
    obtain ⟨k,hk⟩:∃k,(Utf8.decode s pos).2=k:=⟨_,rfl⟩
    rw[clnN,if_neg hne,List.drop_drop,hw,hd,hdec]
    simp only[Lib.spansFromP,hlt,if_true,hp]
    rw[hk]at hpos hv2 ⊢
    have htk:∀a,a≤pos→(l.take pos).drop a++(l.drop pos).take k=(l.take (pos+k)).drop a:=by
     intro a ha
     rw[List.take_add,List.drop_append_of_le_length (by simp;omega)]
    cases hb:blk (Utf8.decode s pos).1 with
    |true=>
     simp only[if_true]
     cases st with
     |none=>exact ih (pos+k) none acc true (by omega) (by omega) hv2 (fun a h=>by cases h) (fun _=>.inl rfl) hacc
     |some a=>
      have:=(hs a rfl).1
      exact ih (pos+k) none (acc++[(a,pos)]) true (by omega) (by omega) hv2 (fun a h=>by cases h) (fun _=>.inl rfl) (fun x hx=>by
       rcases List.mem_append.1 hx with h|h
       ·exact hacc x h
       ·simp only[List.mem_singleton]at h;subst h;exact ⟨this,by simp only;omega⟩)
    |false=>
     simp only[Bool.false_eq_true,if_false]
     cases st with
     |some a=>
      obtain ⟨ha,hg⟩:=hs a rfl
      subst hg
      rw[ih (pos+k) (some a) acc false (by omega) (by omega) hv2 (fun b h=>by cases h;exact ⟨by omega,rfl⟩) (fun h=>by cases h) hacc]
      simp only[Bool.false_and,Bool.false_eq_true,if_false]
      congr 1
      rw[zxv,zxv]
      split
      ·exact (htk a (by omega)).symm
      ·rw[←htk a (by omega)];simp
     |none=>
      rw[ih (pos+k) (some pos) acc false (by omega) (by omega) hv2 (fun b h=>by cases h;exact ⟨by omega,rfl⟩) (fun h=>by cases h) hacc]
      congr 1
      dsimp only
      rw[zxv]
      have e:=htk pos (Nat.le_refl _)
      rw[@List.drop_eq_nil_of_le _ (l.take pos) _ (by simp;omega),List.nil_append]at e
      rcases hn rfl with hg|hacc0
      ·subst hg
       by_cases h0:acc=[]
       ·subst h0;simp[zaqr,e]
       ·have:=J_ne hacc h0
        have hb2:(J l acc==[])=false:=by simpa using this
        simp[h0,hb2,e]
      ·subst hacc0;simp[zaqr,e]
  ·have:pos=s.size:=by omega
   subst this
   have hnil:l.drop s.size=[]:=by rw[hsz];simp
   rw[Lib.spansFromP_end _ _ _ _ _ _ hlt,clnN,if_pos hnil]
   cases st with
   |none=>rfl
   |some a=>rfl
theorem zvw {s:ByteArray} {p:Nat→Bool} (hp:∀c,p c=blk c) (hv:vld s.data.toList=true):Lib.join ((Lib.goFieldsP p s).map (·.data.toList)) [32]=cln s.data.toList:=by
 have h:=zy3 (s:=s) rfl p hp s.size 0 none [] false (by omega) (by omega) (by rw[List.drop_zero,Lib.size_eq];exact hv) (fun a h=>by cases h) (fun _=>.inr rfl) (fun x h=>by cases h)
 rw[List.drop_zero]at h
 have hc:cln s.data.toList=clnN s.size s.data.toList [] false:=by unfold cln;rw[Lib.size_eq]
 rw[hc]
 refine Eq.trans ?_ h
 unfold J pcs Lib.goFieldsP Lib.spansOfP
 rw[List.map_map]
 congr 1
 refine List.map_congr_left (fun x _=>?_)
 show (s.extract x.1 x.2).data.toList=(s.data.toList.take x.2).drop x.1
 rw[Lib.extract_data,List.drop_take]
theorem z6q (p:Nat→Bool) (s:ByteArray):∀(f pos:Nat) (st:Option Nat) (acc:List (Nat×Nat)),(Lib.spansFromP p s f pos st acc).1.length≤acc.length+f:=by
 intro f
 induction f with
 |zero=>intro pos st acc;exact Nat.le_refl _
 |succ f ih=>
  intro pos st acc
  unfold Lib.spansFromP
  split
  ·split
   ·cases st with
    |none=>exact Nat.le_trans (ih _ _ _) (by omega)
    |some a=>exact Nat.le_trans (ih _ _ _) (by simp;omega)
   ·cases st with
    |none=>exact Nat.le_trans (ih _ _ _) (by omega)
    |some a=>exact Nat.le_trans (ih _ _ _) (by omega)
  ·simp
theorem zv9 (p:Nat→Bool) (s:ByteArray):(Lib.goFieldsP p s).length≤s.size+1:=by
 have:=z6q p s s.size 0 none []
 unfold Lib.goFieldsP Lib.spansOfP Lib.closeSpans
 rw[List.length_map]
 split
 ·rw[List.length_append];simp at this ⊢;omega
 ·simp at this;omega
theorem z8u:∀(n:Nat) (l out:List UInt8) (gap:Bool),(clnN n l out gap).length≤out.length+2*l.length:=by
 intro n
 induction n with
 |zero=>intro l out gap;simp[clnN]
 |succ n ih=>
  intro l out gap
  rw[clnN]
  split
  ·omega
  ·have hw:1≤wid l:=by unfold wid;split<;>omega
   have hl:0<l.length:=List.length_pos_iff.2 (by assumption)
   split
   ·have:=ih (l.drop (wid l)) out true
    rw[List.length_drop]at this
    omega
   ·have:=ih (l.drop (wid l)) ((if gap&&!(out==[]) then out++[32] else out)++l.take (wid l)) false
    rw[List.length_drop]at this
    have h2:(if gap&&!(out==[]) then out++[32] else out).length≤out.length+1:=by split<;>simp
    simp only[List.length_append,List.length_take]at this
    omega
theorem zahu (s:ByteArray):(cln s.data.toList).length≤2*s.size:=by
 have:=z8u s.data.toList.length s.data.toList [] false
 rw[Lib.size_eq]
 simpa[cln]using this
end Go.Proofs.YtpaidiaknfhclaaGreatDoor.Ev
namespace Go.Proofs
open Go.Shelf
def Tryz.laysValid_ren:Go.Shelf.Ren:=⟨fun|196=>193|259=>239|n=>n,fun|9=>9|4=>4|3=>3|5=>5|12=>12|119=>238|0=>0|46=>145|139=>241|138=>240|53=>197|n=>n,fun|3=>0|4=>1|n=>n⟩
theorem Tryz.laysValid:Go.Proofs.Lays.n196 Tryz.prog Tryz.laysValid_ren:={
 mixed:=by kernel_rfl
 f196:=Tryz.func193.trans (congrArg some (by kernel_rfl))
 f259:=Tryz.func239.trans (congrArg some (by kernel_rfl))
 t0:=Tryz.underlying0
 a0:=Tryz.isAgg0
 z0:=Tryz.sizeOf0
 v0:=Tryz.zeroValue0
 t3:=Tryz.underlying3
 a3:=Tryz.isAgg3
 z3:=Tryz.sizeOf3
 v3:=Tryz.zeroValue3
 t4:=Tryz.underlying4
 a4:=Tryz.isAgg4
 z4:=Tryz.sizeOf4
 v4:=Tryz.zeroValue4
 t5:=Tryz.underlying5
 a5:=Tryz.isAgg5
 z5:=Tryz.sizeOf5
 v5:=Tryz.zeroValue5
 t9:=Tryz.underlying9
 a9:=Tryz.isAgg9
 z9:=Tryz.sizeOf9
 v9:=Tryz.zeroValue9
 t12:=Tryz.underlying12
 a12:=Tryz.isAgg12
 z12:=Tryz.sizeOf12
 v12:=Tryz.zeroValue12
 t46:=Tryz.underlying145
 a46:=Tryz.isAgg145
 z46:=Tryz.sizeOf145
 v46:=Tryz.zeroValue145
 t53:=Tryz.underlying197
 a53:=Tryz.isAgg197
 z53:=Tryz.sizeOf197
 v53:=Tryz.zeroValue197
 t119:=Tryz.underlying238
 a119:=Tryz.isAgg238
 z119:=Tryz.sizeOf238
 t138:=Tryz.underlying240
 a138:=Tryz.isAgg240
 z138:=Tryz.sizeOf240
 v138:=Tryz.zeroValue240
 t139:=Tryz.underlying241
 a139:=Tryz.isAgg241
 z139:=Tryz.sizeOf241
 v139:=Tryz.zeroValue241
 g3:=by kernel_rfl
 g4:=by kernel_rfl}
def Tryz.lays156_ren:Go.Shelf.Ren:=⟨fun|156=>240|165=>255|166=>256|169=>257|240=>266|241=>267|276=>273|277=>274|n=>n,fun|31=>245|9=>9|3=>3|4=>4|0=>0|20=>20|72=>261|76=>264|70=>258|37=>259|75=>263|127=>276|164=>279|5=>5|80=>266|n=>n,fun|n=>n⟩
theorem Tryz.lays156:Go.Proofs.Lays.n156 Tryz.prog Tryz.lays156_ren:={
 mixed:=by kernel_rfl
 f156:=Tryz.func240.trans (congrArg some (by kernel_rfl))
 f165:=Tryz.func255.trans (congrArg some (by kernel_rfl))
 f166:=Tryz.func256.trans (congrArg some (by kernel_rfl))
 f169:=Tryz.func257.trans (congrArg some (by kernel_rfl))
 f240:=Tryz.func266.trans (congrArg some (by kernel_rfl))
 f241:=Tryz.func267.trans (congrArg some (by kernel_rfl))
 f276:=Tryz.func273.trans (congrArg some (by kernel_rfl))
 f277:=Tryz.func274.trans (congrArg some (by kernel_rfl))
 t0:=Tryz.underlying0
 a0:=Tryz.isAgg0
 z0:=Tryz.sizeOf0
 v0:=Tryz.zeroValue0
 t3:=Tryz.underlying3
 a3:=Tryz.isAgg3
 z3:=Tryz.sizeOf3
 v3:=Tryz.zeroValue3
 t4:=Tryz.underlying4
 a4:=Tryz.isAgg4
 z4:=Tryz.sizeOf4
 v4:=Tryz.zeroValue4
 t9:=Tryz.underlying9
 a9:=Tryz.isAgg9
 z9:=Tryz.sizeOf9
 v9:=Tryz.zeroValue9
 t20:=Tryz.underlying20
 a20:=Tryz.isAgg20
 z20:=Tryz.sizeOf20
 v20:=Tryz.zeroValue20
 t31:=Tryz.underlying245
 a31:=Tryz.isAgg245
 z31:=Tryz.sizeOf245
 v31:=Tryz.zeroValue245
 t37:=Tryz.underlying259
 a37:=Tryz.isAgg259
 z37:=Tryz.sizeOf259
 v37:=Tryz.zeroValue259
 t70:=Tryz.underlying258
 a70:=Tryz.isAgg258
 z70:=Tryz.sizeOf258
 v70:=Tryz.zeroValue258
 t72:=Tryz.underlying261
 a72:=Tryz.isAgg261
 z72:=Tryz.sizeOf261
 v72:=Tryz.zeroValue261
 t75:=Tryz.underlying263
 a75:=Tryz.isAgg263
 z75:=Tryz.sizeOf263
 v75:=Tryz.zeroValue263
 t76:=Tryz.underlying264
 a76:=Tryz.isAgg264
 z76:=Tryz.sizeOf264
 v76:=Tryz.zeroValue264
 t127:=Tryz.underlying276
 a127:=Tryz.isAgg276
 z127:=Tryz.sizeOf276
 v127:=Tryz.zeroValue276
 t164:=Tryz.underlying279
 a164:=Tryz.isAgg279
 z164:=Tryz.sizeOf279
 v164:=Tryz.zeroValue279}
theorem Tryz.Builder_Extra_156:Builder.Extra Tryz.prog Tryz.lays156_ren:={
 sizeBuilder:=by kernel_rfl
 liesBuilder:=by kernel_rfl
 t5:=Tryz.underlying5
 a5:=Tryz.isAgg5
 z5:=Tryz.sizeOf5
 v5:=Tryz.zeroValue5
 infoByte:=by kernel_rfl
 cellsByte:=by kernel_rfl
 sizeByte:=by kernel_rfl
 neB5:=by decide}
open Go.RowKit in
theorem Tryz.strings_Join_none (a:Option Addr) (c:Nat) (sep:ByteArray) (w:World) :
 Calls Tryz.prog 240 #[.slice a 0 c,.string sep] w fun e w'=>e=.returned (.string ⟨#[]⟩)∧w'=w:=Any.strings_Join_none Tryz.lays156 Tryz.Builder_Extra_156 a c sep w
open Go.RowKit in
theorem Tryz.strings_Join (bk o c:Nat) (xs:List ByteArray) (sep:ByteArray) (w:World) (hcells:∀(j:Nat) x,xs[j]?=some x→w.cell? ⟨bk,o+j,none⟩=some (.string x)) (hbk:bk<w.heap.size) (hN:xs.length≤140737488355328) (hcap:xs.length≤c) (hlen:(Lib.join (xs.map (·.data.toList)) sep.data.toList).length≤140737488355328) :
 Calls Tryz.prog 240 #[.slice (some ⟨bk,o,none⟩) xs.length c,.string sep] w fun e w'=>e=.returned (.string ⟨(Lib.join (xs.map (·.data.toList)) sep.data.toList).toArray⟩)∧Below w.heap.size w w':=Any.strings_Join Tryz.lays156 Tryz.Builder_Extra_156 bk o c xs sep w hcells hbk hN hcap hlen
def Tryz.lays229_ren:Go.Shelf.Ren:=⟨fun|229=>241|n=>n,fun|9=>9|40=>247|31=>245|152=>267|3=>3|0=>0|4=>4|21=>21|154=>269|n=>n,fun|n=>n⟩
theorem Tryz.lays229:Go.Proofs.Lays.n229 Tryz.prog Tryz.lays229_ren:={
 mixed:=by kernel_rfl
 f229:=Tryz.func241.trans (congrArg some (by kernel_rfl))
 t0:=Tryz.underlying0
 a0:=Tryz.isAgg0
 z0:=Tryz.sizeOf0
 v0:=Tryz.zeroValue0
 t3:=Tryz.underlying3
 a3:=Tryz.isAgg3
 z3:=Tryz.sizeOf3
 v3:=Tryz.zeroValue3
 t4:=Tryz.underlying4
 a4:=Tryz.isAgg4
 z4:=Tryz.sizeOf4
 v4:=Tryz.zeroValue4
 t9:=Tryz.underlying9
 a9:=Tryz.isAgg9
 z9:=Tryz.sizeOf9
 v9:=Tryz.zeroValue9
 t21:=Tryz.underlying21
 a21:=Tryz.isAgg21
 z21:=Tryz.sizeOf21
 v21:=Tryz.zeroValue21
 t31:=Tryz.underlying245
 a31:=Tryz.isAgg245
 z31:=Tryz.sizeOf245
 v31:=Tryz.zeroValue245
 t40:=Tryz.underlying247
 a40:=Tryz.isAgg247
 z40:=Tryz.sizeOf247
 v40:=Tryz.zeroValue247
 t152:=Tryz.underlying267
 a152:=Tryz.isAgg267
 z152:=Tryz.sizeOf267
 v152:=Tryz.zeroValue267
 t154:=Tryz.underlying269
 a154:=Tryz.isAgg269
 z154:=Tryz.sizeOf269
 v154:=Tryz.zeroValue269}
open Go.RowKit Go.Lib in
theorem Tryz.strings_FieldsFunc_runes (g:Nat) (lb:Array Value) (eg:∀args w,(callFunc g args).run Tryz.prog w=.ok (.enter g args) w) (p:Nat→Bool) (s:ByteArray) (w:World) (hs:s.size≤4294967296) (hp:PredAtRunes Tryz.prog g lb p w) :
 Calls Tryz.prog 241 #[.string s,.func (.func g) #[] lb] w fun e w'=>∃A,e=.returned (.slice (some ⟨A,0,none⟩) (Lib.goFieldsP p s).length (Lib.goFieldsP p s).length)∧w.heap.size≤A∧
  w'.ownsRow w.heap.size 9 1 (.slice (some ⟨A,0,none⟩) (Lib.goFieldsP p s).length (Lib.goFieldsP p s).length) (Lib.goFieldsP p s).length ((Lib.goFieldsP p s).map Value.string)∧Below w.heap.size w w':=Any.strings_FieldsFunc_runes Tryz.lays229 g lb eg p s w hs hp (by kernel_rfl) (by kernel_rfl)
open Go.RowKit Go.Lib in
theorem Tryz.strings_FieldsFunc (g:Nat) (lb:Array Value) (eg:∀args w,(callFunc g args).run Tryz.prog w=.ok (.enter g args) w) (p:Nat→Bool) (s:ByteArray) (w:World) (hs:s.size≤4294967296) (hp:PredAt Tryz.prog g lb encR p w) :
 Calls Tryz.prog 241 #[.string s,.func (.func g) #[] lb] w fun e w'=>∃A,e=.returned (.slice (some ⟨A,0,none⟩) (Lib.goFieldsP p s).length (Lib.goFieldsP p s).length)∧w.heap.size≤A∧
  w'.ownsRow w.heap.size 9 1 (.slice (some ⟨A,0,none⟩) (Lib.goFieldsP p s).length (Lib.goFieldsP p s).length) (Lib.goFieldsP p s).length ((Lib.goFieldsP p s).map Value.string)∧Below w.heap.size w w':=Any.strings_FieldsFunc Tryz.lays229 g lb eg p s w hs hp (by kernel_rfl) (by kernel_rfl)
def Tryz.laysSort_ren:Go.Shelf.Ren:=⟨fun|6=>59|15=>116|14=>115|28=>183|29=>184|20=>175|21=>176|22=>177|23=>178|24=>179|25=>180|26=>181|27=>182|46=>232|47=>233|48=>234|49=>235|50=>236|57=>254|n=>n,fun|22=>60|24=>63|25=>100|3=>3|39=>145|0=>0|53=>195|55=>197|4=>4|46=>188|45=>187|50=>192|5=>5|9=>9|66=>230|70=>234|76=>256|77=>37|n=>n,fun|n=>n⟩
theorem Tryz.laysSort:Go.Proofs.SlLaysF0.n6 Tryz.prog Tryz.laysSort_ren:={
 mixed:=by kernel_rfl
 f6:=⟨Tryz.f59.name,by decide,Tryz.func59.trans (congrArg some (by kernel_rfl))⟩
 f14:=⟨Tryz.f115.name,by decide,Tryz.func115.trans (congrArg some (by kernel_rfl))⟩
 f15:=Tryz.func116.trans (congrArg some (by kernel_rfl))
 f20:=⟨Tryz.f175.name,by decide,Tryz.func175.trans (congrArg some (by kernel_rfl))⟩
 f21:=⟨Tryz.f176.name,by decide,Tryz.func176.trans (congrArg some (by kernel_rfl))⟩
 f22:=⟨Tryz.f177.name,by decide,Tryz.func177.trans (congrArg some (by kernel_rfl))⟩
 f23:=⟨Tryz.f178.name,by decide,Tryz.func178.trans (congrArg some (by kernel_rfl))⟩
 f24:=⟨Tryz.f179.name,by decide,Tryz.func179.trans (congrArg some (by kernel_rfl))⟩
 f25:=⟨Tryz.f180.name,by decide,Tryz.func180.trans (congrArg some (by kernel_rfl))⟩
 f26:=⟨Tryz.f181.name,by decide,Tryz.func181.trans (congrArg some (by kernel_rfl))⟩
 f27:=⟨Tryz.f182.name,by decide,Tryz.func182.trans (congrArg some (by kernel_rfl))⟩
 f28:=Tryz.func183.trans (congrArg some (by kernel_rfl))
 f29:=Tryz.func184.trans (congrArg some (by kernel_rfl))
 f46:=⟨Tryz.f232.name,by decide,Tryz.func232.trans (congrArg some (by kernel_rfl))⟩
 f47:=Tryz.func233.trans (congrArg some (by kernel_rfl))
 f48:=Tryz.func234.trans (congrArg some (by kernel_rfl))
 f49:=⟨Tryz.f235.name,by decide,Tryz.func235.trans (congrArg some (by kernel_rfl))⟩
 f50:=⟨Tryz.f236.name,by decide,Tryz.func236.trans (congrArg some (by kernel_rfl))⟩
 f57:=⟨Tryz.f254.name,by decide,Tryz.func254.trans (congrArg some (by kernel_rfl))⟩
 t0:=Tryz.underlying0
 a0:=Tryz.isAgg0
 z0:=Tryz.sizeOf0
 v0:=Tryz.zeroValue0
 t3:=Tryz.underlying3
 a3:=Tryz.isAgg3
 z3:=Tryz.sizeOf3
 v3:=Tryz.zeroValue3
 t4:=Tryz.underlying4
 a4:=Tryz.isAgg4
 z4:=Tryz.sizeOf4
 v4:=Tryz.zeroValue4
 t5:=Tryz.underlying5
 a5:=Tryz.isAgg5
 z5:=Tryz.sizeOf5
 v5:=Tryz.zeroValue5
 t9:=Tryz.underlying9
 a9:=Tryz.isAgg9
 z9:=Tryz.sizeOf9
 v9:=Tryz.zeroValue9
 t22:=Tryz.underlying60
 a22:=Tryz.isAgg60
 z22:=Tryz.sizeOf60
 v22:=Tryz.zeroValue60
 t25:=Tryz.underlying100
 a25:=Tryz.isAgg100
 z25:=Tryz.sizeOf100
 v25:=Tryz.zeroValue100
 t39:=Tryz.underlying145
 a39:=Tryz.isAgg145
 z39:=Tryz.sizeOf145
 v39:=Tryz.zeroValue145
 t45:=Tryz.underlying187
 a45:=Tryz.isAgg187
 z45:=Tryz.sizeOf187
 v45:=Tryz.zeroValue187
 t46:=Tryz.underlying188
 a46:=Tryz.isAgg188
 z46:=Tryz.sizeOf188
 v46:=Tryz.zeroValue188
 t50:=Tryz.underlying192
 a50:=Tryz.isAgg192
 z50:=Tryz.sizeOf192
 v50:=Tryz.zeroValue192
 t53:=Tryz.underlying195
 a53:=Tryz.isAgg195
 z53:=Tryz.sizeOf195
 v53:=Tryz.zeroValue195
 t55:=Tryz.underlying197
 a55:=Tryz.isAgg197
 z55:=Tryz.sizeOf197
 v55:=Tryz.zeroValue197
 t66:=Tryz.underlying230
 a66:=Tryz.isAgg230
 z66:=Tryz.sizeOf230
 v66:=Tryz.zeroValue230
 t70:=Tryz.underlying234
 a70:=Tryz.isAgg234
 z70:=Tryz.sizeOf234
 v70:=Tryz.zeroValue234
 t76:=Tryz.underlying256
 a76:=Tryz.isAgg256
 z76:=Tryz.sizeOf256
 v76:=Tryz.zeroValue256
 t77:=Tryz.underlying37
 a77:=Tryz.isAgg37
 z77:=Tryz.sizeOf37
 v77:=Tryz.zeroValue37}
def Tryz.laysCmp_ren:Go.Shelf.Ren:=⟨fun|5=>62|7=>117|n=>n,fun|22=>3|3=>3|4=>4|n=>n,fun|n=>n⟩
theorem Tryz.laysCmp:Go.Proofs.SlLaysC2.n5 Tryz.prog Tryz.laysCmp_ren:={
 mixed:=by kernel_rfl
 f5:=⟨Tryz.f62.name,by decide,Tryz.func62.trans (congrArg some (by kernel_rfl))⟩
 f7:=⟨Tryz.f117.name,by decide,Tryz.func117.trans (congrArg some (by kernel_rfl))⟩
 t3:=Tryz.underlying3
 a3:=Tryz.isAgg3
 z3:=Tryz.sizeOf3
 v3:=Tryz.zeroValue3
 t4:=Tryz.underlying4
 a4:=Tryz.isAgg4
 z4:=Tryz.sizeOf4
 v4:=Tryz.zeroValue4
 t22:=Tryz.underlying3
 a22:=Tryz.isAgg3
 z22:=Tryz.sizeOf3
 v22:=Tryz.zeroValue3}
def Tryz.laysLen_ren:Go.Shelf.Ren:=⟨fun|125=>116|128=>183|129=>184|n=>n,fun|46=>145|3=>3|51=>195|53=>197|4=>4|5=>5|9=>9|n=>n,fun|n=>n⟩
theorem Tryz.laysLen:Go.Proofs.Lays.n125 Tryz.prog Tryz.laysLen_ren:={
 mixed:=by kernel_rfl
 f125:=Tryz.func116.trans (congrArg some (by kernel_rfl))
 f128:=Tryz.func183.trans (congrArg some (by kernel_rfl))
 f129:=Tryz.func184.trans (congrArg some (by kernel_rfl))
 t3:=Tryz.underlying3
 a3:=Tryz.isAgg3
 z3:=Tryz.sizeOf3
 v3:=Tryz.zeroValue3
 t4:=Tryz.underlying4
 a4:=Tryz.isAgg4
 z4:=Tryz.sizeOf4
 v4:=Tryz.zeroValue4
 t5:=Tryz.underlying5
 a5:=Tryz.isAgg5
 z5:=Tryz.sizeOf5
 v5:=Tryz.zeroValue5
 t9:=Tryz.underlying9
 a9:=Tryz.isAgg9
 z9:=Tryz.sizeOf9
 v9:=Tryz.zeroValue9
 t46:=Tryz.underlying145
 a46:=Tryz.isAgg145
 z46:=Tryz.sizeOf145
 v46:=Tryz.zeroValue145
 t51:=Tryz.underlying195
 a51:=Tryz.isAgg195
 z51:=Tryz.sizeOf195
 v51:=Tryz.zeroValue195
 t53:=Tryz.underlying197
 a53:=Tryz.isAgg197
 z53:=Tryz.sizeOf197
 v53:=Tryz.zeroValue197}
end Go.Proofs
namespace Go.Proofs.YtpaidiaknfhclaaGreatDoor
open Go Ev
open Go.Lib Go.RowKit
theorem z3w {X:Ending} (b:Bool) {b':Bool} (h:X=.returned (.bool b)) (e:b=b'):X=.returned (.bool b'):=e▸h
set_option maxHeartbeats 4000000 in
set_option maxRecDepth 1000000 in
theorem zxt (s:ByteArray) (w:World) (hs:s.size≤1073741824) (hT:Lib.Utf8Tabs 0 1 w) :
 Calls Tryz.prog 126 #[.string s] w fun e w'=>e=.returned (.bool (vld s.data.toList))∧Below w.heap.size w w':=by
 have cV:Calls Tryz.prog 193 #[.string s] w _:=Any.utf8_ValidString Tryz.laysValid s w (by omega) hT
 have hvl:vld s.data.toList=(Lib.validD s.data.toList&&okN s.size s.data.toList):=by rw[Lib.size_eq];exact zaqm _ _
 rw[hvl]
 clear hvl
 generalize Lib.validD s.data.toList=V at cV ⊢
 cases V with
 |false=>
  rw[Bool.false_and]
  go_enter Tryz.func126,Tryz.ntmps126
  go_wp2_with (go_at_call 193;refine cV.mono ?_;rintro e w' ⟨rfl,hb⟩)
  go_ret
  exact ⟨rfl,hb⟩
 |true=>
  rw[Bool.true_and]
  go_enter Tryz.func126,Tryz.ntmps126
  go_wp2_with (go_at_call 193;refine cV.mono ?_;rintro e w' ⟨rfl,hb⟩)
  go_loopg [4] (s.size+1) (fun gk s4 wx=>∃pos:Nat,wx.heap[w'.heap.size]?=some (.stringIter s pos)∧Below w.heap.size w wx∧
   okN gk (s.data.toList.drop pos)=okN s.size s.data.toList∧s.size≤pos+gk∧pos≤s.size)
  case atStart=>
   refine ⟨0,World.iter_heap w' s 0,hb.alloc hb.size _,?_,by omega,by omega⟩
   rw[List.drop_zero]
   exact zabe _ _ _ (by rw[←Lib.size_eq];omega) (by rw[←Lib.size_eq];omega)
  case round=>
   obtain ⟨pos,hit,hbw,hok,hfu,hps⟩:=hrel
   have hdec:Lib.decodeL (s.data.toList.drop pos)=Utf8.decode s pos:=Lib.decodeL_drop s pos
   by_cases hlt:pos<s.size
   ·obtain ⟨g',rfl⟩:∃g',gk=g'+1:=⟨gk-1,by omega⟩
    have hnx:∀ty,(Instr.next (.pointer (some ⟨w'.heap.size,0,none⟩)) true ty).run Tryz.prog wr=_:=fun ty=>Lib.run_next_any_at wr w'.heap.size s pos ty hit hlt
    have hne:s.data.toList.drop pos≠[]:=by rw[Ne,List.drop_eq_nil_iff,←Lib.size_eq];omega
    have hwd:=zd8 hne
    rw[hdec,List.length_drop,←Lib.size_eq]at hwd
    simp only[okN,hne,if_false,hdec,List.drop_drop]at hok
    obtain ⟨R,hR⟩:∃R,(Utf8.decode s pos).1=R:=⟨_,rfl⟩
    obtain ⟨K,hK⟩:∃K,(Utf8.decode s pos).2=K:=⟨_,rfl⟩
    rw[hR,hK]at hnx hok
    rw[hK]at hwd
    have hit2:=Lib.iterAt_heap wr w'.heap.size s pos (pos+K) hit
    have hbw2:=Lib.below_iterAt hbw (k:=w'.heap.size) hb.size s (pos+K)
    by_cases h1:R<32
    ·have hz:(R:Int)<32:=by omega
     have hb1:badC R=true:=zex.2 (.inl h1)
     rw[if_pos hb1]at hok
     go_wp2
     go_ret
     first|exact ⟨rfl,hbw2⟩|exact ⟨z3w false rfl hok,hbw2⟩
    ·have hz:¬(R:Int)<32:=by omega
     by_cases h2:127≤R
     ·have hz2:(127:Int)≤(R:Int):=by omega
      by_cases h3:R≤159
      ·have hz3:(R:Int)≤159:=by omega
       have hb1:badC R=true:=zex.2 (.inr (.inl ⟨h2,h3⟩))
       rw[if_pos hb1]at hok
       go_wp2
       go_ret
       first|exact ⟨rfl,hbw2⟩|exact ⟨z3w false rfl hok,hbw2⟩
      ·have hz3:¬(R:Int)≤159:=by omega
       by_cases h4:65535<R
       ·have hz4:(65535:Int)<(R:Int):=by omega
        have hb1:badC R=true:=zex.2 (.inr (.inr h4))
        rw[if_pos hb1]at hok
        go_wp2
        go_ret
        first|exact ⟨rfl,hbw2⟩|exact ⟨z3w false rfl hok,hbw2⟩
       ·have hz4:¬(65535:Int)<(R:Int):=by omega
        have hb1:¬badC R=true:=fun h=>by rw[zex]at h;omega
        rw[if_neg hb1]at hok
        go_wp2
        go_roundg g'
        case measure=>omega
        case rel=>exact ⟨pos+K,hit2,hbw2,hok,by omega,by omega⟩
     ·have hz2:¬(127:Int)≤(R:Int):=by omega
      have hz4:¬(65535:Int)<(R:Int):=by omega
      have hb1:¬badC R=true:=fun h=>by rw[zex]at h;omega
      rw[if_neg hb1]at hok
      go_wp2
      go_roundg g'
      case measure=>omega
      case rel=>exact ⟨pos+K,hit2,hbw2,hok,by omega,by omega⟩
   ·have:pos=s.size:=by omega
    subst this
    have hnx:∀ty,(Instr.next (.pointer (some ⟨w'.heap.size,0,none⟩)) true ty).run Tryz.prog wr=_:=fun ty=>Lib.run_next_end_at wr w'.heap.size s s.size ty hit hlt
    have hnil:s.data.toList.drop s.size=[]:=by rw[Lib.size_eq];simp
    have hok2:okN s.size s.data.toList=true:=by rw[←hok,hnil];cases gk<;>simp[okN]
    go_wp2
    go_ret
    first|exact ⟨rfl,hbw⟩|exact ⟨z3w true rfl hok2.symm,hbw⟩
set_option maxRecDepth 1000000 in
theorem zvf (R:Nat) (hR:R≤1114111) (w:World):Calls Tryz.prog 242 #[.int .i32 (R:Int)] w fun e w'=>e=.returned (.bool (blk R))∧∃q,w'=w.drewN q:=by
 by_cases h1:R=32
 ·subst h1
  go_enter Tryz.func242,Tryz.ntmps242
  go_wp2
  go_ret
  exact ⟨rfl,0,rfl⟩
 ·have z1:¬(R:Int)=32:=by omega
  by_cases h2:R=160
  ·subst h2
   go_enter Tryz.func242,Tryz.ntmps242
   go_wp2
   go_ret
   exact ⟨rfl,0,rfl⟩
  ·have z2:¬(R:Int)=160:=by omega
   have hb:blk R=false:=by unfold blk;simp[h1,h2]
   go_enter Tryz.func242,Tryz.ntmps242
   go_wp2
   go_ret
   exact ⟨z3w ((R:Int)==32||(R:Int)==160) rfl (by rw[hb,Bool.or_eq_false_iff];exact ⟨by simp;omega,by simp;omega⟩),0,rfl⟩
set_option maxHeartbeats 4000000 in
set_option maxRecDepth 1000000 in
theorem zvv (s:ByteArray) (w:World) (hs:s.size≤1073741824) (hv:vld s.data.toList=true) :
 Calls Tryz.prog 198 #[.string s] w fun e w'=>e=.returned (.string ⟨(cln s.data.toList).toArray⟩)∧Below w.heap.size w w':=by
 have eg:∀args w,(callFunc 242 args).run Tryz.prog w=.ok (.enter 242 args) w:=enters_of Tryz.func242 (by kernel_rfl) rfl
 have hp:PredAtRunes Tryz.prog 242 #[] blk w:=fun W x hx hb=>by
  exact zvf x hx W
 have cF:=Tryz.strings_FieldsFunc_runes 242 #[] eg blk s w (by omega) hp
 have hj:=zvw (s:=s) (p:=blk) (fun _=>rfl) hv
 have hlen:(cln s.data.toList).length≤2*s.size:=zahu s
 obtain ⟨Fs,hFs⟩:∃Fs,Lib.goFieldsP blk s=Fs:=⟨_,rfl⟩
 have hfl:=zv9 blk s
 rw[hFs]at hj cF hfl
 have cJ:∀A W,Below w.heap.size w W→W.ownsRow w.heap.size 9 1 (.slice (some ⟨A,0,none⟩) Fs.length Fs.length) Fs.length (Fs.map Value.string)→
  Calls Tryz.prog 240 #[.slice (some ⟨A,0,none⟩) Fs.length Fs.length,.string ⟨#[32]⟩] W fun e w'=>e=.returned (.string ⟨(cln s.data.toList).toArray⟩)∧Below w.heap.size w w':=by
  intro A W hb hrow
  by_cases h0:Fs=[]
  ·subst h0
   have:=Tryz.strings_Join_none (some ⟨A,0,none⟩) 0 ⟨#[32]⟩ W
   refine this.mono ?_
   rintro e w' ⟨rfl,rfl⟩
   rw[←hj]
   exact ⟨rfl,hb⟩
  ·obtain ⟨-,h|⟨g,cap,cur,hv2,hbg,hh,hn,hmx,hcs,hct⟩⟩:=hrow
   ·exact absurd (List.length_eq_zero_iff.1 h.2) h0
   ·injection hv2 with e1 e2 e3
    injection e1 with e1
    injection e1 with e1
    subst e1
    have hj2:(Lib.join (Fs.map (·.data.toList)) (⟨#[32]⟩:ByteArray).data.toList)=cln s.data.toList:=hj
    have:=Tryz.strings_Join A 0 Fs.length Fs ⟨#[32]⟩ W (fun j x hx=>by
     rw[Nat.mul_one]at hct
     have hj3:j<Fs.length:=(List.getElem?_eq_some_iff.1 hx).1
     have e4:cur.toList[j]?=some (Value.string x):=by
      rw[←List.getElem?_take_of_lt hj3,hct,List.getElem?_map,hx];rfl
     rw[Array.getElem?_toList]at e4
     rw[Nat.zero_add]
     simp only[World.cell?,hh]
     exact e4) (Array.getElem?_eq_some_iff.1 hh).1 (by omega) (Nat.le_refl _) (by rw[hj2];omega)
    refine this.mono ?_
    rintro e w' ⟨rfl,hb2⟩
    rw[hj2]
    exact ⟨rfl,hb.trans (hb2.mono hb.size)⟩
 clear hj hlen hFs hfl
 go_enter Tryz.func198,Tryz.ntmps198
 go_wp2_with (first|(go_at_call 241;refine cF.mono ?_;rintro e w' ⟨A,rfl,hA,hrow,hb⟩)|(go_at_call 240;refine (cJ A _ hb hrow).mono ?_;rintro e w'' ⟨rfl,hb2⟩))
 go_ret
 exact ⟨rfl,hb2⟩
end Go.Proofs.YtpaidiaknfhclaaGreatDoor
namespace Go.Proofs.YtpaidiaknfhclaaGreatDoor
open Go Ev
theorem zfy:∃i0 z,Tryz.prog.info? 53=some i0∧i0.zero=some z∧z.cells.size=10∧i0.size=10∧i0.bytes≤128:=by
 have h:(match Tryz.prog.info? 53 with|some i=>(match i.zero with|some z=>Nat.beq z.cells.size 10&&Nat.beq i.size 10&&Nat.ble i.bytes 128|none=>false)|none=>false)=true:=by kernel_rfl
 split at h
 ·rename_i i hi
  split at h
  ·rename_i z hz
   simp only[Bool.and_eq_true]at h
   exact ⟨i,z,hi,hz,Nat.eq_of_beq_eq_true h.1.1,Nat.eq_of_beq_eq_true h.1.2,Nat.le_of_ble_eq_true h.2⟩
  ·cases h
 ·cases h
set_option maxHeartbeats 4000000 in
set_option maxRecDepth 100000 in
theorem zjv {w:World} {b n c i vb vo vc:Nat} {L vs:List Value} {t:TypeId} (hi:i<n) (hroom:n+1≤c) (hlim:n+1≤1073741824) (hvb:vb≠b)
 (hb:w.heap[b]?=some (.cells L.toArray t (0,0))) (hL:L.length=c*10) (hvl:vs.length=10)
 (hvs:∀j v,vs[j]?=some v→w.cell? ⟨vb,vo+j,none⟩=some v) (h1:∀v∈(L.drop (i*10)).take ((n-i)*10),v.oneCell'=true) (h2:∀v∈vs,v.oneCell'=true) :
 Calls Tryz.prog 102 #[.slice (some ⟨b,0,none⟩) n c,.int .i64 i,.slice (some ⟨vb,vo,none⟩) 1 vc] w fun e w'=>
  e=.returned (.slice (some ⟨b,0,none⟩) (n+1) c)∧w'=(w.drew.setRow b (Go.splice L ((i+1)*10) ((L.drop (i*10)).take ((n-i)*10))).toArray).setRow b (Go.splice (Go.splice L ((i+1)*10) ((L.drop (i*10)).take ((n-i)*10))) (i*10) vs).toArray:=by
 obtain ⟨i0,z0,hi0,hz0,hzs,hsz,hby⟩:=zfy
 have hz2:¬((i:Int)=(n:Int)):=by omega
 have hva:∃va ta fa,w.heap[vb]?=some (.cells va ta fa)∧0<va.size:=by
  have h:=hvs 0 _ (List.getElem?_eq_getElem (by omega))
  unfold World.cell? at h
  split at h
  ·rename_i c0 t0 f0 hc0
   exact ⟨c0,t0,f0,hc0,by have:=(Array.getElem?_eq_some_iff.1 h).1;omega⟩
  ·cases h
 obtain ⟨va,ta,fa,hva,hva0⟩:=hva
 have hov:∀lb cb,(callFunc 154 #[.slice (some ⟨vb,vo,none⟩) 1 vc,.slice (some ⟨b,(i+1)*10,none⟩) lb cb]).run Tryz.prog w=.ok (.value (.bool false)) w:=fun lb cb=>by
  rw[run_callFunc_extern Tryz.func154 (by kernel_rfl) (by kernel_rfl) (by kernel_rfl) (e:=Extern.SlicesOverlaps.overlaps #[22,22] #[4]) (by kernel_rfl),
   zc1 Tryz.underlying22 hi0 (a:=⟨vb,vo,none⟩) (b:=⟨b,(i+1)*10,none⟩) hvb hva hva0 hb (by simp only[List.size_toArray];omega)]
  rfl
 have hLn:(n+1)*10≤L.length:=by rw[hL];exact Nat.mul_le_mul_right _ hroom
 obtain ⟨C1,hC1⟩:∃C1,C1=(L.drop (i*10)).take ((n-i)*10):=⟨_,rfl⟩
 have hC1l:C1.length=(n-i)*10:=by rw[hC1];simp;omega
 obtain ⟨M1,hM1⟩:∃M1,M1=Go.splice L ((i+1)*10) C1:=⟨_,rfl⟩
 have hM1l:M1.length=L.length:=by rw[hM1];exact length_splice _ _ _ (by omega)
 rw[←hC1,←hM1]
 have hcp1:∀ty dc sc,(Builtin.copy_ #[22,22] ty #[.slice (some ⟨b,(i+1)*10,none⟩) (n-i) dc,.slice (some ⟨b,i*10,none⟩) (n+1-i) sc]).run Tryz.prog w.drew=.ok (goInt ((n-i:Nat):Int)) (w.drew.setRow b M1.toArray):=fun ty dc sc=>by
  have hmin:Nat.min (n+1-i) (n-i)=n-i:=by show min _ _=_;omega
  have:=zbc (P:=Tryz.prog) (w:=w.drew) (sT:=22) (ty:=ty) (dCap:=dc) (sCap:=sc) (dLen:=n-i) (sLen:=n+1-i) (o:=(i+1)*10) (a:=⟨b,i*10,none⟩) Tryz.underlying22 hi0 hsz hb (cs:=C1) (by rw[hmin];exact hC1l)
   (fun j v hj=>by
    rw[Addr.add_lit]
    show w.cell? _=_
    simp only[World.cell?,hb]
    rw[hC1,List.getElem?_take]at hj
    split at hj
    ·simpa using hj
    ·cases hj) (by omega) (by rw[hC1];exact h1)
  rw[hmin,←hM1]at this
  exact this
 have hcp2:∀(W:World),W=(w.drew.setRow b M1.toArray)→∀ty dc,(Builtin.copy_ #[22,22] ty #[.slice (some ⟨b,i*10,none⟩) (n+1-i) dc,.slice (some ⟨vb,vo,none⟩) 1 vc]).run Tryz.prog W=.ok (goInt 1) (W.setRow b (Go.splice M1 (i*10) vs).toArray):=fun W hW ty dc=>by
  have hmin:Nat.min 1 (n+1-i)=1:=by show min _ _=_;omega
  have:=zbc (P:=Tryz.prog) (w:=W) (sT:=22) (ty:=ty) (dCap:=dc) (sCap:=vc) (dLen:=n+1-i) (sLen:=1) (o:=i*10) (a:=⟨vb,vo,none⟩) Tryz.underlying22 hi0 hsz (g:=b) (t:=t) (L:=M1) (by rw[hW];exact setRow_heap _ _ _ _ _ _ hb) (cs:=vs) (by rw[hmin];omega)
   (fun j v hj=>by
    rw[Addr.add_lit,hW,cell_setRow_other _ _ _ _ hvb]
    exact hvs j v hj) (by omega) h2
  rw[hmin]at this
  exact this
 have hw1:IntKind.i64.wrap ((i:Int)+1)=(i:Int)+1:=by rw[IntKind.wrap_i64];omega
 have hb1:(0:Int)≤(i:Int)+1:=by omega
 have hin:i≤n:=by omega
 have htn:((i:Int)+1).toNat=i+1:=by omega
 have hb2:¬(c=i+1):=by omega
 have hb3:(i:Int)≤(n:Int)+1:=by omega
 have hb4:¬(c=i):=by omega
 have mixed:Tryz.prog.follows .mixedOrders=true:=by kernel_rfl
 clear hC1 hM1 hC1l hM1l h1 h2 hvs hL
 go_enter Tryz.func102,Tryz.ntmps102
 go_wp2_with (simp only[hov])
 go_region_law_o (refine zco rfl _ _ 22 22 rfl _ _ (by simp[Act.eval,Act.put]) (by simp[Act.eval,Act.put]) (hcp1 _ _ _) ?_)
 go_wp2_with (at_builtin;refine zjq rfl _ _ 22 22 rfl _ _ rfl rfl (hcp2 _ rfl _ _) ?_)
 go_ret
 exact ⟨rfl,rfl⟩
theorem zj2 {i0:TypeInfo} {k c:Nat} (h:c<k) (hk:k≤1073741824) (hby:i0.bytes≤128):Builtin.nextslicecap k c*i0.bytes≤281474976710656:=
 growslice_fits h (Nat.le_trans (Nat.mul_le_mul hk hby) (by decide))
set_option maxHeartbeats 4000000 in
set_option maxRecDepth 100000 in
theorem zmd {w:World} {b n c vb vo vc:Nat} {L vs:List Value} {t:TypeId} (hroom:n+1≤c) (hlim:n+1≤1073741824)
 (hb:w.heap[b]?=some (.cells L.toArray t (0,0))) (hL:L.length=c*10) (hvl:vs.length=10)
 (hvs:∀j v,vs[j]?=some v→w.cell? ⟨vb,vo+j,none⟩=some v) (h2:∀v∈vs,v.oneCell'=true) :
 Calls Tryz.prog 102 #[.slice (some ⟨b,0,none⟩) n c,.int .i64 n,.slice (some ⟨vb,vo,none⟩) 1 vc] w fun e w'=>
  e=.returned (.slice (some ⟨b,0,none⟩) (n+1) c)∧w'=w.setRow b (Go.splice L (n*10) vs).toArray:=by
 obtain ⟨i0,z0,hi0,hz0,hzs,hsz,hby⟩:=zfy
 have hLn:(n+1)*10≤L.length:=by rw[hL];exact Nat.mul_le_mul_right _ hroom
 have hf:=run_firstCells_some (P:=Tryz.prog) w i0.size 1 ⟨vb,vo,none⟩ 1 vc vs (by omega) (fun j v hj=>by rw[Addr.add_lit];exact hvs j v hj)
 have hap:∀ty,(Builtin.append_ #[22,22] ty #[.slice (some ⟨b,0,none⟩) n c,.slice (some ⟨vb,vo,none⟩) 1 vc]).run Tryz.prog w=.ok (.slice (some ⟨b,0,none⟩) (n+1) c) (w.setRow b (Go.splice L (n*10) vs).toArray):=fun ty=>by
  have:=zbt (P:=Tryz.prog) (w:=w) (ty:=ty) (ts:=#[22,22]) rfl rfl Tryz.underlying22 Tryz.underlying22 hi0 hf hroom hb (by simp only[List.size_toArray];rw[hsz];omega) h2
  rw[hsz]at this
  simpa[Go.splice]using this
 go_enter Tryz.func102,Tryz.ntmps102
 go_wp2_with (at_builtin;refine zbd rfl _ _ _ _ rfl _ _ rfl rfl (hap _) ?_)
 all_goals (go_ret;exact ⟨rfl,rfl⟩)
set_option maxHeartbeats 4000000 in
set_option maxRecDepth 100000 in
theorem zn2 {w:World} {base:Option Addr} {n c vb vo vc:Nat} {olds vs:List Value} (hnc:n≤c) (hroom:c<n+1) (hlim:n+1≤1073741824) (hvl:vs.length=10)
 (hnil:base=none→n=0) (hol:olds.length=n*10) (hos:∀a,base=some a→∀j v,olds[j]?=some v→w.cell? (a.add j)=some v)
 (hvs:∀j v,vs[j]?=some v→w.cell? ⟨vb,vo+j,none⟩=some v) :
 Calls Tryz.prog 102 #[.slice base n c,.int .i64 n,.slice (some ⟨vb,vo,none⟩) 1 vc] w fun e w'=>
  ∃cap zs,e=.returned (.slice (some ⟨w.heap.size,0,none⟩) (n+1) cap)∧w'=w.drew.alloc (.cells (olds++(vs++zs)).toArray 53)∧n+1≤cap∧zs.length=(cap-(n+1))*10:=by
 obtain ⟨i0,z0,hi0,hz0,hzs,hsz,hby⟩:=zfy
 have hf:=run_firstCells_some (P:=Tryz.prog) w.drew i0.size 1 ⟨vb,vo,none⟩ 1 vc vs (by omega) (fun j v hj=>by rw[Addr.add_lit];exact hvs j v hj)
 have hold:(Builtin.firstCells i0.size n (.slice base n c)).run Tryz.prog w.drew=.ok olds.toArray w.drew:=by
  cases base with
  |none=>
   have h0:=hnil rfl
   subst h0
   rw[List.length_eq_zero_iff.1 (by omega:olds.length=0)]
   exact run_firstCells_none w.drew _ 0 0 c
  |some a=>exact run_firstCells_some w.drew _ n a n c olds (by rw[hsz];omega) (fun j v hj=>hos a rfl j v hj)
 have hap:∀ty,(Builtin.append_ #[22,22] ty #[.slice base n c,.slice (some ⟨vb,vo,none⟩) 1 vc]).run Tryz.prog w=_:=fun ty=>
  zb2 (P:=Tryz.prog) (w:=w) (ty:=ty) (ts:=#[22,22]) rfl rfl Tryz.underlying22 Tryz.underlying22 hi0 hz0 hf hold hroom (by omega) (zj2 hroom hlim hby)
 have hge:=zbx w (n+1) c 53
 obtain ⟨G,hG⟩:∃G,G=grownCap w (n+1) c 53:=⟨_,rfl⟩
 obtain ⟨zs,hzs'⟩:∃zs,zs=(Builtin.zeroCells z0.cells (G-(n+1))).toList:=⟨_,rfl⟩
 rw[←hG]at hap hge
 rw[←hzs']at hap
 have hzl:zs.length=(G-(n+1))*10:=by rw[hzs',Array.length_toList,size_zeroCells,hzs]
 clear hG hzs'
 go_enter Tryz.func102,Tryz.ntmps102
 cases base with
 |none=>
  have h0:=hnil rfl
  subst h0
  go_wp2_with (at_builtin;refine zbd rfl _ _ _ _ rfl _ _ rfl rfl (hap _) ?_)
  all_goals (go_ret;first|exact ⟨_,_,rfl,rfl,hge,hzl⟩|exact ⟨_,rfl,_,rfl,hge,hzl⟩)
 |some a=>
  obtain ⟨ab,ao,asp⟩:=a
  go_wp2_with (at_builtin;refine zbd rfl _ _ _ _ rfl _ _ rfl rfl (hap _) ?_)
  all_goals (go_ret;first|exact ⟨_,_,rfl,rfl,hge,hzl⟩|exact ⟨_,rfl,_,rfl,hge,hzl⟩)
set_option maxHeartbeats 4000000 in
set_option maxRecDepth 100000 in
theorem zmc {w:World} {b n c i vb vo vc:Nat} {L vs:List Value} {t:TypeId} (hi:i<n) (hnc:n≤c) (hroom:c<n+1) (hlim:n+1≤1073741824) (hvb:vb≠b)
 (hb:w.heap[b]?=some (.cells L.toArray t (0,0))) (hL:L.length=c*10) (hvl:vs.length=10)
 (hvs:∀j v,vs[j]?=some v→w.cell? ⟨vb,vo+j,none⟩=some v) (h1:∀v∈(L.drop (i*10)).take ((n-i)*10),v.oneCell'=true) (h2:∀v∈vs,v.oneCell'=true) :
 Calls Tryz.prog 102 #[.slice (some ⟨b,0,none⟩) n c,.int .i64 i,.slice (some ⟨vb,vo,none⟩) 1 vc] w fun e w'=>
  ∃cap row,e=.returned (.slice (some ⟨w.heap.size,0,none⟩) (n+1) cap)∧n+1≤cap∧row.length=cap*10∧row.take (i*10)=L.take (i*10)∧
   w'.heap=(w.heap.push (.cells (Go.splice (Go.splice row (i*10) vs) ((i+1)*10) ((L.drop (i*10)).take ((n-i)*10))).toArray 53))∧w'.os=w.os∧w'.output=w.output∧w'.tape=w.tape:=by
 obtain ⟨i0,z0,hi0,hz0,hzs,hsz,hby⟩:=zfy
 have hz2:¬((i:Int)=(n:Int)):=by omega
 have hz3:(c:Int)<(n:Int)+1:=by omega
 have hLn:n*10≤L.length:=by rw[hL];exact Nat.mul_le_mul_right _ hnc
 have hbw:b<w.heap.size:=(Array.getElem?_eq_some_iff.1 hb).1
 have hvw:vb<w.heap.size:=by
  have h:=hvs 0 _ (List.getElem?_eq_getElem (by omega))
  unfold World.cell? at h
  split at h
  ·rename_i c0 t0 f0 hc0
   exact (Array.getElem?_eq_some_iff.1 hc0).1
  ·cases h
 have hkk:(n:Int)+1-(i:Int)=((n+1-i:Nat):Int):=by omega
 have hik:i+(n+1-i)=n+1:=by omega
 have hTl:(L.take (i*10)).length=i*10:=by simp;omega
 have hold:(Builtin.firstCells i0.size i (.slice (some ⟨b,0,none⟩) i c)).run Tryz.prog w.drew=.ok (L.take (i*10)).toArray w.drew:=by
  refine run_firstCells_some w.drew _ i ⟨b,0,none⟩ i c (L.take (i*10)) (by rw[hsz];exact hTl) (fun j v hj=>?_)
  rw[Addr.add_lit,Nat.zero_add]
  show w.cell? _=_
  simp only[World.cell?,hb]
  rw[List.getElem?_take]at hj
  split at hj
  ·simpa using hj
  ·cases hj
 have hrz:∀ty,(Builtin.append_ #[22,3] ty #[.slice (some ⟨b,0,none⟩) i c,.int .i64 ((n:Int)+1-(i:Int))]).run Tryz.prog w =
  .ok (.slice (some ⟨w.heap.size,0,none⟩) (n+1) (grownCap w (n+1) c 53)) (w.drew.alloc (.cells ((L.take (i*10)).toArray++Builtin.zeroCells z0.cells (n+1-i)++Builtin.zeroCells z0.cells (grownCap w (n+1) c 53-(n+1))) 53)):=fun ty=>by
  have h:=Lib.run_append_grow_zeros w 22 3 ty 53 i0 _ .i64 .i64 Tryz.underlying22 Tryz.underlying3 hi0 hz0 (some ⟨b,0,none⟩) i c _ hold (n+1-i) (by omega) (by omega) (by omega) (by omega)
   (Nat.le_trans (Nat.mul_le_mul (show n+1-i≤1073741824 by omega) hby) (by decide)) (by rw[hik];exact zj2 hroom hlim hby)
  rw[hik]at h
  rw[hkk]
  exact h
 have hge:=zbx w (n+1) c 53
 obtain ⟨G,hG⟩:∃G,G=grownCap w (n+1) c 53:=⟨_,rfl⟩
 rw[←hG]at hrz hge
 have hG63:G≤9223372036854775807:=by
  have:=grownCap_le_maxLen w (n+1) c 53 (by unfold maxLen;omega)
  rw[←hG]at this
  unfold maxLen at this
  omega
 obtain ⟨R,hR⟩:∃R:List Value,R=L.take (i*10)++((Builtin.zeroCells z0.cells (n+1-i)).toList++(Builtin.zeroCells z0.cells (G-(n+1))).toList):=⟨_,rfl⟩
 have hRl:R.length=G*10:=by
  rw[hR]
  simp only[List.length_append,Array.length_toList,size_zeroCells,hzs,hTl]
  rw[←Nat.add_mul,←Nat.add_mul]
  congr 1
  omega
 have hRt:R.take (i*10)=L.take (i*10):=by rw[hR,List.take_append_of_le_length (by omega),List.take_of_length_le (by omega)]
 have hRe:(L.take (i*10)).toArray++Builtin.zeroCells z0.cells (n+1-i)++Builtin.zeroCells z0.cells (G-(n+1))=R.toArray:=by
  rw[hR];apply Array.ext';simp
 rw[hRe]at hrz
 obtain ⟨C1,hC1⟩:∃C1,C1=(L.drop (i*10)).take ((n-i)*10):=⟨_,rfl⟩
 have hC1l:C1.length=(n-i)*10:=by rw[hC1];simp;omega
 have hGn:(n+1)*10≤R.length:=by rw[hRl];exact Nat.mul_le_mul_right _ hge
 obtain ⟨M1,hM1⟩:∃M1,M1=Go.splice R (i*10) vs:=⟨_,rfl⟩
 have hM1l:M1.length=R.length:=by rw[hM1];exact length_splice _ _ _ (by omega)
 rw[←hC1]
 obtain ⟨gb,hgb⟩:∃gb,gb=w.heap.size:=⟨_,rfl⟩
 have hnew:∀W:World,W.heap=w.heap.push (.cells R.toArray 53)→W.heap[gb]?=some (.cells R.toArray 53 (0,0)):=fun W hW=>by rw[hW,hgb];simp
 have hpast:∀W:World,W.heap=w.heap.push (.cells R.toArray 53)→∀k,k<w.heap.size→W.heap[k]?=w.heap[k]?:=fun W hW k hk=>by rw[hW,Array.getElem?_push_lt hk];simp[hk]
 have hcpA:∀(W:World),W.heap=w.heap.push (.cells R.toArray 53)→∀ty dc,(Builtin.copy_ #[22,22] ty #[.slice (some ⟨gb,i*10,none⟩) (n+1-i) dc,.slice (some ⟨vb,vo,none⟩) 1 vc]).run Tryz.prog W=.ok (goInt 1) (W.setRow gb M1.toArray):=fun W hW ty dc=>by
  have hmin:Nat.min 1 (n+1-i)=1:=by show min _ _=_;omega
  have:=zbc (P:=Tryz.prog) (w:=W) (sT:=22) (ty:=ty) (dCap:=dc) (sCap:=vc) (dLen:=n+1-i) (sLen:=1) (o:=i*10) (a:=⟨vb,vo,none⟩) Tryz.underlying22 hi0 hsz (g:=gb) (t:=53) (L:=R) (hnew W hW) (cs:=vs) (by rw[hmin];omega)
   (fun j v hj=>by
    rw[Addr.add_lit]
    unfold World.cell?
    rw[show W.heap[(⟨vb,vo+j,none⟩:Addr).block]?=w.heap[vb]? from hpast W hW vb hvw]
    exact hvs j v hj) (by omega) h2
  rw[hmin,←hM1]at this
  exact this
 have hcpB:∀(W W0:World),W0.heap=w.heap.push (.cells R.toArray 53)→W.heap=(W0.setRow gb M1.toArray).heap→∀ty dc sc,(Builtin.copy_ #[22,22] ty #[.slice (some ⟨gb,(i+1)*10,none⟩) (n-i) dc,.slice (some ⟨b,i*10,none⟩) (n-i) sc]).run Tryz.prog W=.ok (goInt ((n-i:Nat):Int)) (W.setRow gb (Go.splice M1 ((i+1)*10) C1).toArray):=fun W W0 hW0 hW ty dc sc=>by
  have hmin:Nat.min (n-i) (n-i)=n-i:=by show min _ _=_;omega
  have:=zbc (P:=Tryz.prog) (w:=W) (sT:=22) (ty:=ty) (dCap:=dc) (sCap:=sc) (dLen:=n-i) (sLen:=n-i) (o:=(i+1)*10) (a:=⟨b,i*10,none⟩) Tryz.underlying22 hi0 hsz (g:=gb) (t:=53) (L:=M1) (by rw[hW];exact setRow_heap _ _ _ _ _ _ (hnew W0 hW0)) (cs:=C1) (by rw[hmin];exact hC1l)
   (fun j v hj=>by
    rw[Addr.add_lit]
    unfold World.cell?
    have e:W.heap[(⟨b,i*10+j,none⟩:Addr).block]?=w.heap[b]?:=by
     show W.heap[b]?=_
     rw[hW,setRow_other _ _ _ _ (by omega),hpast W0 hW0 b hbw]
    rw[e,hb]
    rw[hC1,List.getElem?_take]at hj
    split at hj
    ·simpa using hj
    ·cases hj) (by omega) (by rw[hC1];exact h1)
  rw[hmin]at this
  exact this
 have hw1:IntKind.i64.wrap ((i:Int)+1)=(i:Int)+1:=by rw[IntKind.wrap_i64];omega
 have hb1:(0:Int)≤(i:Int)+1:=by omega
 have hin:i≤n:=by omega
 have htn:((i:Int)+1).toNat=i+1:=by omega
 have hb3:(i:Int)≤(n:Int):=by omega
 have hGi:¬(G=i):=by omega
 have hGim:¬(G=i+1):=by omega
 have hci:¬(c=i):=by omega
 have hmixed:Tryz.prog.follows .mixedOrders=true:=by kernel_rfl
 have mixed:=hmixed
 have hfin:∀W W0:World,W0.heap=w.heap.push (.cells R.toArray 53)→W.heap=(W0.setRow gb M1.toArray).heap→(W.setRow gb (Go.splice M1 ((i+1)*10) C1).toArray).heap=w.heap.push (.cells (Go.splice M1 ((i+1)*10) C1).toArray 53):=fun W W0 hW0 hW=>by
  have h1:W.heap[gb]?=some (.cells M1.toArray 53 (0,0)):=by rw[hW];exact setRow_heap _ _ _ _ _ _ (hnew W0 hW0)
  have hsz0:W.heap.size=w.heap.size+1:=by rw[hW,setRow_size,hW0];simp
  apply Array.ext_getElem?
  intro k
  by_cases hk:k=gb
  ·subst hk
   rw[setRow_heap _ _ _ _ _ _ h1,hgb];simp
  ·rw[setRow_other _ _ _ _ hk]
   by_cases hk2:k<w.heap.size
   ·rw[hW,setRow_other _ _ _ _ hk,hpast W0 hW0 k hk2,Array.getElem?_push_lt hk2];simp[hk2]
   ·rw[Array.getElem?_eq_none (by omega),Array.getElem?_eq_none (by simp;omega)]
 have hMM:Go.splice (Go.splice R (i*10) vs) ((i+1)*10) C1=Go.splice M1 ((i+1)*10) C1:=by rw[hM1]
 subst hgb
 have hcpA':=hcpA ((w.alloc (.cells R.toArray 53)).drew) rfl
 clear hkk hcpA hik hold hG hR hRe hC1 hM1 hC1l hM1l h1 h2 hvs hL hTl
 go_enter Tryz.func102,Tryz.ntmps102
 go_wp2_with (at_builtin;refine zbd rfl _ _ _ _ rfl _ _ rfl rfl (hrz _) ?_)
 go_region_law_o (refine zco rfl _ _ 22 22 rfl (.slice (some ⟨w.heap.size,(i+1)*10,none⟩) (n-i) (G-(i+1))) (.slice (some ⟨b,i*10,none⟩) (n-i) (c-i)) (by simp[Act.eval,Act.put]) (by simp[Act.eval,Act.put]) (hcpB (((w.alloc (.cells R.toArray 53)).drew.setRow w.heap.size M1.toArray).drew) (w.drew.alloc (.cells R.toArray 53)) rfl rfl 3 (G-(i+1)) (c-i)) ?_)
 go_wp2
 go_ret
 refine ⟨G,R,rfl,hge,hRl,hRt,?_,rfl,rfl,rfl⟩
 rw[hMM]
 exact hfin _ (w.drew.alloc (.cells R.toArray 53)) rfl rfl
end Go.Proofs.YtpaidiaknfhclaaGreatDoor
namespace Go.Proofs.YtpaidiaknfhclaaGreatDoor
open Go Ev
theorem zea:∃i0 z,Tryz.prog.info? 71=some i0∧i0.zero=some z∧z.cells.size=6∧i0.size=6∧i0.bytes≤128:=by
 have h:(match Tryz.prog.info? 71 with|some i=>(match i.zero with|some z=>Nat.beq z.cells.size 6&&Nat.beq i.size 6&&Nat.ble i.bytes 128|none=>false)|none=>false)=true:=by kernel_rfl
 split at h
 ·rename_i i hi
  split at h
  ·rename_i z hz
   simp only[Bool.and_eq_true]at h
   exact ⟨i,z,hi,hz,Nat.eq_of_beq_eq_true h.1.1,Nat.eq_of_beq_eq_true h.1.2,Nat.le_of_ble_eq_true h.2⟩
  ·cases h
 ·cases h
set_option maxHeartbeats 4000000 in
set_option maxRecDepth 100000 in
theorem zg4 {w:World} {b n c i vb vo vc:Nat} {L vs:List Value} {t:TypeId} (hi:i<n) (hroom:n+1≤c) (hlim:n+1≤1073741824) (hvb:vb≠b)
 (hb:w.heap[b]?=some (.cells L.toArray t (0,0))) (hL:L.length=c*6) (hvl:vs.length=6)
 (hvs:∀j v,vs[j]?=some v→w.cell? ⟨vb,vo+j,none⟩=some v) (h1:∀v∈(L.drop (i*6)).take ((n-i)*6),v.oneCell'=true) (h2:∀v∈vs,v.oneCell'=true) :
 Calls Tryz.prog 210 #[.slice (some ⟨b,0,none⟩) n c,.int .i64 i,.slice (some ⟨vb,vo,none⟩) 1 vc] w fun e w'=>
  e=.returned (.slice (some ⟨b,0,none⟩) (n+1) c)∧w'=(w.drew.setRow b (Go.splice L ((i+1)*6) ((L.drop (i*6)).take ((n-i)*6))).toArray).setRow b (Go.splice (Go.splice L ((i+1)*6) ((L.drop (i*6)).take ((n-i)*6))) (i*6) vs).toArray:=by
 obtain ⟨i0,z0,hi0,hz0,hzs,hsz,hby⟩:=zea
 have hz2:¬((i:Int)=(n:Int)):=by omega
 have hva:∃va ta fa,w.heap[vb]?=some (.cells va ta fa)∧0<va.size:=by
  have h:=hvs 0 _ (List.getElem?_eq_getElem (by omega))
  unfold World.cell? at h
  split at h
  ·rename_i c0 t0 f0 hc0
   exact ⟨c0,t0,f0,hc0,by have:=(Array.getElem?_eq_some_iff.1 h).1;omega⟩
  ·cases h
 obtain ⟨va,ta,fa,hva,hva0⟩:=hva
 have hov:∀lb cb,(callFunc 243 #[.slice (some ⟨vb,vo,none⟩) 1 vc,.slice (some ⟨b,(i+1)*6,none⟩) lb cb]).run Tryz.prog w=.ok (.value (.bool false)) w:=fun lb cb=>by
  rw[run_callFunc_extern Tryz.func243 (by kernel_rfl) (by kernel_rfl) (by kernel_rfl) (e:=Extern.SlicesOverlaps.overlaps #[23,23] #[4]) (by kernel_rfl),
   zc1 Tryz.underlying23 hi0 (a:=⟨vb,vo,none⟩) (b:=⟨b,(i+1)*6,none⟩) hvb hva hva0 hb (by simp only[List.size_toArray];omega)]
  rfl
 have hLn:(n+1)*6≤L.length:=by rw[hL];exact Nat.mul_le_mul_right _ hroom
 obtain ⟨C1,hC1⟩:∃C1,C1=(L.drop (i*6)).take ((n-i)*6):=⟨_,rfl⟩
 have hC1l:C1.length=(n-i)*6:=by rw[hC1];simp;omega
 obtain ⟨M1,hM1⟩:∃M1,M1=Go.splice L ((i+1)*6) C1:=⟨_,rfl⟩
 have hM1l:M1.length=L.length:=by rw[hM1];exact length_splice _ _ _ (by omega)
 rw[←hC1,←hM1]
 have hcp1:∀ty dc sc,(Builtin.copy_ #[23,23] ty #[.slice (some ⟨b,(i+1)*6,none⟩) (n-i) dc,.slice (some ⟨b,i*6,none⟩) (n+1-i) sc]).run Tryz.prog w.drew=.ok (goInt ((n-i:Nat):Int)) (w.drew.setRow b M1.toArray):=fun ty dc sc=>by
  have hmin:Nat.min (n+1-i) (n-i)=n-i:=by show min _ _=_;omega
  have:=zbc (P:=Tryz.prog) (w:=w.drew) (sT:=23) (ty:=ty) (dCap:=dc) (sCap:=sc) (dLen:=n-i) (sLen:=n+1-i) (o:=(i+1)*6) (a:=⟨b,i*6,none⟩) Tryz.underlying23 hi0 hsz hb (cs:=C1) (by rw[hmin];exact hC1l)
   (fun j v hj=>by
    rw[Addr.add_lit]
    show w.cell? _=_
    simp only[World.cell?,hb]
    rw[hC1,List.getElem?_take]at hj
    split at hj
    ·simpa using hj
    ·cases hj) (by omega) (by rw[hC1];exact h1)
  rw[hmin,←hM1]at this
  exact this
 have hcp2:∀(W:World),W=(w.drew.setRow b M1.toArray)→∀ty dc,(Builtin.copy_ #[23,23] ty #[.slice (some ⟨b,i*6,none⟩) (n+1-i) dc,.slice (some ⟨vb,vo,none⟩) 1 vc]).run Tryz.prog W=.ok (goInt 1) (W.setRow b (Go.splice M1 (i*6) vs).toArray):=fun W hW ty dc=>by
  have hmin:Nat.min 1 (n+1-i)=1:=by show min _ _=_;omega
  have:=zbc (P:=Tryz.prog) (w:=W) (sT:=23) (ty:=ty) (dCap:=dc) (sCap:=vc) (dLen:=n+1-i) (sLen:=1) (o:=i*6) (a:=⟨vb,vo,none⟩) Tryz.underlying23 hi0 hsz (g:=b) (t:=t) (L:=M1) (by rw[hW];exact setRow_heap _ _ _ _ _ _ hb) (cs:=vs) (by rw[hmin];omega)
   (fun j v hj=>by
    rw[Addr.add_lit,hW,cell_setRow_other _ _ _ _ hvb]
    exact hvs j v hj) (by omega) h2
  rw[hmin]at this
  exact this
 have hw1:IntKind.i64.wrap ((i:Int)+1)=(i:Int)+1:=by rw[IntKind.wrap_i64];omega
 have hb1:(0:Int)≤(i:Int)+1:=by omega
 have hin:i≤n:=by omega
 have htn:((i:Int)+1).toNat=i+1:=by omega
 have hb2:¬(c=i+1):=by omega
 have hb3:(i:Int)≤(n:Int)+1:=by omega
 have hb4:¬(c=i):=by omega
 have mixed:Tryz.prog.follows .mixedOrders=true:=by kernel_rfl
 clear hC1 hM1 hC1l hM1l h1 h2 hvs hL
 go_enter Tryz.func210,Tryz.ntmps210
 go_wp2_with (simp only[hov])
 go_region_law_o (refine zco rfl _ _ 23 23 rfl _ _ (by simp[Act.eval,Act.put]) (by simp[Act.eval,Act.put]) (hcp1 _ _ _) ?_)
 go_wp2_with (at_builtin;refine zjq rfl _ _ 23 23 rfl _ _ rfl rfl (hcp2 _ rfl _ _) ?_)
 go_ret
 exact ⟨rfl,rfl⟩
theorem zgu {i0:TypeInfo} {k c:Nat} (h:c<k) (hk:k≤1073741824) (hby:i0.bytes≤128):Builtin.nextslicecap k c*i0.bytes≤281474976710656:=
 growslice_fits h (Nat.le_trans (Nat.mul_le_mul hk hby) (by decide))
set_option maxHeartbeats 4000000 in
set_option maxRecDepth 100000 in
theorem zie {w:World} {b n c vb vo vc:Nat} {L vs:List Value} {t:TypeId} (hroom:n+1≤c) (hlim:n+1≤1073741824)
 (hb:w.heap[b]?=some (.cells L.toArray t (0,0))) (hL:L.length=c*6) (hvl:vs.length=6)
 (hvs:∀j v,vs[j]?=some v→w.cell? ⟨vb,vo+j,none⟩=some v) (h2:∀v∈vs,v.oneCell'=true) :
 Calls Tryz.prog 210 #[.slice (some ⟨b,0,none⟩) n c,.int .i64 n,.slice (some ⟨vb,vo,none⟩) 1 vc] w fun e w'=>
  e=.returned (.slice (some ⟨b,0,none⟩) (n+1) c)∧w'=w.setRow b (Go.splice L (n*6) vs).toArray:=by
 obtain ⟨i0,z0,hi0,hz0,hzs,hsz,hby⟩:=zea
 have hLn:(n+1)*6≤L.length:=by rw[hL];exact Nat.mul_le_mul_right _ hroom
 have hf:=run_firstCells_some (P:=Tryz.prog) w i0.size 1 ⟨vb,vo,none⟩ 1 vc vs (by omega) (fun j v hj=>by rw[Addr.add_lit];exact hvs j v hj)
 have hap:∀ty,(Builtin.append_ #[23,23] ty #[.slice (some ⟨b,0,none⟩) n c,.slice (some ⟨vb,vo,none⟩) 1 vc]).run Tryz.prog w=.ok (.slice (some ⟨b,0,none⟩) (n+1) c) (w.setRow b (Go.splice L (n*6) vs).toArray):=fun ty=>by
  have:=zbt (P:=Tryz.prog) (w:=w) (ty:=ty) (ts:=#[23,23]) rfl rfl Tryz.underlying23 Tryz.underlying23 hi0 hf hroom hb (by simp only[List.size_toArray];rw[hsz];omega) h2
  rw[hsz]at this
  simpa[Go.splice]using this
 go_enter Tryz.func210,Tryz.ntmps210
 go_wp2_with (at_builtin;refine zbd rfl _ _ _ _ rfl _ _ rfl rfl (hap _) ?_)
 all_goals (go_ret;exact ⟨rfl,rfl⟩)
set_option maxHeartbeats 4000000 in
set_option maxRecDepth 100000 in
theorem zjx {w:World} {base:Option Addr} {n c vb vo vc:Nat} {olds vs:List Value} (hnc:n≤c) (hroom:c<n+1) (hlim:n+1≤1073741824) (hvl:vs.length=6)
 (hnil:base=none→n=0) (hol:olds.length=n*6) (hos:∀a,base=some a→∀j v,olds[j]?=some v→w.cell? (a.add j)=some v)
 (hvs:∀j v,vs[j]?=some v→w.cell? ⟨vb,vo+j,none⟩=some v) :
 Calls Tryz.prog 210 #[.slice base n c,.int .i64 n,.slice (some ⟨vb,vo,none⟩) 1 vc] w fun e w'=>
  ∃cap zs,e=.returned (.slice (some ⟨w.heap.size,0,none⟩) (n+1) cap)∧w'=w.drew.alloc (.cells (olds++(vs++zs)).toArray 71)∧n+1≤cap∧zs.length=(cap-(n+1))*6:=by
 obtain ⟨i0,z0,hi0,hz0,hzs,hsz,hby⟩:=zea
 have hf:=run_firstCells_some (P:=Tryz.prog) w.drew i0.size 1 ⟨vb,vo,none⟩ 1 vc vs (by omega) (fun j v hj=>by rw[Addr.add_lit];exact hvs j v hj)
 have hold:(Builtin.firstCells i0.size n (.slice base n c)).run Tryz.prog w.drew=.ok olds.toArray w.drew:=by
  cases base with
  |none=>
   have h0:=hnil rfl
   subst h0
   rw[List.length_eq_zero_iff.1 (by omega:olds.length=0)]
   exact run_firstCells_none w.drew _ 0 0 c
  |some a=>exact run_firstCells_some w.drew _ n a n c olds (by rw[hsz];omega) (fun j v hj=>hos a rfl j v hj)
 have hap:∀ty,(Builtin.append_ #[23,23] ty #[.slice base n c,.slice (some ⟨vb,vo,none⟩) 1 vc]).run Tryz.prog w=_:=fun ty=>
  zb2 (P:=Tryz.prog) (w:=w) (ty:=ty) (ts:=#[23,23]) rfl rfl Tryz.underlying23 Tryz.underlying23 hi0 hz0 hf hold hroom (by omega) (zgu hroom hlim hby)
 have hge:=zbx w (n+1) c 71
 obtain ⟨G,hG⟩:∃G,G=grownCap w (n+1) c 71:=⟨_,rfl⟩
 obtain ⟨zs,hzs'⟩:∃zs,zs=(Builtin.zeroCells z0.cells (G-(n+1))).toList:=⟨_,rfl⟩
 rw[←hG]at hap hge
 rw[←hzs']at hap
 have hzl:zs.length=(G-(n+1))*6:=by rw[hzs',Array.length_toList,size_zeroCells,hzs]
 clear hG hzs'
 go_enter Tryz.func210,Tryz.ntmps210
 cases base with
 |none=>
  have h0:=hnil rfl
  subst h0
  go_wp2_with (at_builtin;refine zbd rfl _ _ _ _ rfl _ _ rfl rfl (hap _) ?_)
  all_goals (go_ret;first|exact ⟨_,_,rfl,rfl,hge,hzl⟩|exact ⟨_,rfl,_,rfl,hge,hzl⟩)
 |some a=>
  obtain ⟨ab,ao,asp⟩:=a
  go_wp2_with (at_builtin;refine zbd rfl _ _ _ _ rfl _ _ rfl rfl (hap _) ?_)
  all_goals (go_ret;first|exact ⟨_,_,rfl,rfl,hge,hzl⟩|exact ⟨_,rfl,_,rfl,hge,hzl⟩)
set_option maxHeartbeats 4000000 in
set_option maxRecDepth 100000 in
theorem zid {w:World} {b n c i vb vo vc:Nat} {L vs:List Value} {t:TypeId} (hi:i<n) (hnc:n≤c) (hroom:c<n+1) (hlim:n+1≤1073741824) (hvb:vb≠b)
 (hb:w.heap[b]?=some (.cells L.toArray t (0,0))) (hL:L.length=c*6) (hvl:vs.length=6)
 (hvs:∀j v,vs[j]?=some v→w.cell? ⟨vb,vo+j,none⟩=some v) (h1:∀v∈(L.drop (i*6)).take ((n-i)*6),v.oneCell'=true) (h2:∀v∈vs,v.oneCell'=true) :
 Calls Tryz.prog 210 #[.slice (some ⟨b,0,none⟩) n c,.int .i64 i,.slice (some ⟨vb,vo,none⟩) 1 vc] w fun e w'=>
  ∃cap row,e=.returned (.slice (some ⟨w.heap.size,0,none⟩) (n+1) cap)∧n+1≤cap∧row.length=cap*6∧row.take (i*6)=L.take (i*6)∧
   w'.heap=(w.heap.push (.cells (Go.splice (Go.splice row (i*6) vs) ((i+1)*6) ((L.drop (i*6)).take ((n-i)*6))).toArray 71))∧w'.os=w.os∧w'.output=w.output∧w'.tape=w.tape:=by
 obtain ⟨i0,z0,hi0,hz0,hzs,hsz,hby⟩:=zea
 have hz2:¬((i:Int)=(n:Int)):=by omega
 have hz3:(c:Int)<(n:Int)+1:=by omega
 have hLn:n*6≤L.length:=by rw[hL];exact Nat.mul_le_mul_right _ hnc
 have hbw:b<w.heap.size:=(Array.getElem?_eq_some_iff.1 hb).1
 have hvw:vb<w.heap.size:=by
  have h:=hvs 0 _ (List.getElem?_eq_getElem (by omega))
  unfold World.cell? at h
  split at h
  ·rename_i c0 t0 f0 hc0
   exact (Array.getElem?_eq_some_iff.1 hc0).1
  ·cases h
 have hkk:(n:Int)+1-(i:Int)=((n+1-i:Nat):Int):=by omega
 have hik:i+(n+1-i)=n+1:=by omega
 have hTl:(L.take (i*6)).length=i*6:=by simp;omega
 have hold:(Builtin.firstCells i0.size i (.slice (some ⟨b,0,none⟩) i c)).run Tryz.prog w.drew=.ok (L.take (i*6)).toArray w.drew:=by
  refine run_firstCells_some w.drew _ i ⟨b,0,none⟩ i c (L.take (i*6)) (by rw[hsz];exact hTl) (fun j v hj=>?_)
  rw[Addr.add_lit,Nat.zero_add]
  show w.cell? _=_
  simp only[World.cell?,hb]
  rw[List.getElem?_take]at hj
  split at hj
  ·simpa using hj
  ·cases hj
 have hrz:∀ty,(Builtin.append_ #[23,3] ty #[.slice (some ⟨b,0,none⟩) i c,.int .i64 ((n:Int)+1-(i:Int))]).run Tryz.prog w =
  .ok (.slice (some ⟨w.heap.size,0,none⟩) (n+1) (grownCap w (n+1) c 71)) (w.drew.alloc (.cells ((L.take (i*6)).toArray++Builtin.zeroCells z0.cells (n+1-i)++Builtin.zeroCells z0.cells (grownCap w (n+1) c 71-(n+1))) 71)):=fun ty=>by
  have h:=Lib.run_append_grow_zeros w 23 3 ty 71 i0 _ .i64 .i64 Tryz.underlying23 Tryz.underlying3 hi0 hz0 (some ⟨b,0,none⟩) i c _ hold (n+1-i) (by omega) (by omega) (by omega) (by omega)
   (Nat.le_trans (Nat.mul_le_mul (show n+1-i≤1073741824 by omega) hby) (by decide)) (by rw[hik];exact zgu hroom hlim hby)
  rw[hik]at h
  rw[hkk]
  exact h
 have hge:=zbx w (n+1) c 71
 obtain ⟨G,hG⟩:∃G,G=grownCap w (n+1) c 71:=⟨_,rfl⟩
 rw[←hG]at hrz hge
 have hG63:G≤9223372036854775807:=by
  have:=grownCap_le_maxLen w (n+1) c 71 (by unfold maxLen;omega)
  rw[←hG]at this
  unfold maxLen at this
  omega
 obtain ⟨R,hR⟩:∃R:List Value,R=L.take (i*6)++((Builtin.zeroCells z0.cells (n+1-i)).toList++(Builtin.zeroCells z0.cells (G-(n+1))).toList):=⟨_,rfl⟩
 have hRl:R.length=G*6:=by
  rw[hR]
  simp only[List.length_append,Array.length_toList,size_zeroCells,hzs,hTl]
  rw[←Nat.add_mul,←Nat.add_mul]
  congr 1
  omega
 have hRt:R.take (i*6)=L.take (i*6):=by rw[hR,List.take_append_of_le_length (by omega),List.take_of_length_le (by omega)]
 have hRe:(L.take (i*6)).toArray++Builtin.zeroCells z0.cells (n+1-i)++Builtin.zeroCells z0.cells (G-(n+1))=R.toArray:=by
  rw[hR];apply Array.ext';simp
 rw[hRe]at hrz
 obtain ⟨C1,hC1⟩:∃C1,C1=(L.drop (i*6)).take ((n-i)*6):=⟨_,rfl⟩
 have hC1l:C1.length=(n-i)*6:=by rw[hC1];simp;omega
 have hGn:(n+1)*6≤R.length:=by rw[hRl];exact Nat.mul_le_mul_right _ hge
 obtain ⟨M1,hM1⟩:∃M1,M1=Go.splice R (i*6) vs:=⟨_,rfl⟩
 have hM1l:M1.length=R.length:=by rw[hM1];exact length_splice _ _ _ (by omega)
 rw[←hC1]
 obtain ⟨gb,hgb⟩:∃gb,gb=w.heap.size:=⟨_,rfl⟩
 have hnew:∀W:World,W.heap=w.heap.push (.cells R.toArray 71)→W.heap[gb]?=some (.cells R.toArray 71 (0,0)):=fun W hW=>by rw[hW,hgb];simp
 have hpast:∀W:World,W.heap=w.heap.push (.cells R.toArray 71)→∀k,k<w.heap.size→W.heap[k]?=w.heap[k]?:=fun W hW k hk=>by rw[hW,Array.getElem?_push_lt hk];simp[hk]
 have hcpA:∀(W:World),W.heap=w.heap.push (.cells R.toArray 71)→∀ty dc,(Builtin.copy_ #[23,23] ty #[.slice (some ⟨gb,i*6,none⟩) (n+1-i) dc,.slice (some ⟨vb,vo,none⟩) 1 vc]).run Tryz.prog W=.ok (goInt 1) (W.setRow gb M1.toArray):=fun W hW ty dc=>by
  have hmin:Nat.min 1 (n+1-i)=1:=by show min _ _=_;omega
  have:=zbc (P:=Tryz.prog) (w:=W) (sT:=23) (ty:=ty) (dCap:=dc) (sCap:=vc) (dLen:=n+1-i) (sLen:=1) (o:=i*6) (a:=⟨vb,vo,none⟩) Tryz.underlying23 hi0 hsz (g:=gb) (t:=71) (L:=R) (hnew W hW) (cs:=vs) (by rw[hmin];omega)
   (fun j v hj=>by
    rw[Addr.add_lit]
    unfold World.cell?
    rw[show W.heap[(⟨vb,vo+j,none⟩:Addr).block]?=w.heap[vb]? from hpast W hW vb hvw]
    exact hvs j v hj) (by omega) h2
  rw[hmin,←hM1]at this
  exact this
 have hcpB:∀(W W0:World),W0.heap=w.heap.push (.cells R.toArray 71)→W.heap=(W0.setRow gb M1.toArray).heap→∀ty dc sc,(Builtin.copy_ #[23,23] ty #[.slice (some ⟨gb,(i+1)*6,none⟩) (n-i) dc,.slice (some ⟨b,i*6,none⟩) (n-i) sc]).run Tryz.prog W=.ok (goInt ((n-i:Nat):Int)) (W.setRow gb (Go.splice M1 ((i+1)*6) C1).toArray):=fun W W0 hW0 hW ty dc sc=>by
  have hmin:Nat.min (n-i) (n-i)=n-i:=by show min _ _=_;omega
  have:=zbc (P:=Tryz.prog) (w:=W) (sT:=23) (ty:=ty) (dCap:=dc) (sCap:=sc) (dLen:=n-i) (sLen:=n-i) (o:=(i+1)*6) (a:=⟨b,i*6,none⟩) Tryz.underlying23 hi0 hsz (g:=gb) (t:=71) (L:=M1) (by rw[hW];exact setRow_heap _ _ _ _ _ _ (hnew W0 hW0)) (cs:=C1) (by rw[hmin];exact hC1l)
   (fun j v hj=>by
    rw[Addr.add_lit]
    unfold World.cell?
    have e:W.heap[(⟨b,i*6+j,none⟩:Addr).block]?=w.heap[b]?:=by
     show W.heap[b]?=_
     rw[hW,setRow_other _ _ _ _ (by omega),hpast W0 hW0 b hbw]
    rw[e,hb]
    rw[hC1,List.getElem?_take]at hj
    split at hj
    ·simpa using hj
    ·cases hj) (by omega) (by rw[hC1];exact h1)
  rw[hmin]at this
  exact this
 have hw1:IntKind.i64.wrap ((i:Int)+1)=(i:Int)+1:=by rw[IntKind.wrap_i64];omega
 have hb1:(0:Int)≤(i:Int)+1:=by omega
 have hin:i≤n:=by omega
 have htn:((i:Int)+1).toNat=i+1:=by omega
 have hb3:(i:Int)≤(n:Int):=by omega
 have hGi:¬(G=i):=by omega
 have hGim:¬(G=i+1):=by omega
 have hci:¬(c=i):=by omega
 have hmixed:Tryz.prog.follows .mixedOrders=true:=by kernel_rfl
 have mixed:=hmixed
 have hfin:∀W W0:World,W0.heap=w.heap.push (.cells R.toArray 71)→W.heap=(W0.setRow gb M1.toArray).heap→(W.setRow gb (Go.splice M1 ((i+1)*6) C1).toArray).heap=w.heap.push (.cells (Go.splice M1 ((i+1)*6) C1).toArray 71):=fun W W0 hW0 hW=>by
  have h1:W.heap[gb]?=some (.cells M1.toArray 71 (0,0)):=by rw[hW];exact setRow_heap _ _ _ _ _ _ (hnew W0 hW0)
  have hsz0:W.heap.size=w.heap.size+1:=by rw[hW,setRow_size,hW0];simp
  apply Array.ext_getElem?
  intro k
  by_cases hk:k=gb
  ·subst hk
   rw[setRow_heap _ _ _ _ _ _ h1,hgb];simp
  ·rw[setRow_other _ _ _ _ hk]
   by_cases hk2:k<w.heap.size
   ·rw[hW,setRow_other _ _ _ _ hk,hpast W0 hW0 k hk2,Array.getElem?_push_lt hk2];simp[hk2]
   ·rw[Array.getElem?_eq_none (by omega),Array.getElem?_eq_none (by simp;omega)]
 have hMM:Go.splice (Go.splice R (i*6) vs) ((i+1)*6) C1=Go.splice M1 ((i+1)*6) C1:=by rw[hM1]
 subst hgb
 have hcpA':=hcpA ((w.alloc (.cells R.toArray 71)).drew) rfl
 clear hkk hcpA hik hold hG hR hRe hC1 hM1 hC1l hM1l h1 h2 hvs hL hTl
 go_enter Tryz.func210,Tryz.ntmps210
 go_wp2_with (at_builtin;refine zbd rfl _ _ _ _ rfl _ _ rfl rfl (hrz _) ?_)
 go_region_law_o (refine zco rfl _ _ 23 23 rfl (.slice (some ⟨w.heap.size,(i+1)*6,none⟩) (n-i) (G-(i+1))) (.slice (some ⟨b,i*6,none⟩) (n-i) (c-i)) (by simp[Act.eval,Act.put]) (by simp[Act.eval,Act.put]) (hcpB (((w.alloc (.cells R.toArray 71)).drew.setRow w.heap.size M1.toArray).drew) (w.drew.alloc (.cells R.toArray 71)) rfl rfl 3 (G-(i+1)) (c-i)) ?_)
 go_wp2
 go_ret
 refine ⟨G,R,rfl,hge,hRl,hRt,?_,rfl,rfl,rfl⟩
 rw[hMM]
 exact hfin _ (w.drew.alloc (.cells R.toArray 71)) rfl rfl
end Go.Proofs.YtpaidiaknfhclaaGreatDoor
namespace Go.Proofs.YtpaidiaknfhclaaGreatDoor
open Go Ev
theorem zfz:∃i0 z,Tryz.prog.info? 73=some i0∧i0.zero=some z∧z.cells.size=6∧i0.size=6∧i0.bytes≤128:=by
 have h:(match Tryz.prog.info? 73 with|some i=>(match i.zero with|some z=>Nat.beq z.cells.size 6&&Nat.beq i.size 6&&Nat.ble i.bytes 128|none=>false)|none=>false)=true:=by kernel_rfl
 split at h
 ·rename_i i hi
  split at h
  ·rename_i z hz
   simp only[Bool.and_eq_true]at h
   exact ⟨i,z,hi,hz,Nat.eq_of_beq_eq_true h.1.1,Nat.eq_of_beq_eq_true h.1.2,Nat.le_of_ble_eq_true h.2⟩
  ·cases h
 ·cases h
set_option maxHeartbeats 4000000 in
set_option maxRecDepth 100000 in
theorem zjw {w:World} {b n c i vb vo vc:Nat} {L vs:List Value} {t:TypeId} (hi:i<n) (hroom:n+1≤c) (hlim:n+1≤1073741824) (hvb:vb≠b)
 (hb:w.heap[b]?=some (.cells L.toArray t (0,0))) (hL:L.length=c*6) (hvl:vs.length=6)
 (hvs:∀j v,vs[j]?=some v→w.cell? ⟨vb,vo+j,none⟩=some v) (h1:∀v∈(L.drop (i*6)).take ((n-i)*6),v.oneCell'=true) (h2:∀v∈vs,v.oneCell'=true) :
 Calls Tryz.prog 168 #[.slice (some ⟨b,0,none⟩) n c,.int .i64 i,.slice (some ⟨vb,vo,none⟩) 1 vc] w fun e w'=>
  e=.returned (.slice (some ⟨b,0,none⟩) (n+1) c)∧w'=(w.drew.setRow b (Go.splice L ((i+1)*6) ((L.drop (i*6)).take ((n-i)*6))).toArray).setRow b (Go.splice (Go.splice L ((i+1)*6) ((L.drop (i*6)).take ((n-i)*6))) (i*6) vs).toArray:=by
 obtain ⟨i0,z0,hi0,hz0,hzs,hsz,hby⟩:=zfz
 have hz2:¬((i:Int)=(n:Int)):=by omega
 have hva:∃va ta fa,w.heap[vb]?=some (.cells va ta fa)∧0<va.size:=by
  have h:=hvs 0 _ (List.getElem?_eq_getElem (by omega))
  unfold World.cell? at h
  split at h
  ·rename_i c0 t0 f0 hc0
   exact ⟨c0,t0,f0,hc0,by have:=(Array.getElem?_eq_some_iff.1 h).1;omega⟩
  ·cases h
 obtain ⟨va,ta,fa,hva,hva0⟩:=hva
 have hov:∀lb cb,(callFunc 223 #[.slice (some ⟨vb,vo,none⟩) 1 vc,.slice (some ⟨b,(i+1)*6,none⟩) lb cb]).run Tryz.prog w=.ok (.value (.bool false)) w:=fun lb cb=>by
  rw[run_callFunc_extern Tryz.func223 (by kernel_rfl) (by kernel_rfl) (by kernel_rfl) (e:=Extern.SlicesOverlaps.overlaps #[24,24] #[4]) (by kernel_rfl),
   zc1 Tryz.underlying24 hi0 (a:=⟨vb,vo,none⟩) (b:=⟨b,(i+1)*6,none⟩) hvb hva hva0 hb (by simp only[List.size_toArray];omega)]
  rfl
 have hLn:(n+1)*6≤L.length:=by rw[hL];exact Nat.mul_le_mul_right _ hroom
 obtain ⟨C1,hC1⟩:∃C1,C1=(L.drop (i*6)).take ((n-i)*6):=⟨_,rfl⟩
 have hC1l:C1.length=(n-i)*6:=by rw[hC1];simp;omega
 obtain ⟨M1,hM1⟩:∃M1,M1=Go.splice L ((i+1)*6) C1:=⟨_,rfl⟩
 have hM1l:M1.length=L.length:=by rw[hM1];exact length_splice _ _ _ (by omega)
 rw[←hC1,←hM1]
 have hcp1:∀ty dc sc,(Builtin.copy_ #[24,24] ty #[.slice (some ⟨b,(i+1)*6,none⟩) (n-i) dc,.slice (some ⟨b,i*6,none⟩) (n+1-i) sc]).run Tryz.prog w.drew=.ok (goInt ((n-i:Nat):Int)) (w.drew.setRow b M1.toArray):=fun ty dc sc=>by
  have hmin:Nat.min (n+1-i) (n-i)=n-i:=by show min _ _=_;omega
  have:=zbc (P:=Tryz.prog) (w:=w.drew) (sT:=24) (ty:=ty) (dCap:=dc) (sCap:=sc) (dLen:=n-i) (sLen:=n+1-i) (o:=(i+1)*6) (a:=⟨b,i*6,none⟩) Tryz.underlying24 hi0 hsz hb (cs:=C1) (by rw[hmin];exact hC1l)
   (fun j v hj=>by
    rw[Addr.add_lit]
    show w.cell? _=_
    simp only[World.cell?,hb]
    rw[hC1,List.getElem?_take]at hj
    split at hj
    ·simpa using hj
    ·cases hj) (by omega) (by rw[hC1];exact h1)
  rw[hmin,←hM1]at this
  exact this
 have hcp2:∀(W:World),W=(w.drew.setRow b M1.toArray)→∀ty dc,(Builtin.copy_ #[24,24] ty #[.slice (some ⟨b,i*6,none⟩) (n+1-i) dc,.slice (some ⟨vb,vo,none⟩) 1 vc]).run Tryz.prog W=.ok (goInt 1) (W.setRow b (Go.splice M1 (i*6) vs).toArray):=fun W hW ty dc=>by
  have hmin:Nat.min 1 (n+1-i)=1:=by show min _ _=_;omega
  have:=zbc (P:=Tryz.prog) (w:=W) (sT:=24) (ty:=ty) (dCap:=dc) (sCap:=vc) (dLen:=n+1-i) (sLen:=1) (o:=i*6) (a:=⟨vb,vo,none⟩) Tryz.underlying24 hi0 hsz (g:=b) (t:=t) (L:=M1) (by rw[hW];exact setRow_heap _ _ _ _ _ _ hb) (cs:=vs) (by rw[hmin];omega)
   (fun j v hj=>by
    rw[Addr.add_lit,hW,cell_setRow_other _ _ _ _ hvb]
    exact hvs j v hj) (by omega) h2
  rw[hmin]at this
  exact this
 have hw1:IntKind.i64.wrap ((i:Int)+1)=(i:Int)+1:=by rw[IntKind.wrap_i64];omega
 have hb1:(0:Int)≤(i:Int)+1:=by omega
 have hin:i≤n:=by omega
 have htn:((i:Int)+1).toNat=i+1:=by omega
 have hb2:¬(c=i+1):=by omega
 have hb3:(i:Int)≤(n:Int)+1:=by omega
 have hb4:¬(c=i):=by omega
 have mixed:Tryz.prog.follows .mixedOrders=true:=by kernel_rfl
 clear hC1 hM1 hC1l hM1l h1 h2 hvs hL
 go_enter Tryz.func168,Tryz.ntmps168
 go_wp2_with (simp only[hov])
 go_region_law_o (refine zco rfl _ _ 24 24 rfl _ _ (by simp[Act.eval,Act.put]) (by simp[Act.eval,Act.put]) (hcp1 _ _ _) ?_)
 go_wp2_with (at_builtin;refine zjq rfl _ _ 24 24 rfl _ _ rfl rfl (hcp2 _ rfl _ _) ?_)
 go_ret
 exact ⟨rfl,rfl⟩
theorem zj3 {i0:TypeInfo} {k c:Nat} (h:c<k) (hk:k≤1073741824) (hby:i0.bytes≤128):Builtin.nextslicecap k c*i0.bytes≤281474976710656:=
 growslice_fits h (Nat.le_trans (Nat.mul_le_mul hk hby) (by decide))
set_option maxHeartbeats 4000000 in
set_option maxRecDepth 100000 in
theorem zmf {w:World} {b n c vb vo vc:Nat} {L vs:List Value} {t:TypeId} (hroom:n+1≤c) (hlim:n+1≤1073741824)
 (hb:w.heap[b]?=some (.cells L.toArray t (0,0))) (hL:L.length=c*6) (hvl:vs.length=6)
 (hvs:∀j v,vs[j]?=some v→w.cell? ⟨vb,vo+j,none⟩=some v) (h2:∀v∈vs,v.oneCell'=true) :
 Calls Tryz.prog 168 #[.slice (some ⟨b,0,none⟩) n c,.int .i64 n,.slice (some ⟨vb,vo,none⟩) 1 vc] w fun e w'=>
  e=.returned (.slice (some ⟨b,0,none⟩) (n+1) c)∧w'=w.setRow b (Go.splice L (n*6) vs).toArray:=by
 obtain ⟨i0,z0,hi0,hz0,hzs,hsz,hby⟩:=zfz
 have hLn:(n+1)*6≤L.length:=by rw[hL];exact Nat.mul_le_mul_right _ hroom
 have hf:=run_firstCells_some (P:=Tryz.prog) w i0.size 1 ⟨vb,vo,none⟩ 1 vc vs (by omega) (fun j v hj=>by rw[Addr.add_lit];exact hvs j v hj)
 have hap:∀ty,(Builtin.append_ #[24,24] ty #[.slice (some ⟨b,0,none⟩) n c,.slice (some ⟨vb,vo,none⟩) 1 vc]).run Tryz.prog w=.ok (.slice (some ⟨b,0,none⟩) (n+1) c) (w.setRow b (Go.splice L (n*6) vs).toArray):=fun ty=>by
  have:=zbt (P:=Tryz.prog) (w:=w) (ty:=ty) (ts:=#[24,24]) rfl rfl Tryz.underlying24 Tryz.underlying24 hi0 hf hroom hb (by simp only[List.size_toArray];rw[hsz];omega) h2
  rw[hsz]at this
  simpa[Go.splice]using this
 go_enter Tryz.func168,Tryz.ntmps168
 go_wp2_with (at_builtin;refine zbd rfl _ _ _ _ rfl _ _ rfl rfl (hap _) ?_)
 all_goals (go_ret;exact ⟨rfl,rfl⟩)
set_option maxHeartbeats 4000000 in
set_option maxRecDepth 100000 in
theorem zn3 {w:World} {base:Option Addr} {n c vb vo vc:Nat} {olds vs:List Value} (hnc:n≤c) (hroom:c<n+1) (hlim:n+1≤1073741824) (hvl:vs.length=6)
 (hnil:base=none→n=0) (hol:olds.length=n*6) (hos:∀a,base=some a→∀j v,olds[j]?=some v→w.cell? (a.add j)=some v)
 (hvs:∀j v,vs[j]?=some v→w.cell? ⟨vb,vo+j,none⟩=some v) :
 Calls Tryz.prog 168 #[.slice base n c,.int .i64 n,.slice (some ⟨vb,vo,none⟩) 1 vc] w fun e w'=>
  ∃cap zs,e=.returned (.slice (some ⟨w.heap.size,0,none⟩) (n+1) cap)∧w'=w.drew.alloc (.cells (olds++(vs++zs)).toArray 73)∧n+1≤cap∧zs.length=(cap-(n+1))*6:=by
 obtain ⟨i0,z0,hi0,hz0,hzs,hsz,hby⟩:=zfz
 have hf:=run_firstCells_some (P:=Tryz.prog) w.drew i0.size 1 ⟨vb,vo,none⟩ 1 vc vs (by omega) (fun j v hj=>by rw[Addr.add_lit];exact hvs j v hj)
 have hold:(Builtin.firstCells i0.size n (.slice base n c)).run Tryz.prog w.drew=.ok olds.toArray w.drew:=by
  cases base with
  |none=>
   have h0:=hnil rfl
   subst h0
   rw[List.length_eq_zero_iff.1 (by omega:olds.length=0)]
   exact run_firstCells_none w.drew _ 0 0 c
  |some a=>exact run_firstCells_some w.drew _ n a n c olds (by rw[hsz];omega) (fun j v hj=>hos a rfl j v hj)
 have hap:∀ty,(Builtin.append_ #[24,24] ty #[.slice base n c,.slice (some ⟨vb,vo,none⟩) 1 vc]).run Tryz.prog w=_:=fun ty=>
  zb2 (P:=Tryz.prog) (w:=w) (ty:=ty) (ts:=#[24,24]) rfl rfl Tryz.underlying24 Tryz.underlying24 hi0 hz0 hf hold hroom (by omega) (zj3 hroom hlim hby)
 have hge:=zbx w (n+1) c 73
 obtain ⟨G,hG⟩:∃G,G=grownCap w (n+1) c 73:=⟨_,rfl⟩
 obtain ⟨zs,hzs'⟩:∃zs,zs=(Builtin.zeroCells z0.cells (G-(n+1))).toList:=⟨_,rfl⟩
 rw[←hG]at hap hge
 rw[←hzs']at hap
 have hzl:zs.length=(G-(n+1))*6:=by rw[hzs',Array.length_toList,size_zeroCells,hzs]
 clear hG hzs'
 go_enter Tryz.func168,Tryz.ntmps168
 cases base with
 |none=>
  have h0:=hnil rfl
  subst h0
  go_wp2_with (at_builtin;refine zbd rfl _ _ _ _ rfl _ _ rfl rfl (hap _) ?_)
  all_goals (go_ret;first|exact ⟨_,_,rfl,rfl,hge,hzl⟩|exact ⟨_,rfl,_,rfl,hge,hzl⟩)
 |some a=>
  obtain ⟨ab,ao,asp⟩:=a
  go_wp2_with (at_builtin;refine zbd rfl _ _ _ _ rfl _ _ rfl rfl (hap _) ?_)
  all_goals (go_ret;first|exact ⟨_,_,rfl,rfl,hge,hzl⟩|exact ⟨_,rfl,_,rfl,hge,hzl⟩)
set_option maxHeartbeats 4000000 in
set_option maxRecDepth 100000 in
theorem zme {w:World} {b n c i vb vo vc:Nat} {L vs:List Value} {t:TypeId} (hi:i<n) (hnc:n≤c) (hroom:c<n+1) (hlim:n+1≤1073741824) (hvb:vb≠b)
 (hb:w.heap[b]?=some (.cells L.toArray t (0,0))) (hL:L.length=c*6) (hvl:vs.length=6)
 (hvs:∀j v,vs[j]?=some v→w.cell? ⟨vb,vo+j,none⟩=some v) (h1:∀v∈(L.drop (i*6)).take ((n-i)*6),v.oneCell'=true) (h2:∀v∈vs,v.oneCell'=true) :
 Calls Tryz.prog 168 #[.slice (some ⟨b,0,none⟩) n c,.int .i64 i,.slice (some ⟨vb,vo,none⟩) 1 vc] w fun e w'=>
  ∃cap row,e=.returned (.slice (some ⟨w.heap.size,0,none⟩) (n+1) cap)∧n+1≤cap∧row.length=cap*6∧row.take (i*6)=L.take (i*6)∧
   w'.heap=(w.heap.push (.cells (Go.splice (Go.splice row (i*6) vs) ((i+1)*6) ((L.drop (i*6)).take ((n-i)*6))).toArray 73))∧w'.os=w.os∧w'.output=w.output∧w'.tape=w.tape:=by
 obtain ⟨i0,z0,hi0,hz0,hzs,hsz,hby⟩:=zfz
 have hz2:¬((i:Int)=(n:Int)):=by omega
 have hz3:(c:Int)<(n:Int)+1:=by omega
 have hLn:n*6≤L.length:=by rw[hL];exact Nat.mul_le_mul_right _ hnc
 have hbw:b<w.heap.size:=(Array.getElem?_eq_some_iff.1 hb).1
 have hvw:vb<w.heap.size:=by
  have h:=hvs 0 _ (List.getElem?_eq_getElem (by omega))
  unfold World.cell? at h
  split at h
  ·rename_i c0 t0 f0 hc0
   exact (Array.getElem?_eq_some_iff.1 hc0).1
  ·cases h
 have hkk:(n:Int)+1-(i:Int)=((n+1-i:Nat):Int):=by omega
 have hik:i+(n+1-i)=n+1:=by omega
 have hTl:(L.take (i*6)).length=i*6:=by simp;omega
 have hold:(Builtin.firstCells i0.size i (.slice (some ⟨b,0,none⟩) i c)).run Tryz.prog w.drew=.ok (L.take (i*6)).toArray w.drew:=by
  refine run_firstCells_some w.drew _ i ⟨b,0,none⟩ i c (L.take (i*6)) (by rw[hsz];exact hTl) (fun j v hj=>?_)
  rw[Addr.add_lit,Nat.zero_add]
  show w.cell? _=_
  simp only[World.cell?,hb]
  rw[List.getElem?_take]at hj
  split at hj
  ·simpa using hj
  ·cases hj
 have hrz:∀ty,(Builtin.append_ #[24,3] ty #[.slice (some ⟨b,0,none⟩) i c,.int .i64 ((n:Int)+1-(i:Int))]).run Tryz.prog w =
  .ok (.slice (some ⟨w.heap.size,0,none⟩) (n+1) (grownCap w (n+1) c 73)) (w.drew.alloc (.cells ((L.take (i*6)).toArray++Builtin.zeroCells z0.cells (n+1-i)++Builtin.zeroCells z0.cells (grownCap w (n+1) c 73-(n+1))) 73)):=fun ty=>by
  have h:=Lib.run_append_grow_zeros w 24 3 ty 73 i0 _ .i64 .i64 Tryz.underlying24 Tryz.underlying3 hi0 hz0 (some ⟨b,0,none⟩) i c _ hold (n+1-i) (by omega) (by omega) (by omega) (by omega)
   (Nat.le_trans (Nat.mul_le_mul (show n+1-i≤1073741824 by omega) hby) (by decide)) (by rw[hik];exact zj3 hroom hlim hby)
  rw[hik]at h
  rw[hkk]
  exact h
 have hge:=zbx w (n+1) c 73
 obtain ⟨G,hG⟩:∃G,G=grownCap w (n+1) c 73:=⟨_,rfl⟩
 rw[←hG]at hrz hge
 have hG63:G≤9223372036854775807:=by
  have:=grownCap_le_maxLen w (n+1) c 73 (by unfold maxLen;omega)
  rw[←hG]at this
  unfold maxLen at this
  omega
 obtain ⟨R,hR⟩:∃R:List Value,R=L.take (i*6)++((Builtin.zeroCells z0.cells (n+1-i)).toList++(Builtin.zeroCells z0.cells (G-(n+1))).toList):=⟨_,rfl⟩
 have hRl:R.length=G*6:=by
  rw[hR]
  simp only[List.length_append,Array.length_toList,size_zeroCells,hzs,hTl]
  rw[←Nat.add_mul,←Nat.add_mul]
  congr 1
  omega
 have hRt:R.take (i*6)=L.take (i*6):=by rw[hR,List.take_append_of_le_length (by omega),List.take_of_length_le (by omega)]
 have hRe:(L.take (i*6)).toArray++Builtin.zeroCells z0.cells (n+1-i)++Builtin.zeroCells z0.cells (G-(n+1))=R.toArray:=by
  rw[hR];apply Array.ext';simp
 rw[hRe]at hrz
 obtain ⟨C1,hC1⟩:∃C1,C1=(L.drop (i*6)).take ((n-i)*6):=⟨_,rfl⟩
 have hC1l:C1.length=(n-i)*6:=by rw[hC1];simp;omega
 have hGn:(n+1)*6≤R.length:=by rw[hRl];exact Nat.mul_le_mul_right _ hge
 obtain ⟨M1,hM1⟩:∃M1,M1=Go.splice R (i*6) vs:=⟨_,rfl⟩
 have hM1l:M1.length=R.length:=by rw[hM1];exact length_splice _ _ _ (by omega)
 rw[←hC1]
 obtain ⟨gb,hgb⟩:∃gb,gb=w.heap.size:=⟨_,rfl⟩
 have hnew:∀W:World,W.heap=w.heap.push (.cells R.toArray 73)→W.heap[gb]?=some (.cells R.toArray 73 (0,0)):=fun W hW=>by rw[hW,hgb];simp
 have hpast:∀W:World,W.heap=w.heap.push (.cells R.toArray 73)→∀k,k<w.heap.size→W.heap[k]?=w.heap[k]?:=fun W hW k hk=>by rw[hW,Array.getElem?_push_lt hk];simp[hk]
 have hcpA:∀(W:World),W.heap=w.heap.push (.cells R.toArray 73)→∀ty dc,(Builtin.copy_ #[24,24] ty #[.slice (some ⟨gb,i*6,none⟩) (n+1-i) dc,.slice (some ⟨vb,vo,none⟩) 1 vc]).run Tryz.prog W=.ok (goInt 1) (W.setRow gb M1.toArray):=fun W hW ty dc=>by
  have hmin:Nat.min 1 (n+1-i)=1:=by show min _ _=_;omega
  have:=zbc (P:=Tryz.prog) (w:=W) (sT:=24) (ty:=ty) (dCap:=dc) (sCap:=vc) (dLen:=n+1-i) (sLen:=1) (o:=i*6) (a:=⟨vb,vo,none⟩) Tryz.underlying24 hi0 hsz (g:=gb) (t:=73) (L:=R) (hnew W hW) (cs:=vs) (by rw[hmin];omega)
   (fun j v hj=>by
    rw[Addr.add_lit]
    unfold World.cell?
    rw[show W.heap[(⟨vb,vo+j,none⟩:Addr).block]?=w.heap[vb]? from hpast W hW vb hvw]
    exact hvs j v hj) (by omega) h2
  rw[hmin,←hM1]at this
  exact this
 have hcpB:∀(W W0:World),W0.heap=w.heap.push (.cells R.toArray 73)→W.heap=(W0.setRow gb M1.toArray).heap→∀ty dc sc,(Builtin.copy_ #[24,24] ty #[.slice (some ⟨gb,(i+1)*6,none⟩) (n-i) dc,.slice (some ⟨b,i*6,none⟩) (n-i) sc]).run Tryz.prog W=.ok (goInt ((n-i:Nat):Int)) (W.setRow gb (Go.splice M1 ((i+1)*6) C1).toArray):=fun W W0 hW0 hW ty dc sc=>by
  have hmin:Nat.min (n-i) (n-i)=n-i:=by show min _ _=_;omega
  have:=zbc (P:=Tryz.prog) (w:=W) (sT:=24) (ty:=ty) (dCap:=dc) (sCap:=sc) (dLen:=n-i) (sLen:=n-i) (o:=(i+1)*6) (a:=⟨b,i*6,none⟩) Tryz.underlying24 hi0 hsz (g:=gb) (t:=73) (L:=M1) (by rw[hW];exact setRow_heap _ _ _ _ _ _ (hnew W0 hW0)) (cs:=C1) (by rw[hmin];exact hC1l)
   (fun j v hj=>by
    rw[Addr.add_lit]
    unfold World.cell?
    have e:W.heap[(⟨b,i*6+j,none⟩:Addr).block]?=w.heap[b]?:=by
     show W.heap[b]?=_
     rw[hW,setRow_other _ _ _ _ (by omega),hpast W0 hW0 b hbw]
    rw[e,hb]
    rw[hC1,List.getElem?_take]at hj
    split at hj
    ·simpa using hj
    ·cases hj) (by omega) (by rw[hC1];exact h1)
  rw[hmin]at this
  exact this
 have hw1:IntKind.i64.wrap ((i:Int)+1)=(i:Int)+1:=by rw[IntKind.wrap_i64];omega
 have hb1:(0:Int)≤(i:Int)+1:=by omega
 have hin:i≤n:=by omega
 have htn:((i:Int)+1).toNat=i+1:=by omega
 have hb3:(i:Int)≤(n:Int):=by omega
 have hGi:¬(G=i):=by omega
 have hGim:¬(G=i+1):=by omega
 have hci:¬(c=i):=by omega
 have hmixed:Tryz.prog.follows .mixedOrders=true:=by kernel_rfl
 have mixed:=hmixed
 have hfin:∀W W0:World,W0.heap=w.heap.push (.cells R.toArray 73)→W.heap=(W0.setRow gb M1.toArray).heap→(W.setRow gb (Go.splice M1 ((i+1)*6) C1).toArray).heap=w.heap.push (.cells (Go.splice M1 ((i+1)*6) C1).toArray 73):=fun W W0 hW0 hW=>by
  have h1:W.heap[gb]?=some (.cells M1.toArray 73 (0,0)):=by rw[hW];exact setRow_heap _ _ _ _ _ _ (hnew W0 hW0)
  have hsz0:W.heap.size=w.heap.size+1:=by rw[hW,setRow_size,hW0];simp
  apply Array.ext_getElem?
  intro k
  by_cases hk:k=gb
  ·subst hk
   rw[setRow_heap _ _ _ _ _ _ h1,hgb];simp
  ·rw[setRow_other _ _ _ _ hk]
   by_cases hk2:k<w.heap.size
   ·rw[hW,setRow_other _ _ _ _ hk,hpast W0 hW0 k hk2,Array.getElem?_push_lt hk2];simp[hk2]
   ·rw[Array.getElem?_eq_none (by omega),Array.getElem?_eq_none (by simp;omega)]
 have hMM:Go.splice (Go.splice R (i*6) vs) ((i+1)*6) C1=Go.splice M1 ((i+1)*6) C1:=by rw[hM1]
 subst hgb
 have hcpA':=hcpA ((w.alloc (.cells R.toArray 73)).drew) rfl
 clear hkk hcpA hik hold hG hR hRe hC1 hM1 hC1l hM1l h1 h2 hvs hL hTl
 go_enter Tryz.func168,Tryz.ntmps168
 go_wp2_with (at_builtin;refine zbd rfl _ _ _ _ rfl _ _ rfl rfl (hrz _) ?_)
 go_region_law_o (refine zco rfl _ _ 24 24 rfl (.slice (some ⟨w.heap.size,(i+1)*6,none⟩) (n-i) (G-(i+1))) (.slice (some ⟨b,i*6,none⟩) (n-i) (c-i)) (by simp[Act.eval,Act.put]) (by simp[Act.eval,Act.put]) (hcpB (((w.alloc (.cells R.toArray 73)).drew.setRow w.heap.size M1.toArray).drew) (w.drew.alloc (.cells R.toArray 73)) rfl rfl 3 (G-(i+1)) (c-i)) ?_)
 go_wp2
 go_ret
 refine ⟨G,R,rfl,hge,hRl,hRt,?_,rfl,rfl,rfl⟩
 rw[hMM]
 exact hfin _ (w.drew.alloc (.cells R.toArray 73)) rfl rfl
end Go.Proofs.YtpaidiaknfhclaaGreatDoor
namespace Go.Proofs.YtpaidiaknfhclaaGreatDoor
open Go Ev
theorem zv5:∃i0 z,Tryz.prog.info? 75=some i0∧i0.zero=some z∧z.cells.size=11∧i0.size=11∧∀v∈z.cells,v.oneCell'=true:=by
 have h:(match Tryz.prog.info? 75 with|some i=>(match i.zero with|some z=>Nat.beq z.cells.size 11&&Nat.beq i.size 11&&z.cells.toList.all (·.oneCell')|none=>false)|none=>false)=true:=by kernel_rfl
 split at h
 ·rename_i i hi
  split at h
  ·rename_i z hz
   simp only[Bool.and_eq_true]at h
   exact ⟨i,z,hi,hz,Nat.eq_of_beq_eq_true h.1.1,Nat.eq_of_beq_eq_true h.1.2,fun v hv=>List.all_eq_true.1 h.2 v (by simpa using hv)⟩
  ·cases h
 ·cases h
set_option maxHeartbeats 4000000 in
set_option maxRecDepth 100000 in
theorem zl4 {w:World} {base:Option Addr} {n c i:Nat} (hnc:n≤c) (hi:i≤n) :
 Calls Tryz.prog 225 #[.slice base n c,.int .i64 i,.int .i64 i] w fun e w'=>e=.returned (.slice base n c)∧w'=w:=by
 cases base with
 |none=>
  go_enter Tryz.func225,Tryz.ntmps225
  go_wp2
  all_goals (go_ret;exact ⟨rfl,rfl⟩)
 |some a=>
  obtain ⟨ab,ao,asp⟩:=a
  go_enter Tryz.func225,Tryz.ntmps225
  go_wp2
  all_goals (go_ret;exact ⟨rfl,rfl⟩)
set_option maxHeartbeats 4000000 in
set_option maxRecDepth 100000 in
theorem zl5 {w:World} {b n c i j:Nat} {L:List Value} {t:TypeId} (hij:i<j) (hj:j≤n) (hnc:n≤c)
 (hb:w.heap[b]?=some (.cells L.toArray t (0,0))) (hL:L.length=c*11) (h1:∀v∈(L.drop (j*11)).take ((n-j)*11),v.oneCell'=true) :
 Calls Tryz.prog 225 #[.slice (some ⟨b,0,none⟩) n c,.int .i64 i,.int .i64 j] w fun e w'=>
  e=.returned (.slice (some ⟨b,0,none⟩) (i+(n-j)) c)∧∃(M0:Array Value) (zs:List Value),zs.length=(j-i)*11∧w'=(w.drew.setRow b M0).setRow b (Go.splice (Go.splice L (i*11) ((L.drop (j*11)).take ((n-j)*11))) ((i+(n-j))*11) zs).toArray:=by
 obtain ⟨i0,z0,hi0,hz0,hzs,hsz,hz1⟩:=zv5
 have hLn:n*11≤L.length:=by rw[hL];exact Nat.mul_le_mul_right _ hnc
 obtain ⟨C1,hC1⟩:∃C1,C1=(L.drop (j*11)).take ((n-j)*11):=⟨_,rfl⟩
 have hC1l:C1.length=(n-j)*11:=by rw[hC1];simp;omega
 obtain ⟨M1,hM1⟩:∃M1,M1=Go.splice L (i*11) C1:=⟨_,rfl⟩
 have hM1l:M1.length=L.length:=by rw[hM1];exact length_splice _ _ _ (by omega)
 rw[←hC1,←hM1]
 obtain ⟨A,hA,hsrc⟩:∃A:Addr,(if c=j then some (⟨b,0,none⟩:Addr) else some ⟨b,j*11,none⟩)=some A∧∀q v,C1[q]?=some v→w.drew.cell? (A.add q)=some v:=by
  by_cases h:c=j
  ·refine ⟨⟨b,0,none⟩,by simp[h],fun q v hq=>?_⟩
   have:=(List.getElem?_eq_some_iff.1 hq).1
   omega
  ·refine ⟨⟨b,j*11,none⟩,by simp[h],fun q v hq=>?_⟩
   rw[Addr.add_lit]
   show w.cell? _=_
   simp only[World.cell?,hb]
   rw[hC1,List.getElem?_take]at hq
   split at hq
   ·simpa using hq
   ·cases hq
 have hf:∀xc,(Builtin.firstCells i0.size (n-j) (.slice (some A) (n-j) xc)).run Tryz.prog w.drew=.ok C1.toArray w.drew:=fun xc=>run_firstCells_some (P:=Tryz.prog) w.drew i0.size (n-j) A (n-j) xc C1 (by rw[hsz];exact hC1l) hsrc
 have hone:∀v∈C1,v.oneCell'=true:=by rw[hC1];exact h1
 have hap:∀ty xc,(Builtin.append_ #[25,25] ty #[.slice (some ⟨b,0,none⟩) i c,.slice (some A) (n-j) xc]).run Tryz.prog w.drew=.ok (.slice (some ⟨b,0,none⟩) (i+(n-j)) c) (w.drew.setRow b M1.toArray):=fun ty xc=>by
  have:=zbt (P:=Tryz.prog) (w:=w.drew) (ty:=ty) (ts:=#[25,25]) rfl rfl Tryz.underlying25 Tryz.underlying25 hi0 (hf xc) (sLen:=i) (sCap:=c) (by omega) hb (by simp only[List.size_toArray];rw[hsz];omega) hone
  rw[hsz]at this
  rw[hM1]
  simpa[Go.splice]using this
 obtain ⟨zs,hzs'⟩:∃zs,zs=(Builtin.zeroCells z0.cells (j-i)).toList:=⟨_,rfl⟩
 have hzl:zs.length=(j-i)*11:=by rw[hzs',Array.length_toList,Go.size_zeroCells,hzs]
 have hcl:∀ty cc,(Builtin.clear_ #[25] ty #[.slice (some ⟨b,(i+(n-j))*11,none⟩) (n-(i+(n-j))) cc]).run Tryz.prog (w.drew.setRow b M1.toArray)=.ok (.tuple #[]) ((w.drew.setRow b M1.toArray).setRow b (Go.splice M1 ((i+(n-j))*11) zs).toArray):=fun ty cc=>by
  have e:n-(i+(n-j))=j-i:=by omega
  rw[e,hzs']
  exact zjc (P:=Tryz.prog) (w:=w.drew.setRow b M1.toArray) Tryz.underlying25 hi0 hz0 (by omega) (setRow_heap _ _ _ _ _ _ hb) (by rw[hzs];omega) hz1
 have hic:i≤c:=by omega
 have hjc:j≤c:=by omega
 have mixed:Tryz.prog.follows .mixedOrders=true:=by kernel_rfl
 clear hC1 hM1 hC1l hM1l h1 hL hf hone hzs'
 go_enter Tryz.func225,Tryz.ntmps225
 go_wp2_with fail
 go_region_law_o (refine zli rfl (.tmp 22) (.tmp 25) 25 25 rfl (.slice (some ⟨b,0,none⟩) i c) (.slice (some A) (n-j) (c-j)) (by simp[Act.eval,Act.put]) (by simp[Act.eval,Act.put]) (hap _ _) ?_)
 go_wp2
 go_ret
 exact ⟨rfl,_,zs,hzl,rfl⟩
end Go.Proofs.YtpaidiaknfhclaaGreatDoor
namespace Go.Proofs.YtpaidiaknfhclaaGreatDoor
open Go Ev
theorem zv6:∃i0 z,Tryz.prog.info? 73=some i0∧i0.zero=some z∧z.cells.size=6∧i0.size=6∧∀v∈z.cells,v.oneCell'=true:=by
 have h:(match Tryz.prog.info? 73 with|some i=>(match i.zero with|some z=>Nat.beq z.cells.size 6&&Nat.beq i.size 6&&z.cells.toList.all (·.oneCell')|none=>false)|none=>false)=true:=by kernel_rfl
 split at h
 ·rename_i i hi
  split at h
  ·rename_i z hz
   simp only[Bool.and_eq_true]at h
   exact ⟨i,z,hi,hz,Nat.eq_of_beq_eq_true h.1.1,Nat.eq_of_beq_eq_true h.1.2,fun v hv=>List.all_eq_true.1 h.2 v (by simpa using hv)⟩
  ·cases h
 ·cases h
set_option maxHeartbeats 4000000 in
set_option maxRecDepth 100000 in
theorem zl6 {w:World} {base:Option Addr} {n c i:Nat} (hnc:n≤c) (hi:i≤n) :
 Calls Tryz.prog 187 #[.slice base n c,.int .i64 i,.int .i64 i] w fun e w'=>e=.returned (.slice base n c)∧w'=w:=by
 cases base with
 |none=>
  go_enter Tryz.func187,Tryz.ntmps187
  go_wp2
  all_goals (go_ret;exact ⟨rfl,rfl⟩)
 |some a=>
  obtain ⟨ab,ao,asp⟩:=a
  go_enter Tryz.func187,Tryz.ntmps187
  go_wp2
  all_goals (go_ret;exact ⟨rfl,rfl⟩)
set_option maxHeartbeats 4000000 in
set_option maxRecDepth 100000 in
theorem zl7 {w:World} {b n c i j:Nat} {L:List Value} {t:TypeId} (hij:i<j) (hj:j≤n) (hnc:n≤c)
 (hb:w.heap[b]?=some (.cells L.toArray t (0,0))) (hL:L.length=c*6) (h1:∀v∈(L.drop (j*6)).take ((n-j)*6),v.oneCell'=true) :
 Calls Tryz.prog 187 #[.slice (some ⟨b,0,none⟩) n c,.int .i64 i,.int .i64 j] w fun e w'=>
  e=.returned (.slice (some ⟨b,0,none⟩) (i+(n-j)) c)∧∃(M0:Array Value) (zs:List Value),zs.length=(j-i)*6∧w'=(w.drew.setRow b M0).setRow b (Go.splice (Go.splice L (i*6) ((L.drop (j*6)).take ((n-j)*6))) ((i+(n-j))*6) zs).toArray:=by
 obtain ⟨i0,z0,hi0,hz0,hzs,hsz,hz1⟩:=zv6
 have hLn:n*6≤L.length:=by rw[hL];exact Nat.mul_le_mul_right _ hnc
 obtain ⟨C1,hC1⟩:∃C1,C1=(L.drop (j*6)).take ((n-j)*6):=⟨_,rfl⟩
 have hC1l:C1.length=(n-j)*6:=by rw[hC1];simp;omega
 obtain ⟨M1,hM1⟩:∃M1,M1=Go.splice L (i*6) C1:=⟨_,rfl⟩
 have hM1l:M1.length=L.length:=by rw[hM1];exact length_splice _ _ _ (by omega)
 rw[←hC1,←hM1]
 obtain ⟨A,hA,hsrc⟩:∃A:Addr,(if c=j then some (⟨b,0,none⟩:Addr) else some ⟨b,j*6,none⟩)=some A∧∀q v,C1[q]?=some v→w.drew.cell? (A.add q)=some v:=by
  by_cases h:c=j
  ·refine ⟨⟨b,0,none⟩,by simp[h],fun q v hq=>?_⟩
   have:=(List.getElem?_eq_some_iff.1 hq).1
   omega
  ·refine ⟨⟨b,j*6,none⟩,by simp[h],fun q v hq=>?_⟩
   rw[Addr.add_lit]
   show w.cell? _=_
   simp only[World.cell?,hb]
   rw[hC1,List.getElem?_take]at hq
   split at hq
   ·simpa using hq
   ·cases hq
 have hf:∀xc,(Builtin.firstCells i0.size (n-j) (.slice (some A) (n-j) xc)).run Tryz.prog w.drew=.ok C1.toArray w.drew:=fun xc=>run_firstCells_some (P:=Tryz.prog) w.drew i0.size (n-j) A (n-j) xc C1 (by rw[hsz];exact hC1l) hsrc
 have hone:∀v∈C1,v.oneCell'=true:=by rw[hC1];exact h1
 have hap:∀ty xc,(Builtin.append_ #[24,24] ty #[.slice (some ⟨b,0,none⟩) i c,.slice (some A) (n-j) xc]).run Tryz.prog w.drew=.ok (.slice (some ⟨b,0,none⟩) (i+(n-j)) c) (w.drew.setRow b M1.toArray):=fun ty xc=>by
  have:=zbt (P:=Tryz.prog) (w:=w.drew) (ty:=ty) (ts:=#[24,24]) rfl rfl Tryz.underlying24 Tryz.underlying24 hi0 (hf xc) (sLen:=i) (sCap:=c) (by omega) hb (by simp only[List.size_toArray];rw[hsz];omega) hone
  rw[hsz]at this
  rw[hM1]
  simpa[Go.splice]using this
 obtain ⟨zs,hzs'⟩:∃zs,zs=(Builtin.zeroCells z0.cells (j-i)).toList:=⟨_,rfl⟩
 have hzl:zs.length=(j-i)*6:=by rw[hzs',Array.length_toList,Go.size_zeroCells,hzs]
 have hcl:∀ty cc,(Builtin.clear_ #[24] ty #[.slice (some ⟨b,(i+(n-j))*6,none⟩) (n-(i+(n-j))) cc]).run Tryz.prog (w.drew.setRow b M1.toArray)=.ok (.tuple #[]) ((w.drew.setRow b M1.toArray).setRow b (Go.splice M1 ((i+(n-j))*6) zs).toArray):=fun ty cc=>by
  have e:n-(i+(n-j))=j-i:=by omega
  rw[e,hzs']
  exact zjc (P:=Tryz.prog) (w:=w.drew.setRow b M1.toArray) Tryz.underlying24 hi0 hz0 (by omega) (setRow_heap _ _ _ _ _ _ hb) (by rw[hzs];omega) hz1
 have hic:i≤c:=by omega
 have hjc:j≤c:=by omega
 have mixed:Tryz.prog.follows .mixedOrders=true:=by kernel_rfl
 clear hC1 hM1 hC1l hM1l h1 hL hf hone hzs'
 go_enter Tryz.func187,Tryz.ntmps187
 go_wp2_with fail
 go_region_law_o (refine zli rfl (.tmp 22) (.tmp 25) 24 24 rfl (.slice (some ⟨b,0,none⟩) i c) (.slice (some A) (n-j) (c-j)) (by simp[Act.eval,Act.put]) (by simp[Act.eval,Act.put]) (hap _ _) ?_)
 go_wp2
 go_ret
 exact ⟨rfl,_,zs,hzl,rfl⟩
end Go.Proofs.YtpaidiaknfhclaaGreatDoor
namespace Go.Proofs.YtpaidiaknfhclaaGreatDoor
open Go Ev
open Go.Lib Go.RowKit
theorem zaxb {X:Ending} (a:Int) {b:Int} (h:X=.returned (.int .i64 a)) (e:a=b):X=.returned (.int .i64 b):=e▸h
theorem zanc (b cap:Nat) (x y z:Int) (w:World) (h0:w.cell? ⟨b,0,none⟩=some (.int .i64 x)) (h1:w.cell? ⟨b,1,none⟩=some (.int .i64 y)) (h2:w.cell? ⟨b,2,none⟩=some (.int .i64 z)) :
 Calls Tryz.prog 61 #[.slice (some ⟨b,0,none⟩) 3 cap] w fun e w'=>e=.returned (.int .i64 (zfo x (zfo y z)))∧w'=w:=by
 obtain ⟨R,hR⟩:∃R,R=zfo x (zfo y z):=⟨_,rfl⟩
 have r0:x≠0→x=R:=fun h=>by rw[hR];unfold zfo;rw[if_neg h]
 have r1:x=0→y≠0→y=R:=fun h h'=>by rw[hR];unfold zfo;rw[if_pos h,if_neg h']
 have r2:x=0→y=0→z=R:=fun h h'=>by rw[hR];unfold zfo;rw[if_pos h,if_pos h']
 rw[←hR]
 clear hR
 go_enter Tryz.func61,Tryz.ntmps61
 go_wp2
 go_loop [2,8] (fun r i=>∃k:Nat,k≤3∧i=.int .i64 k∧r=.int .i64 0∧(1≤k→x=0)∧(2≤k→y=0)∧(3≤k→z=0)) (fun _ i=>3-(intOf i).toNat)
 case atStart=>exact ⟨0,by omega,rfl,rfl,by omega,by omega,by omega⟩
 case round=>
  obtain ⟨k,hk,rfl,rfl,k1,k2,k3⟩:=hrel
  rcases (by omega:k=0∨k=1∨k=2∨k=3) with rfl|rfl|rfl|rfl
  ·clear k1 k2 k3
   have H1:Hid ((x != 0)=true→x=R):=fun h=>r0 (by simpa using h)
   clear r0 r1 r2
   go_wp2
   all_goals first
    |(rw[←H1.out (by assumption)];go_ret;exact ⟨rfl,rfl⟩)
    |(go_round;(case rel=>exact ⟨1,by omega,by go_num,rfl,fun _=>by simp_all,by omega,by omega⟩);(case measure=>simp[intOf]))
  ·have H1:Hid ((y != 0)=true→y=R):=fun h=>r1 (k1 (by omega)) (by simpa using h)
   have H0:Hid (x=0):=k1 (by omega)
   clear k1 k2 k3 r0 r1 r2
   go_wp2
   all_goals first
    |(rw[←H1.out (by assumption)];go_ret;exact ⟨rfl,rfl⟩)
    |(go_round;(case rel=>exact ⟨2,by omega,by go_num,rfl,fun _=>H0.out,fun _=>by simp_all,by omega⟩);(case measure=>simp[intOf]))
  ·have H1:Hid (z=R):=r2 (k1 (by omega)) (k2 (by omega))
   have H0:Hid (x=0∧y=0):=⟨k1 (by omega),k2 (by omega)⟩
   clear k1 k2 k3 r0 r1 r2
   go_wp2
   all_goals first
    |(rw[←H1.out];go_ret;exact ⟨rfl,rfl⟩)
    |(go_round;(case rel=>exact ⟨3,by omega,by go_num,rfl,fun _=>H0.out.1,fun _=>H0.out.2,fun _=>by simp_all⟩);(case measure=>simp[intOf]))
  ·have H1:Hid (0=R):=(k3 (by omega)).symm.trans (r2 (k1 (by omega)) (k2 (by omega)))
   clear k1 k2 k3 r0 r1 r2
   go_wp2
   rw[←H1.out]
   go_ret
   exact ⟨rfl,rfl⟩
def encC (x:Weed_candidate):List Value:=[.int .i64 x.id_,.int .i64 x.record,.int .i64 x.loans,.int .i64 x.last]
def cfC (a b:Weed_candidate):Int:=zfo (Go.Lib.compareInt a.loans b.loans) (zfo (Go.Lib.compareInt a.last b.last) (Go.Lib.compareInt a.id_ b.id_))
set_option maxHeartbeats 4000000 in
theorem z8v (a b:Weed_candidate) (W:World):Calls Tryz.prog 60 #[.agg (encC a).toArray,.agg (encC b).toArray] W fun e w'=>e=.returned (.int .i64 (cfC a b))∧∃q os',w'=Go.Sort.grow (W.drewN q) os':=by
 obtain ⟨i1,c1,l1,s1⟩:=a
 obtain ⟨i2,c2,l2,s2⟩:=b
 have hcon:∀(x y:Int) (W':World),Calls Tryz.prog 62 #[.int .i64 x,.int .i64 y] W' fun e w'=>e=.returned (.int .i64 (Go.Lib.compareInt x y))∧w'=W':=fun x y W'=>AnyG.cmp_Compare_int Tryz.laysCmp x y W'
 show Calls Tryz.prog 60 #[.agg #[.int .i64 i1,.int .i64 c1,.int .i64 l1,.int .i64 s1],.agg #[.int .i64 i2,.int .i64 c2,.int .i64 l2,.int .i64 s2]] W fun e w'=>e=.returned (.int .i64 (zfo (Go.Lib.compareInt l1 l2) (zfo (Go.Lib.compareInt s1 s2) (Go.Lib.compareInt i1 i2))))∧∃q os',w'=Go.Sort.grow (W.drewN q) os'
 have k1:=hcon l1 l2
 have k2:=hcon s1 s2
 have k3:=hcon i1 i2
 clear hcon
 generalize Go.Lib.compareInt l1 l2=r1 at *
 generalize Go.Lib.compareInt s1 s2=r2 at *
 generalize Go.Lib.compareInt i1 i2=r3 at *
 go_enter Tryz.func60,Tryz.ntmps60
 go_wp2
 go_region_held3 (fun w'=>w'.cell? ⟨W.heap.size,0,none⟩=some (.int .i64 i1)∧w'.cell? ⟨W.heap.size,2,none⟩=some (.int .i64 l1)∧w'.cell? ⟨W.heap.size,3,none⟩=some (.int .i64 s1)∧w'.cell? ⟨W.heap.size+1,0,none⟩=some (.int .i64 i2)∧w'.cell? ⟨W.heap.size+1,2,none⟩=some (.int .i64 l2)∧w'.cell? ⟨W.heap.size+1,3,none⟩=some (.int .i64 s2)) (go_keep)
  (first
   |(go_at_call_of 62 (Value.int .i64 l1);refine (k1 _).mono ?_;rintro e w' ⟨rfl,rfl⟩)
   |(go_at_call_of 62 (Value.int .i64 s1);refine (k2 _).mono ?_;rintro e w' ⟨rfl,rfl⟩)
   |(go_at_call_of 62 (Value.int .i64 i1);refine (k3 _).mono ?_;rintro e w' ⟨rfl,rfl⟩)
   |(go_at_call 61;refine (zanc _ _ r1 r2 r3 _ (by go_simp) (by go_simp) (by go_simp)).mono ?_;rintro e w' ⟨rfl,rfl⟩))
 all_goals go_wp2
 all_goals go_ret
 exact ⟨rfl,1,_,by rw[Go.Sort.alloc_eq_grow,Go.Sort.alloc_eq_grow,Go.Sort.alloc_eq_grow,Go.Sort.grow_grow,Go.Sort.grow_grow];rfl⟩
end Go.Proofs.YtpaidiaknfhclaaGreatDoor
namespace Go.Proofs.YtpaidiaknfhclaaGreatDoor
open Go Ev
open Go.Sort
set_option maxRecDepth 100000
theorem zsq (a b:Weed_candidate):cfC a b<0↔a.loans<b.loans∨(a.loans=b.loans∧(a.last<b.last∨(a.last=b.last∧a.id_<b.id_))):=by
 unfold cfC zfo Go.Lib.compareInt
 by_cases h1:a.loans<b.loans
 ·simp[h1]
 ·by_cases h2:a.loans>b.loans
  ·have:¬a.loans=b.loans:=by omega
   simp[h1,h2,this]
  ·have h3:a.loans=b.loans:=by omega
   by_cases h4:a.last<b.last
   ·simp[h3,h4]
   ·by_cases h5:a.last>b.last
    ·have:¬a.last=b.last:=by omega
     simp[h3,h4,h5,this]
    ·have h6:a.last=b.last:=by omega
     by_cases h7:a.id_<b.id_
     ·simp[h3,h6,h7]
     ·by_cases h8:a.id_>b.id_
      ·simp[h3,h6,h7,h8]
      ·simp[h3,h6,h7,h8]
theorem zp6:SWO (ltOf cfC) where
 irrefl x:=by
  have h:=zsq x x
  unfold ltOf
  rw[decide_eq_false_iff_not,h];omega
 trans x y z h1 h2:=by
  unfold ltOf at *
  simp only[decide_eq_true_eq,zsq]at *
  omega
 ntrans x y z h1 h2:=by
  unfold ltOf at *
  simp only[decide_eq_false_iff_not,zsq]at *
  omega
theorem zaht {w:World} {I J:Nat→Nat→Prop} {xs:List Weed_candidate} {vals:Array Value}
 (hc:∀i (hi:i<xs.length) j d,(sg.enc Kd.kWeed_candidate xs[i])[j]?=some d→∃v,vals[i*sg.sz Kd.kWeed_candidate+j]?=some v∧DR sg w I J v d) :
 ∀i (hi:i<xs.length) j v,(encC xs[i])[j]?=some v→vals[i*4+j]?=some v:=by
 intro i hi j v hv
 have key:∀n,(sg.enc Kd.kWeed_candidate xs[i])[j]?=some (.int .i64 n)→v=.int .i64 n→vals[i*4+j]?=some v:=by
  intro n h1 h2
  obtain ⟨u,h3,h4⟩:=hc i hi j _ h1
  rw[h2,←h4.int_inv];exact h3
 match j,hv with
 |0,hv=>exact key _ rfl (Option.some.inj hv).symm
 |1,hv=>exact key _ rfl (Option.some.inj hv).symm
 |2,hv=>exact key _ rfl (Option.some.inj hv).symm
 |3,hv=>exact key _ rfl (Option.some.inj hv).symm
 |j+4,hv=>simp[encC]at hv
theorem z02 {xs:List Weed_candidate} {i j:Nat} (hi:i<xs.length) (hj:j<4):(encC xs[i])[j]?=some (flatK encC 4 xs.toArray)[i*4+j]!:=by
 have h:i*4+j<xs.toArray.size*4:=by simp;omega
 rw[get_flatK _ _ _ _ h]
 have e1:(i*4+j) / 4=i:=by omega
 have e2:(i*4+j) % 4=j:=by omega
 rw[e1,e2]
 have e3:xs.toArray[i]! = xs[i]:=by simp[hi]
 rw[e3]
 have:j<(encC xs[i]).length:=hj
 rw[List.getElem?_eq_getElem this,List.getElem!_eq_getElem?_getD,List.getElem?_eq_getElem this]
 rfl
theorem zalv {w:World} {xs:List Weed_candidate} {blk:Nat} {vals:Array Value} {t:TypeId} (hb:w.heap[blk]?=some (.cells vals t (0,0)))
 (hc:∀i (hi:i<xs.length) j v,(encC xs[i])[j]?=some v→vals[i*4+j]?=some v):HoldsK encC 4 w blk 0 xs.toArray:=by
 intro t ht
 have ht:t<xs.length*4:=by simpa using ht
 have e:t=t / 4*4+t % 4:=by omega
 have h1:=z02 (xs:=xs) (i:=t / 4) (j:=t % 4) (by omega) (by omega)
 rw[←e]at h1
 have h2:=hc (t / 4) (by omega) (t % 4) _ h1
 rw[←e]at h2
 refine ⟨?_,?_⟩
 ·simp only[World.cell?,hb,Nat.zero_add,h2]
  rfl
 ·simp[World.frozen?,hb]
theorem z9e {w:World} {I J:Nat→Nat→Prop} {F:Array Value} {blk q:Nat} {vals:Array Value} {t:TypeId} {os:Array Obj} (hp:Pre sg w I J [blk]) (hb:w.heap[blk]?=some (.cells vals t (0,0))) (hy:F.size≤vals.size) :
 GrowM [blk] w (grow (putRow id (Sort.ahead w q) blk 0 F) os) I I∧
 ∃vals',(grow (putRow id (Sort.ahead w q) blk 0 F) os).heap[blk]?=some (.cells vals' t (0,0))∧vals'.size=vals.size∧∀i,i<F.size→vals'[i]?=some F[i]!:=by
 have hlt:blk<w.heap.size:=(Array.getElem?_eq_some_iff.1 hb).1
 have hh:(grow (putRow id (Sort.ahead w q) blk 0 F) os).heap=w.heap.modify blk (onCells (putCells id 0 F))++os:=rfl
 have hsz:(w.heap.modify blk (onCells (putCells id 0 F))).size=w.heap.size:=by simp
 have hget:∀b,b<w.heap.size→(grow (putRow id (Sort.ahead w q) blk 0 F) os).heap[b]?=if blk=b then (w.heap[b]?).map (onCells (putCells id 0 F)) else w.heap[b]?:=by
  intro b hb
  rw[hh,Array.getElem?_append_left (by rw[hsz];exact hb),Array.getElem?_modify]
 refine ⟨⟨?_,rfl,rfl,rfl,fun b h1 h2=>?_,fun _ _ h=>h,fun _ _ h=>.inl h,fun b o h=>?_⟩,putCells id 0 F vals,?_,?_,?_⟩
 ·rw[hh,Array.size_append,hsz];omega
 ·rw[hget b h1,if_neg (fun e=>h2 (by simp[e]))]
 ·have:=hp.ib b o h
  rw[hh,Array.size_append,hsz];omega
 ·rw[hget blk hlt,if_pos rfl,hb]
  rfl
 ·simp[putCells]
 ·intro i hi
  unfold putCells
  rw[Array.getElem?_mapIdx,Array.getElem?_eq_getElem (by omega)]
  simp[hi]
theorem zwc {mb:List Nat} {w:World} {I:Nat→Nat→Prop} (h:∀b o,I b o→b<w.heap.size):GrowM mb w w I I:=⟨Nat.le_refl _,rfl,rfl,rfl,fun _ _ _=>rfl,fun _ _ h=>h,fun _ _ h=>.inl h,h⟩
theorem zagv {w:World} {I J:Nat→Nat→Prop} {vs:Array Value} (h:Args sg w I J vs [.fn 60 [] []]):vs = #[.func (.func 60) #[] #[]]:=by
 obtain ⟨h1,h2⟩:=h
 have h1:vs.size=1:=h1
 obtain ⟨v,hv⟩:∃v,vs[0]?=some v:=⟨vs[0],by simp[h1]⟩
 have h3:=h2 0 v _ hv rfl
 cases h3 with
 |fn f p c ps cs hp hc k1 k2=>
  have hp:p = #[]:=Array.eq_empty_of_size_eq_zero hp
  have hc:c = #[]:=Array.eq_empty_of_size_eq_zero hc
  subst hp
  subst hc
  refine Array.ext (by simp[h1]) (fun i hi _=>?_)
  have:i=0:=by omega
  subst this
  have:=(Array.getElem?_eq_some_iff.1 hv).2
  simpa using this
theorem zy4 (blk off size:Nat) (w:World):CmpLays Tryz.prog 60 #[] encC 4 cfC blk off size w:=fun m os dk _ x y=>z8v x y (sortWorldK encC 4 w blk off m dk os)
theorem zabh (xs:List Weed_candidate):(pdqL cfC xs).length=xs.length:=by
 have h:=(pdq_sorts (ltOf cfC) zp6 xs.toArray 0 xs.toArray.size (Lib.bitLen xs.toArray.size) true true (Nat.zero_le _) (Nat.le_refl _) (Or.inl rfl)).1.1
 show (pdq (ltOf cfC) xs.toArray 0 xs.length (Go.Lib.bitLen xs.length) true true).toList.length=_
 simpa using h
theorem zawn:fnB Tryz.prog 59 Tryz.f59 []=true:=by kernel_rfl
theorem z0x:∀args w,(callFunc 60 args).run Tryz.prog w=.ok (.enter 60 args) w:=enters_of Tryz.func60 (by kernel_rfl) rfl
theorem zajp:∀ds a r,zx3.dec ds=some a→zaed a=some r→Con Tryz.prog sg 59 ds [] (zafw.enc r) []:=by
 intro ds a r hd hf
 obtain ⟨code,fok,-,-⟩:=zbe Tryz.func59 zawn
 have hac:CCOk zx3:=CCOk.cons (zai.lst _) (CCOk.cons (zai.fnc _ CCOk.nil CCOk.nil) CCOk.nil)
 have hds:=hac ds a hd
 have hmd:sg.md 59=.inpl:=by kernel_rfl
 unfold Con
 rw[hmd]
 obtain ⟨zs,u⟩:=a
 have hds:WL ds [.lst .kWeed_candidate zs,.fn 60 [] []]:=hds
 have hf:(bif decide (zs.length≤LIM) then some (pdqL cfC zs) else none)=some r:=hf
 intro _ k xs ds0 he xs' hr w I J mb v0 vs hp ho hargs
 subst he
 have hr:(D.lst Kd.kWeed_candidate r:DD)=D.lst k xs':=hr
 cases hr
 have hw0:=hds.2 0 _ _ rfl rfl
 cases hw0 with
 |leaf _ _ hw0=>
 cases hw0
 have hargs:=WL.args (cs':=[.fn 60 [] []]) ⟨by simpa using hds.1,fun q d d' h1 h2=>hds.2 (q+1) d d' h1 h2⟩ hargs
 have:=zagv hargs
 subst this
 cases hlim:decide (zs.length≤LIM) with
 |false=>rw[hlim]at hf;cases hf
 |true=>
  rw[hlim]at hf
  have hl:=of_decide_eq_true hlim
  unfold LIM at hl
  have hf:some (pdqL cfC zs)=some r:=hf
  cases hf
  have hlen:=zabh zs
  unfold zcb
  rw[show (#[v0]++#[Value.func (.func 60) #[] #[]]) = #[v0,Value.func (.func 60) #[] #[]] from rfl,MuLone.run_callFunc_enter fok.at_ fok.name fok.body _ w]
  simp only
  obtain ⟨base,cap,rfl,hcap,ho⟩:=ho
  rcases ho with ⟨rfl,rfl⟩|⟨blk,vals,t,rfl,rfl,hb,hv,hc⟩
  ·have hz:zs=[]:=List.length_eq_zero_iff.1 (by omega)
   subst hz
   have h:=AnyF.slices_SortFunc_none Tryz.laysSort base 0 (.func (.func 60) #[] #[]) w
   refine h.mono (fun e w' he=>?_)
   obtain ⟨rfl,rfl⟩:=he
   exact ⟨rfl,hlen,I,zwc hp.ib,base,0,by rw[List.length_eq_zero_iff.1 hlen],by rw[hlen];simp,.inl ⟨rfl,rfl⟩⟩
  ·have hc2:=zaht hc
   have hv:vals.size=cap*4:=hv
   have h:=AnyQ.slices_SortFunc_eq Tryz.laysSort 4 Tryz.isAgg63 Tryz.sizeOf63 encC (fun _=>rfl) (fun x v hv=>by simp[encC]at hv;rcases hv with rfl|rfl|rfl|rfl<;>rfl) cfC zp6 60 #[] blk 0 cap zs.toArray w z0x (zy4 blk 0 zs.toArray.size w) (zalv hb hc2) (Array.getElem?_eq_some_iff.1 hb).1 (by simp;omega)
   refine h.mono (fun e w' he=>?_)
   obtain ⟨rfl,n,os,rfl⟩:=he
   obtain ⟨g,vals',h1,h2,h3⟩:=z9e (q:=n) (os:=os) (F:=flatK encC 4 (pdqL cfC zs).toArray) hp hb (by simp;omega)
   refine ⟨rfl,hlen,I,g,some ⟨blk,0,none⟩,cap,by rw[hlen],by omega,.inr ⟨blk,vals',t,rfl,rfl,h1,by rw[h2];exact hv,?_⟩⟩
   intro i hi j d hd
   have key:∀n,j<4→(encC (pdqL cfC zs)[i])[j]?=some (.int .i64 n)→d=.int .i64 n→∃v,vals'[i*4+j]?=some v∧∀W,DR sg W I I v d:=by
    intro n hj e1 e2
    have h4:=z02 (xs:=pdqL cfC zs) hi hj
    have h5:=h3 (i*4+j) (by simp;omega)
    rw[←h4,e1]at h5
    exact ⟨_,h5,fun W=>by rw[e2];exact .int _ _⟩
   match j,hd with
   |0,hd=>obtain ⟨v,q1,q2⟩:=key _ (by omega) rfl (Option.some.inj hd).symm;exact ⟨v,q1,q2 _⟩
   |1,hd=>obtain ⟨v,q1,q2⟩:=key _ (by omega) rfl (Option.some.inj hd).symm;exact ⟨v,q1,q2 _⟩
   |2,hd=>obtain ⟨v,q1,q2⟩:=key _ (by omega) rfl (Option.some.inj hd).symm;exact ⟨v,q1,q2 _⟩
   |3,hd=>obtain ⟨v,q1,q2⟩:=key _ (by omega) rfl (Option.some.inj hd).symm;exact ⟨v,q1,q2 _⟩
   |j+4,hd=>exact absurd (show (none:Option DD)=some d from hd) (by simp)
end Go.Proofs.YtpaidiaknfhclaaGreatDoor
namespace Go.Proofs.YtpaidiaknfhclaaGreatDoor
set_option maxRecDepth 100000
open Ev
open Go
theorem zas6:fnB Tryz.prog 102 Tryz.f102 []=true:=by kernel_rfl
theorem zwf:InsOk Tryz.prog 102 (sg.sz Kd.kItem) 53:=⟨zjv,zmd,zn2,zmc⟩
theorem zaj1:∀ds a r,zx8.dec ds=some a→zaei a=some r→Con Tryz.prog sg 102 ds [] (zaf0.enc r) []:=by
 intro ds a r hd hf
 obtain ⟨code,fok,-,-⟩:=zbe Tryz.func102 zas6
 have hac:CCOk zx8:=CCOk.cons (zai.lst _) (CCOk.cons (zai.int _) (CCOk.cons (zai.lst _) CCOk.nil))
 exact zly good.sgk fok (by kernel_rfl) zwf (hac ds a hd) hf
theorem zath:fnB Tryz.prog 210 Tryz.f210 []=true:=by kernel_rfl
theorem zn1:InsOk Tryz.prog 210 (sg.sz Kd.kPatron) 71:=⟨zg4,zie,zjx,zid⟩
theorem zajy:∀ds a r,zx6.dec ds=some a→zaeg a=some r→Con Tryz.prog sg 210 ds [] (zafx.enc r) []:=by
 intro ds a r hd hf
 obtain ⟨code,fok,-,-⟩:=zbe Tryz.func210 zath
 have hac:CCOk zx6:=CCOk.cons (zai.lst _) (CCOk.cons (zai.int _) (CCOk.cons (zai.lst _) CCOk.nil))
 exact zly good.sgk fok (by kernel_rfl) zn1 (hac ds a hd) hf
theorem zatd:fnB Tryz.prog 168 Tryz.f168 []=true:=by kernel_rfl
theorem zwg:InsOk Tryz.prog 168 (sg.sz Kd.kLoan) 73:=⟨zjw,zmf,zn3,zme⟩
theorem zaj0:∀ds a r,zx7.dec ds=some a→zaeh a=some r→Con Tryz.prog sg 168 ds [] (zafz.enc r) []:=by
 intro ds a r hd hf
 obtain ⟨code,fok,-,-⟩:=zbe Tryz.func168 zatd
 have hac:CCOk zx7:=CCOk.cons (zai.lst _) (CCOk.cons (zai.int _) (CCOk.cons (zai.lst _) CCOk.nil))
 exact zly good.sgk fok (by kernel_rfl) zwg (hac ds a hd) hf
theorem zati:fnB Tryz.prog 225 Tryz.f225 []=true:=by kernel_rfl
theorem zv3:DelOk Tryz.prog 225 (sg.sz Kd.kHold):=⟨zl4,zl5⟩
theorem zaj3:∀ds a r,zya.dec ds=some a→zaek a=some r→Con Tryz.prog sg 225 ds [] (zaf2.enc r) []:=by
 intro ds a r hd hf
 obtain ⟨code,fok,-,-⟩:=zbe Tryz.func225 zati
 have hac:CCOk zya:=CCOk.cons (zai.lst _) (CCOk.cons (zai.int _) (CCOk.cons (zai.int _) CCOk.nil))
 exact zsr good.sgk fok (by kernel_rfl) zv3 (hac ds a hd) hf
theorem zatf:fnB Tryz.prog 187 Tryz.f187 []=true:=by kernel_rfl
theorem zv4:DelOk Tryz.prog 187 (sg.sz Kd.kLoan):=⟨zl6,zl7⟩
theorem zaj2:∀ds a r,zx9.dec ds=some a→zaej a=some r→Con Tryz.prog sg 187 ds [] (zaf1.enc r) []:=by
 intro ds a r hd hf
 obtain ⟨code,fok,-,-⟩:=zbe Tryz.func187 zatf
 have hac:CCOk zx9:=CCOk.cons (zai.lst _) (CCOk.cons (zai.int _) (CCOk.cons (zai.int _) CCOk.nil))
 exact zsr good.sgk fok (by kernel_rfl) zv4 (hac ds a hd) hf
end Go.Proofs.YtpaidiaknfhclaaGreatDoor
namespace Go.Proofs.YtpaidiaknfhclaaGreatDoor
open Go Ev
open Go.Lib Go.RowKit
set_option maxRecDepth 100000
theorem zm2 {w:World} {I:Nat→Nat→Prop} (h:zlk sg w I):Lib.Utf8Tabs 0 1 w:=by
 constructor
 ·intro c hc
  have hl:c<zay.length:=by simp[zay];exact hc
  obtain ⟨v,h1,-,h3⟩:=h 0 .ku8 zay (by kernel_rfl) c hl 0 (.int .u8 zay[c]) rfl
  rw[h3.int_inv]at h1
  have e:zay[c]=(Lib.firstT c:Int):=by simp[zay]
  rw[e]at h1
  have h1:w.cell? ⟨0,c*1+0,none⟩=_:=h1
  rw[Nat.mul_one,Nat.add_zero]at h1
  exact h1
 ·intro i hi
  have hl:i<zan.length:=by simp[zan];exact hi
  obtain ⟨v,h1,-,h3⟩:=h 1 .kUtf8_acceptRange zan (by kernel_rfl) i hl 0 (.int .u8 zan[i].lo) rfl
  obtain ⟨v',k1,-,k3⟩:=h 1 .kUtf8_acceptRange zan (by kernel_rfl) i hl 1 (.int .u8 zan[i].hi) rfl
  rw[h3.int_inv]at h1
  rw[k3.int_inv]at k1
  have e:zan[i]=⟨(Lib.accLo i:Int),(Lib.accHi i:Int)⟩:=by simp[zan]
  rw[e]at h1 k1
  have h1:w.cell? ⟨1,i*2+0,none⟩=_:=h1
  have k1:w.cell? ⟨1,i*2+1,none⟩=_:=k1
  rw[Nat.mul_comm,Nat.add_zero]at h1
  rw[Nat.mul_comm]at k1
  exact ⟨h1,k1⟩
theorem zkf {w w':World} {I:Nat→Nat→Prop} (hi:∀b o,I b o→b<w.heap.size) (h:Below w.heap.size w w'):Grow w w' I I:=
 ⟨h.size,h.os,h.output,h.tape,h.block,fun _ _ h=>h,fun _ _ h=>.inl h,fun b o hb=>Nat.lt_of_lt_of_le (hi b o hb) h.size⟩
theorem z6r {w:World} {I J:Nat→Nat→Prop} {vs:Array Value} {l:List UInt8} (ha:Args sg w I J vs [.str l]):∃b:ByteArray,vs = #[.string b]∧l=b.data.toList:=by
 obtain ⟨h1,h2⟩:=ha
 have h1:vs.size=1:=h1
 have h0:=h2 0 vs[0] (.str l) (Array.getElem?_eq_getElem (by omega)) rfl
 generalize hv:vs[0]=v at h0
 cases h0 with
 |str b=>
  refine ⟨b,?_,rfl⟩
  apply Array.ext
  ·simp[h1]
  ·intro i hi1 hi2
   have:i=0:=by omega
   subst this
   simpa using hv
theorem zas9:fnB Tryz.prog 126 Tryz.f126 [4]=true:=by kernel_rfl
theorem zz0:∀ds a r,zj5.dec ds=some a→zaeb a=some r→Con Tryz.prog sg 126 ds [] (zafp.enc r) []:=by
 intro ds a r hd hf
 obtain ⟨code,fok,-,-⟩:=zbe Tryz.func126 zas9
 have hac:CCOk zj5:=CCOk.cons zai.str CCOk.nil
 have hw:=hac ds a hd
 obtain ⟨l,⟨⟩⟩:=a
 unfold Con
 rw[show sg.md 126=.data by kernel_rfl]
 intro _ w I J vs hp ha
 obtain ⟨b,rfl,rfl⟩:=z6r (l:=l) (hw.args ha)
 replace hf:(bif decide (b.data.toList.length≤LIM) then some (vld b.data.toList) else none)=some r:=hf
 rw[zad]at hf
 split at hf
 ·rename_i hle
  cases hf
  rw[decide_eq_true_eq,←Lib.size_eq]at hle
  unfold zcb
  rw[MuLone.run_callFunc_enter fok.at_ fok.name fok.body _ w]
  refine (zxt b w hle (zm2 hp.gl)).mono ?_
  rintro e w' ⟨rfl,hb⟩
  exact ⟨I,zkf hp.ib hb,.bool _⟩
 ·cases hf
theorem zatg:fnB Tryz.prog 198 Tryz.f198 []=true:=by kernel_rfl
theorem zajv:∀ds a r,zx5.dec ds=some a→zaef a=some r→Con Tryz.prog sg 198 ds [] (z3s.enc r) []:=by
 intro ds a r hd hf
 obtain ⟨code,fok,-,-⟩:=zbe Tryz.func198 zatg
 have hac:CCOk zx5:=CCOk.cons zai.str CCOk.nil
 have hw:=hac ds a hd
 obtain ⟨l,⟨⟩⟩:=a
 unfold Con
 rw[show sg.md 198=.data by kernel_rfl]
 intro _ w I J vs hp ha
 obtain ⟨b,rfl,rfl⟩:=z6r (l:=l) (hw.args ha)
 replace hf:(bif decide (b.data.toList.length≤LIM)&&vld b.data.toList then some (cln b.data.toList) else none)=some r:=hf
 rw[zad]at hf
 split at hf
 ·rename_i hle
  cases hf
  rw[Bool.and_eq_true,decide_eq_true_eq,←Lib.size_eq]at hle
  unfold zcb
  rw[MuLone.run_callFunc_enter fok.at_ fok.name fok.body _ w]
  refine (zvv b w hle.1 hle.2).mono ?_
  rintro e w' ⟨rfl,hb⟩
  exact ⟨I,zkf hp.ib hb,.str ⟨(cln b.data.toList).toArray⟩⟩
 ·cases hf
theorem zajh:∀ds a r,zacb.dec ds=some a→zaec a=some r→Con Tryz.prog sg 276 ds [] (zaft.enc r) []:=fun ds a r hd hf=>by cases hf
end Go.Proofs.YtpaidiaknfhclaaGreatDoor

namespace Go.Proofs.YtpaidiaknfhclaaGreatDoor
set_option maxRecDepth 100000
open Ev
open Go (IntKind)
open Go
noncomputable abbrev ZP:=Tryz.prog
theorem zah9:SG ZP sg 98 @zan2:=conE good Tryz.func98 (by kernel_rfl) (by kernel_rfl) cg0 (fun a=>by kernel_rfl)
theorem zask:SG ZP sg 127 @zaf7:=conE good Tryz.func127 (by kernel_rfl) (by kernel_rfl) cg0 (fun a=>by kernel_rfl)
theorem znv:fnB ZP 63 Tryz.f63 [2]=true:=by kernel_rfl
theorem zar5:CG ZP sg @zagy:=(cgc zask cg0)
theorem zal4:zae ZP sg 0 Tryz.f63 @zul 2:=zar z1j good Tryz.func63 znv zar5 zaa (fun a=>by kernel_rfl) (by kernel_rfl) (fun _ _=>rfl)
theorem zasi:SG ZP sg 63 @zavz:=conD (loops:=zul) good Tryz.func63 znv (by kernel_rfl) zar5 (all_cons zal4 zaa) (fun a=>by kernel_rfl)
theorem znn:SG ZP sg 77 @zu4:=conE good Tryz.func77 (by kernel_rfl) (by kernel_rfl) (cgc zasi cg0) (fun a=>by kernel_rfl)
theorem zz8:SG ZP sg 100 @z5o:=conE good Tryz.func100 (by kernel_rfl) (by kernel_rfl) cg0 (fun a=>by kernel_rfl)
theorem zajf:SG ZP sg 101 @z5n:=conE good Tryz.func101 (by kernel_rfl) (by kernel_rfl) cg0 (fun a=>by kernel_rfl)
theorem zsg:CG ZP sg @zvk:=(cgc zajf cg0)
theorem zwj:zae ZP sg 0 Tryz.f63 @zij 2:=zar zki good Tryz.func63 znv zsg zaa (fun a=>by kernel_rfl) (by kernel_rfl) (fun _ _=>rfl)
theorem zy9:SG ZP sg 63 @z34:=conD (loops:=zij) good Tryz.func63 znv (by kernel_rfl) zsg (all_cons zwj zaa) (fun a=>by kernel_rfl)
theorem zz2:SG ZP sg 103 @zaoy:=conS (loops:=l0) (ids:=[]) good Tryz.func103 (by kernel_rfl) (by kernel_rfl) cg0 zaa (fun a=>by kernel_rfl) (by kernel_rfl)
theorem zlz:SG ZP sg 36 @z4t:=conE good Tryz.func36 (by kernel_rfl) (by kernel_rfl) cg0 (fun a=>by kernel_rfl)
theorem zaj5:SG ZP sg 76 @z5x:=conE good Tryz.func76 (by kernel_rfl) (by kernel_rfl) (cgc zlz (cgc (sgP zz0) cg0)) (fun a=>by kernel_rfl)
theorem zl0:SG ZP sg 128 @z41:=conE good Tryz.func128 (by kernel_rfl) (by kernel_rfl) cg0 (fun a=>by kernel_rfl)
theorem zajt:SG ZP sg 194 @zapm:=conE good Tryz.func194 (by kernel_rfl) (by kernel_rfl) (cgc zl0 cg0) (fun a=>by kernel_rfl)
theorem zaje:SG ZP sg 195 @zaoz:=conE good Tryz.func195 (by kernel_rfl) (by kernel_rfl) (cgc zl0 cg0) (fun a=>by kernel_rfl)
theorem zzo:SG ZP sg 197 @zaoe:=conE good Tryz.func197 (by kernel_rfl) (by kernel_rfl) cg0 (fun a=>by kernel_rfl)
theorem zajb:SG ZP sg 196 @zaov:=conE good Tryz.func196 (by kernel_rfl) (by kernel_rfl) (cgc zzo cg0) (fun a=>by kernel_rfl)
theorem z0i:SG ZP sg 129 @z5y:=conE good Tryz.func129 (by kernel_rfl) (by kernel_rfl) (cgc zl0 (cgc zajt (cgc zaje (cgc zajb (cgc zzo cg0))))) (fun a=>by kernel_rfl)
theorem zats:fnB ZP 78 Tryz.f78 [5]=true:=by kernel_rfl
theorem zact:CG ZP sg @z7s:=(cgc zz8 (cgc zl0 (cgc z0i cg0)))
theorem z93:zae ZP sg 0 Tryz.f78 @zop 5:=zar ztf good Tryz.func78 zats zact zaa (fun a=>by kernel_rfl) (by kernel_rfl) (fun _ _=>rfl)
theorem zaib:SG ZP sg 78 @z4d:=conD (loops:=zop) good Tryz.func78 zats (by kernel_rfl) zact (all_cons z93 zaa) (fun a=>by kernel_rfl)
theorem z9a:fnB ZP 37 Tryz.f37 [4,10,16]=true:=by kernel_rfl
theorem z8o:CG ZP sg @zag1:=(cgc zaj5 (cgc znn (cgc zaib cg0)))
theorem zal7:zae ZP sg 0 Tryz.f37 @zhh 4:=zar z1n good Tryz.func37 z9a z8o zaa (fun a=>by kernel_rfl) (by kernel_rfl) (fun _ _=>rfl)
theorem zaau:zae ZP sg 0 Tryz.f37 @zhh 10:=zar zt6 good Tryz.func37 z9a z8o zaa (fun a=>by kernel_rfl) (by kernel_rfl) (fun _ _=>rfl)
theorem zaav:zae ZP sg 0 Tryz.f37 @zhh 16:=zar zt7 good Tryz.func37 z9a z8o zaa (fun a=>by kernel_rfl) (by kernel_rfl) (fun _ _=>rfl)
theorem zasm:SG ZP sg 37 @zav1:=conD (loops:=zhh) good Tryz.func37 z9a (by kernel_rfl) z8o (all_cons zal7 (all_cons zaau (all_cons zaav zaa))) (fun a=>by kernel_rfl)
theorem zai5:SG ZP sg 130 @z43:=conE good Tryz.func130 (by kernel_rfl) (by kernel_rfl) (cgc (sgP zz0) (cgc (sgP zajv) cg0)) (fun a=>by kernel_rfl)
theorem zatt:fnB ZP 79 Tryz.f79 [5]=true:=by kernel_rfl
theorem zacq:CG ZP sg @z7p:=(cgc zai5 cg0)
theorem z90:zae ZP sg 0 Tryz.f79 @zom 5:=zar ztc good Tryz.func79 zatt zacq zaa (fun a=>by kernel_rfl) (by kernel_rfl) (fun _ _=>rfl)
theorem zzd:SG ZP sg 79 @z4b:=conD (loops:=zom) good Tryz.func79 zatt (by kernel_rfl) zacq (all_cons z90 zaa) (fun a=>by kernel_rfl)
theorem zakt:SG ZP sg 131 @z6c:=conE good Tryz.func131 (by kernel_rfl) (by kernel_rfl) cg0 (fun a=>by kernel_rfl)
theorem zakq:SG ZP sg 132 @z6b:=conE good Tryz.func132 (by kernel_rfl) (by kernel_rfl) cg0 (fun a=>by kernel_rfl)
theorem zatu:fnB ZP 80 Tryz.f80 [4]=true:=by kernel_rfl
theorem zacs:CG ZP sg @z7r:=(cgc zakt (cgc zakq cg0))
theorem z92:zae ZP sg 0 Tryz.f80 @zoo 4:=zar zte good Tryz.func80 zatu zacs zaa (fun a=>by kernel_rfl) (by kernel_rfl) (fun _ _=>rfl)
theorem zzf:SG ZP sg 80 @z4c:=conD (loops:=zoo) good Tryz.func80 zatu (by kernel_rfl) zacs (all_cons z92 zaa) (fun a=>by kernel_rfl)
theorem zqb:SG ZP sg 199 @zaoc:=conE good Tryz.func199 (by kernel_rfl) (by kernel_rfl) cg0 (fun a=>by kernel_rfl)
theorem zako:SG ZP sg 200 @zap2:=conE good Tryz.func200 (by kernel_rfl) (by kernel_rfl) (cgc zqb cg0) (fun a=>by kernel_rfl)
theorem zajw:SG ZP sg 133 @z5v:=conE good Tryz.func133 (by kernel_rfl) (by kernel_rfl) (cgc zqb (cgc zako cg0)) (fun a=>by kernel_rfl)
theorem zajc:SG ZP sg 135 @z5g:=conE good Tryz.func135 (by kernel_rfl) (by kernel_rfl) cg0 (fun a=>by kernel_rfl)
theorem zke:fnB ZP 134 Tryz.f134 [2,5]=true:=by kernel_rfl
theorem zahm:CG ZP sg @zag0:=(cgc zajc cg0)
theorem z2k:zae ZP sg 0 Tryz.f134 @zmn 5:=zar z1m good Tryz.func134 zke zahm zaa (fun a=>by kernel_rfl) (by kernel_rfl) (fun _ _=>rfl)
theorem zal6:zae ZP sg 0 Tryz.f134 @zmn 2:=zar z1l good Tryz.func134 zke zahm (all_cons z2k zaa) (fun a=>by kernel_rfl) (by kernel_rfl) (fun _ _=>rfl)
theorem zasl:SG ZP sg 134 @zaf8:=conD (loops:=zmn) good Tryz.func134 zke (by kernel_rfl) zahm (all_cons zal6 (all_cons z2k zaa)) (fun a=>by kernel_rfl)
theorem zaju:SG ZP sg 136 @z5u:=conE good Tryz.func136 (by kernel_rfl) (by kernel_rfl) cg0 (fun a=>by kernel_rfl)
theorem zlw:CG ZP sg @zvs:=(cgc zaju cg0)
theorem zkv:zae ZP sg 0 Tryz.f134 @zfe 5:=zar zkr good Tryz.func134 zke zlw zaa (fun a=>by kernel_rfl) (by kernel_rfl) (fun _ _=>rfl)
theorem zwr:zae ZP sg 0 Tryz.f134 @zfe 2:=zar zkq good Tryz.func134 zke zlw (all_cons zkv zaa) (fun a=>by kernel_rfl) (by kernel_rfl) (fun _ _=>rfl)
theorem z0j:SG ZP sg 134 @zpq:=conD (loops:=zfe) good Tryz.func134 zke (by kernel_rfl) zlw (all_cons zwr (all_cons zkv zaa)) (fun a=>by kernel_rfl)
theorem zatv:fnB ZP 81 Tryz.f81 [4]=true:=by kernel_rfl
theorem zar7:CG ZP sg @zag3:=(cgc zajw (cgc (sgi zasl (sgi z0j sg0)) cg0))
theorem zama:zae ZP sg 0 Tryz.f81 @zun 4:=zar z1q good Tryz.func81 zatv zar7 zaa (fun a=>by kernel_rfl) (by kernel_rfl) (fun _ _=>rfl)
theorem zaso:SG ZP sg 81 @zaf9:=conD (loops:=zun) good Tryz.func81 zatv (by kernel_rfl) zar7 (all_cons zama zaa) (fun a=>by kernel_rfl)
theorem zakz:SG ZP sg 201 @zap9:=conE good Tryz.func201 (by kernel_rfl) (by kernel_rfl) cg0 (fun a=>by kernel_rfl)
theorem zz9:SG ZP sg 202 @zapa:=conE good Tryz.func202 (by kernel_rfl) (by kernel_rfl) cg0 (fun a=>by kernel_rfl)
theorem zaii:SG ZP sg 137 @z4l:=conE good Tryz.func137 (by kernel_rfl) (by kernel_rfl) (cgc zakz (cgc zz9 cg0)) (fun a=>by kernel_rfl)
theorem zatw:fnB ZP 82 Tryz.f82 [4]=true:=by kernel_rfl
theorem zacv:CG ZP sg @z7u:=(cgc zaii cg0)
theorem z95:zae ZP sg 0 Tryz.f82 @zor 4:=zar zth good Tryz.func82 zatw zacv zaa (fun a=>by kernel_rfl) (by kernel_rfl) (fun _ _=>rfl)
theorem zzg:SG ZP sg 82 @z4f:=conD (loops:=zor) good Tryz.func82 zatw (by kernel_rfl) zacv (all_cons z95 zaa) (fun a=>by kernel_rfl)
theorem zzu:SG ZP sg 203 @zaoq:=conE good Tryz.func203 (by kernel_rfl) (by kernel_rfl) cg0 (fun a=>by kernel_rfl)
theorem zai7:SG ZP sg 138 @z5a:=conE good Tryz.func138 (by kernel_rfl) (by kernel_rfl) (cgc zzu cg0) (fun a=>by kernel_rfl)
theorem zz3:SG ZP sg 139 @z5j:=conE good Tryz.func139 (by kernel_rfl) (by kernel_rfl) cg0 (fun a=>by kernel_rfl)
theorem zadw:fnB ZP 204 Tryz.f204 [2]=true:=by kernel_rfl
theorem zac3:CG ZP sg @z74:=(cgc zz3 cg0)
theorem zaad:zae ZP sg 0 Tryz.f204 @zoz 2:=zar ztp good Tryz.func204 zadw zac3 zaa (fun a=>by kernel_rfl) (by kernel_rfl) (fun _ _=>rfl)
theorem zaie:SG ZP sg 204 @zaoa:=conD (loops:=zoz) good Tryz.func204 zadw (by kernel_rfl) zac3 (all_cons zaad zaa) (fun a=>by kernel_rfl)
theorem zaku:SG ZP sg 140 @z6d:=conE good Tryz.func140 (by kernel_rfl) (by kernel_rfl) (cgc zz3 (cgc zaie cg0)) (fun a=>by kernel_rfl)
theorem zatx:fnB ZP 83 Tryz.f83 [4]=true:=by kernel_rfl
theorem zasd:CG ZP sg @zahg:=(cgc zai7 (cgc zaku cg0))
theorem zamq:zae ZP sg 0 Tryz.f83 @zut 4:=zar z2a good Tryz.func83 zatx zasd zaa (fun a=>by kernel_rfl) (by kernel_rfl) (fun _ _=>rfl)
theorem zasz:SG ZP sg 83 @zagf:=conD (loops:=zut) good Tryz.func83 zatx (by kernel_rfl) zasd (all_cons zamq zaa) (fun a=>by kernel_rfl)
theorem zqf:SG ZP sg 143 @z49:=conE good Tryz.func143 (by kernel_rfl) (by kernel_rfl) cg0 (fun a=>by kernel_rfl)
theorem zzv:SG ZP sg 142 @z44:=conE good Tryz.func142 (by kernel_rfl) (by kernel_rfl) (cgc zqf cg0) (fun a=>by kernel_rfl)
theorem zadx:fnB ZP 205 Tryz.f205 [2]=true:=by kernel_rfl
theorem zac4:CG ZP sg @z78:=(cgc zzv cg0)
theorem zaae:zae ZP sg 0 Tryz.f205 @zo0 2:=zar ztq good Tryz.func205 zadx zac4 zaa (fun a=>by kernel_rfl) (by kernel_rfl) (fun _ _=>rfl)
theorem zaif:SG ZP sg 205 @zaob:=conD (loops:=zo0) good Tryz.func205 zadx (by kernel_rfl) zac4 (all_cons zaae zaa) (fun a=>by kernel_rfl)
theorem zakv:SG ZP sg 141 @z6e:=conE good Tryz.func141 (by kernel_rfl) (by kernel_rfl) (cgc zzv (cgc zaif cg0)) (fun a=>by kernel_rfl)
theorem zaty:fnB ZP 84 Tryz.f84 [8]=true:=by kernel_rfl
theorem zasc:CG ZP sg @zahf:=(cgc zakv cg0)
theorem zamp:zae ZP sg 0 Tryz.f84 @zus 8:=zar z19 good Tryz.func84 zaty zasc zaa (fun a=>by kernel_rfl) (by kernel_rfl) (fun _ _=>rfl)
theorem zadn:SG ZP sg 84 @zage:=conD (loops:=zus) good Tryz.func84 zaty (by kernel_rfl) zasc (all_cons zamp zaa) (fun a=>by kernel_rfl)
theorem z9b:fnB ZP 38 Tryz.f38 [4,12,18]=true:=by kernel_rfl
theorem z8s:CG ZP sg @zahc:=(cgc zlz (cgc zzd (cgc zzf (cgc zaso (cgc zzg (cgc zasz (cgc zadn cg0)))))))
theorem zaml:zae ZP sg 0 Tryz.f38 @zhl 4:=zar z14 good Tryz.func38 z9b z8s zaa (fun a=>by kernel_rfl) (by kernel_rfl) (fun _ _=>rfl)
theorem zaay:zae ZP sg 0 Tryz.f38 @zhl 12:=zar zub good Tryz.func38 z9b z8s zaa (fun a=>by kernel_rfl) (by kernel_rfl) (fun _ _=>rfl)
theorem zaaz:zae ZP sg 0 Tryz.f38 @zhl 18:=zar zuc good Tryz.func38 z9b z8s zaa (fun a=>by kernel_rfl) (by kernel_rfl) (fun _ _=>rfl)
theorem zasw:SG ZP sg 38 @zav7:=conD (loops:=zhl) good Tryz.func38 z9b (by kernel_rfl) z8s (all_cons zaml (all_cons zaay (all_cons zaaz zaa))) (fun a=>by kernel_rfl)
theorem zai6:SG ZP sg 207 @z48:=conE good Tryz.func207 (by kernel_rfl) (by kernel_rfl) cg0 (fun a=>by kernel_rfl)
theorem zsv:fnB ZP 206 Tryz.f206 [2]=true:=by kernel_rfl
theorem zasb:CG ZP sg @zag8:=(cgc zai6 cg0)
theorem zamg:zae ZP sg 0 Tryz.f206 @zur 2:=zar z1w good Tryz.func206 zsv zasb zaa (fun a=>by kernel_rfl) (by kernel_rfl) (fun _ _=>rfl)
theorem zass:SG ZP sg 206 @zav5:=conD (loops:=zur) good Tryz.func206 zsv (by kernel_rfl) zasb (all_cons zamg zaa) (fun a=>by kernel_rfl)
theorem zy7:SG ZP sg 144 @zant:=conE good Tryz.func144 (by kernel_rfl) (by kernel_rfl) (cgc zass cg0) (fun a=>by kernel_rfl)
theorem zqh:SG ZP sg 86 @zao0:=conE good Tryz.func86 (by kernel_rfl) (by kernel_rfl) (cgc zy7 cg0) (fun a=>by kernel_rfl)
theorem zaij:SG ZP sg 85 @z4m:=conE good Tryz.func85 (by kernel_rfl) (by kernel_rfl) (cgc zqh cg0) (fun a=>by kernel_rfl)
theorem z9c:fnB ZP 39 Tryz.f39 [3,9,15]=true:=by kernel_rfl
theorem z8p:CG ZP sg @zag2:=(cgc znn (cgc zaij cg0))
theorem zal8:zae ZP sg 0 Tryz.f39 @zhi 3:=zar z1o good Tryz.func39 z9c z8p zaa (fun a=>by kernel_rfl) (by kernel_rfl) (fun _ _=>rfl)
theorem zal9:zae ZP sg 0 Tryz.f39 @zhi 9:=zar z1p good Tryz.func39 z9c z8p zaa (fun a=>by kernel_rfl) (by kernel_rfl) (fun _ _=>rfl)
theorem zaaw:zae ZP sg 0 Tryz.f39 @zhi 15:=zar zt8 good Tryz.func39 z9c z8p zaa (fun a=>by kernel_rfl) (by kernel_rfl) (fun _ _=>rfl)
theorem zasn:SG ZP sg 39 @zav2:=conD (loops:=zhi) good Tryz.func39 z9c (by kernel_rfl) z8p (all_cons zal8 (all_cons zal9 (all_cons zaaw zaa))) (fun a=>by kernel_rfl)
theorem zp9:SG ZP sg 122 @zan5:=conE good Tryz.func122 (by kernel_rfl) (by kernel_rfl) cg0 (fun a=>by kernel_rfl)
theorem zzx:SG ZP sg 186 @z5f:=conE good Tryz.func186 (by kernel_rfl) (by kernel_rfl) cg0 (fun a=>by kernel_rfl)
theorem zsu:fnB ZP 185 Tryz.f185 [2]=true:=by kernel_rfl
theorem zasa:CG ZP sg @zag6:=(cgc zzx cg0)
theorem zamd:zae ZP sg 0 Tryz.f185 @zuq 2:=zar z1t good Tryz.func185 zsu zasa zaa (fun a=>by kernel_rfl) (by kernel_rfl) (fun _ _=>rfl)
theorem zasq:SG ZP sg 185 @zav3:=conD (loops:=zuq) good Tryz.func185 zsu (by kernel_rfl) zasa (all_cons zamd zaa) (fun a=>by kernel_rfl)
theorem zqe:SG ZP sg 121 @zaou:=conE good Tryz.func121 (by kernel_rfl) (by kernel_rfl) (cgc zasq (cgc zzx cg0)) (fun a=>by kernel_rfl)
theorem zzn:SG ZP sg 69 @z4j:=conE good Tryz.func69 (by kernel_rfl) (by kernel_rfl) (cgc zqe (cgc zp9 cg0)) (fun a=>by kernel_rfl)
theorem zatm:fnB ZP 40 Tryz.f40 [2]=true:=by kernel_rfl
theorem zade:CG ZP sg @z8i:=(cgc zzn cg0)
theorem zaao:zae ZP sg 0 Tryz.f40 @zpa 2:=zar zt0 good Tryz.func40 zatm zade zaa (fun a=>by kernel_rfl) (by kernel_rfl) (fun _ _=>rfl)
theorem zaiu:SG ZP sg 40 @zaoj:=conD (loops:=zpa) good Tryz.func40 zatm (by kernel_rfl) zade (all_cons zaao zaa) (fun a=>by kernel_rfl)
theorem zajg:SG ZP sg 145 @z5p:=conE good Tryz.func145 (by kernel_rfl) (by kernel_rfl) cg0 (fun a=>by kernel_rfl)
theorem zef:fnB ZP 110 Tryz.f110 [2]=true:=by kernel_rfl
theorem zar6:CG ZP sg @zagz:=(cgc zajg cg0)
theorem zal5:zae ZP sg 0 Tryz.f110 @zum 2:=zar z1k good Tryz.func110 zef zar6 zaa (fun a=>by kernel_rfl) (by kernel_rfl) (fun _ _=>rfl)
theorem zasj:SG ZP sg 110 @zav0:=conD (loops:=zum) good Tryz.func110 zef (by kernel_rfl) zar6 (all_cons zal5 zaa) (fun a=>by kernel_rfl)
theorem zp7:SG ZP sg 87 @z4e:=conE good Tryz.func87 (by kernel_rfl) (by kernel_rfl) (cgc zasj cg0) (fun a=>by kernel_rfl)
theorem zalo:fnB ZP 41 Tryz.f41 [2,16]=true:=by kernel_rfl
theorem zyy:CG ZP sg @z7k:=(cgc znn (cgc zp7 cg0))
theorem z9v:zae ZP sg 0 Tryz.f41 @zin 2:=zar zs7 good Tryz.func41 zalo zyy zaa (fun a=>by kernel_rfl) (by kernel_rfl) (fun _ _=>rfl)
theorem z2h:zae ZP sg 0 Tryz.f41 @zin 16:=zar zn5 good Tryz.func41 zalo zyy zaa (fun a=>by kernel_rfl) (by kernel_rfl) (fun _ _=>rfl)
theorem zah5:SG ZP sg 41 @zany:=conD (loops:=zin) good Tryz.func41 zalo (by kernel_rfl) zyy (all_cons z9v (all_cons z2h zaa)) (fun a=>by kernel_rfl)
theorem zak9:SG ZP sg 23 @zaqe:=conE good Tryz.func23 (by kernel_rfl) (by kernel_rfl) (cgc zlz (cgc zasm (cgc zasw (cgc zasn (cgc zaiu (cgc zah5 cg0)))))) (fun a=>by kernel_rfl)
theorem zadl:SG ZP sg 53 @zaf6:=conE good Tryz.func53 (by kernel_rfl) (by kernel_rfl) (cgc zak9 (cgc zy9 (cgc znn (cgc zz8 (cgc (sgP zaj1) (cgc zz2 cg0)))))) (fun a=>by kernel_rfl)
theorem zai9:SG ZP sg 208 @z5c:=conE good Tryz.func208 (by kernel_rfl) (by kernel_rfl) cg0 (fun a=>by kernel_rfl)
theorem zsp:CG ZP sg @zvu:=(cgc zai9 cg0)
theorem zwt:zae ZP sg 0 Tryz.f206 @ziw 2:=zar zkt good Tryz.func206 zsv zsp zaa (fun a=>by kernel_rfl) (by kernel_rfl) (fun _ _=>rfl)
theorem z0n:SG ZP sg 206 @z6o:=conD (loops:=ziw) good Tryz.func206 zsv (by kernel_rfl) zsp (all_cons zwt zaa) (fun a=>by kernel_rfl)
theorem zajz:SG ZP sg 211 @zapq:=conS (loops:=l0) (ids:=[]) good Tryz.func211 (by kernel_rfl) (by kernel_rfl) cg0 zaa (fun a=>by kernel_rfl) (by kernel_rfl)
theorem zaj4:SG ZP sg 209 @zapr:=conE good Tryz.func209 (by kernel_rfl) (by kernel_rfl) (cgc zzd cg0) (fun a=>by kernel_rfl)
theorem zai3:SG ZP sg 153 @zaos:=conE good Tryz.func153 (by kernel_rfl) (by kernel_rfl) (cgc zy7 (cgc z0n (cgc zaj4 (cgc (sgP zajy) (cgc zajz cg0))))) (fun a=>by kernel_rfl)
theorem zajs:SG ZP sg 99 @zapl:=conE good Tryz.func99 (by kernel_rfl) (by kernel_rfl) (cgc zai3 cg0) (fun a=>by kernel_rfl)
theorem zaja:SG ZP sg 52 @z5d:=conE good Tryz.func52 (by kernel_rfl) (by kernel_rfl) (cgc zadl (cgc zah9 (cgc zajs cg0))) (fun a=>by kernel_rfl)
theorem zl1:SG ZP sg 64 @zaox:=conN (loops:=l0) (ids:=[]) good Tryz.func64 (by kernel_rfl) (by kernel_rfl) cg0 zaa (fun a=>by kernel_rfl)
theorem zfp:SG ZP sg 67 @zav9:=conM (loops:=l0) (ids:=[]) good Tryz.func67 (by kernel_rfl) (by kernel_rfl) cg0 zaa (fun a b=>by kernel_rfl)
theorem zl2:SG ZP sg 65 @zao3:=conM (loops:=l0) (ids:=[]) good Tryz.func65 (by kernel_rfl) (by kernel_rfl) (cgc zfp (cgc znn cg0)) zaa (fun a b=>by kernel_rfl)
theorem zajq:SG ZP sg 156 @zapi:=conS (loops:=l0) (ids:=[]) good Tryz.func156 (by kernel_rfl) (by kernel_rfl) cg0 zaa (fun a=>by kernel_rfl) (by kernel_rfl)
theorem zfc:SG ZP sg 104 @zanw:=conM (loops:=l0) (ids:=[]) good Tryz.func104 (by kernel_rfl) (by kernel_rfl) (cgc zfp (cgc zz2 (cgc z0i (cgc zajq cg0)))) zaa (fun a b=>by kernel_rfl)
theorem zqa:SG ZP sg 260 @zrr:=conE good Tryz.func260 (by kernel_rfl) (by kernel_rfl) cg0 (fun a=>by kernel_rfl)
theorem z0z:fnB ZP 275 Tryz.f275 [1,4]=true:=by kernel_rfl
theorem zaho:CG ZP sg @zahb:=(cgc zqa cg0)
theorem z2m:zae ZP sg MA Tryz.f275 @zmp 4:=zar z13 good Tryz.func275 z0z zaho zaa (fun a=>by kernel_rfl) (by kernel_rfl) (fun _ _=>rfl)
theorem zamk:zae ZP sg MA Tryz.f275 @zmp 1:=zar z11 good Tryz.func275 z0z zaho (all_cons z2m zaa) (fun a=>by kernel_rfl) (by kernel_rfl) (fun _ _=>rfl)
theorem zasv:SG ZP sg 275 @zagc:=conI (loops:=zmp) good Tryz.func275 z0z (by kernel_rfl) zaho (all_cons zamk (all_cons z2m zaa)) (fun a=>by kernel_rfl)
theorem zsw:fnB ZP 269 Tryz.f269 [2,7,9]=true:=by kernel_rfl
theorem z8q:CG ZP sg @zag9:=(cgc zqa (cgc zasv (cgc (sgP zajh) cg0)))
theorem zamh:zae ZP sg MA Tryz.f269 @zhj 2:=zar z1x good Tryz.func269 zsw z8q zaa (fun a=>by kernel_rfl) (by kernel_rfl) (fun _ _=>rfl)
theorem z2l:zae ZP sg MA Tryz.f269 @zhj 9:=zar z1z good Tryz.func269 zsw z8q zaa (fun a=>by kernel_rfl) (by kernel_rfl) (fun _ _=>rfl)
theorem zami:zae ZP sg MA Tryz.f269 @zhj 7:=zar z1y good Tryz.func269 zsw z8q (all_cons z2l zaa) (fun a=>by kernel_rfl) (by kernel_rfl) (fun _ _=>rfl)
theorem zast:SG ZP sg 269 @zav6:=conI (loops:=zhj) good Tryz.func269 zsw (by kernel_rfl) z8q (all_cons zamh (all_cons zami (all_cons z2l zaa))) (fun a=>by kernel_rfl)
theorem zajx:SG ZP sg 259 @z5w:=conI (loops:=l0) (ids:=[]) good Tryz.func259 (by kernel_rfl) (by kernel_rfl) (cgc zqa (cgc zast cg0)) zaa (fun a=>by kernel_rfl)
theorem zad6:fnB ZP 246 Tryz.f246 [3]=true:=by kernel_rfl
theorem zar9:CG ZP sg @zag5:=(cgc zajx cg0)
theorem zamc:zae ZP sg 0 Tryz.f246 @zup 3:=zar z1s good Tryz.func246 zad6 zar9 zaa (fun a=>by kernel_rfl) (by kernel_rfl) (fun _ _=>rfl)
theorem zasp:SG ZP sg 246 @zaga:=conD (loops:=zup) good Tryz.func246 zad6 (by kernel_rfl) zar9 (all_cons zamc zaa) (fun a=>by kernel_rfl)
theorem zady:fnB ZP 213 Tryz.f213 [3]=true:=by kernel_rfl
theorem zac6:CG ZP sg @z8a:=(cgc zasp cg0)
theorem zaag:zae ZP sg 0 Tryz.f213 @zo2 3:=zar zts good Tryz.func213 zady zac6 zaa (fun a=>by kernel_rfl) (by kernel_rfl) (fun _ _=>rfl)
theorem zaim:SG ZP sg 213 @zaoh:=conD (loops:=zo2) good Tryz.func213 zady (by kernel_rfl) zac6 (all_cons zaag zaa) (fun a=>by kernel_rfl)
theorem z0k:SG ZP sg 157 @zap3:=conE good Tryz.func157 (by kernel_rfl) (by kernel_rfl) (cgc zaim cg0) (fun a=>by kernel_rfl)
theorem zajj:SG ZP sg 247 @z5q:=conE good Tryz.func247 (by kernel_rfl) (by kernel_rfl) cg0 (fun a=>by kernel_rfl)
theorem zsj:CG ZP sg @zvn:=(cgc zajj cg0)
theorem zwm:zae ZP sg 0 Tryz.f110 @ziq 2:=zar zkl good Tryz.func110 zef zsj zaa (fun a=>by kernel_rfl) (by kernel_rfl) (fun _ _=>rfl)
theorem zzp:SG ZP sg 110 @z4o:=conD (loops:=ziq) good Tryz.func110 zef (by kernel_rfl) zsj (all_cons zwm zaa) (fun a=>by kernel_rfl)
theorem zqd:SG ZP sg 214 @zaog:=conE good Tryz.func214 (by kernel_rfl) (by kernel_rfl) (cgc zzp cg0) (fun a=>by kernel_rfl)
theorem z0l:SG ZP sg 158 @zap6:=conE good Tryz.func158 (by kernel_rfl) (by kernel_rfl) (cgc zqd cg0) (fun a=>by kernel_rfl)
theorem zz7:SG ZP sg 68 @zao4:=conM (loops:=l0) (ids:=[]) good Tryz.func68 (by kernel_rfl) (by kernel_rfl) (cgc zfc cg0) zaa (fun a b=>by kernel_rfl)
theorem zakj:SG ZP sg 270 @zapy:=conE good Tryz.func270 (by kernel_rfl) (by kernel_rfl) cg0 (fun a=>by kernel_rfl)
theorem zaig:SG ZP sg 261 @z4k:=conE good Tryz.func261 (by kernel_rfl) (by kernel_rfl) (cgc zakj cg0) (fun a=>by kernel_rfl)
theorem zad9:fnB ZP 262 Tryz.f262 [3]=true:=by kernel_rfl
theorem zacm:CG ZP sg @z7h:=cg0
theorem z9s:zae ZP sg 0 Tryz.f262 @zoi 3:=zar zs4 good Tryz.func262 zad9 zacm zaa (fun a=>by kernel_rfl) (by kernel_rfl) (fun _ _=>rfl)
theorem zah2:SG ZP sg 262 @z33:=conD (loops:=zoi) good Tryz.func262 zad9 (by kernel_rfl) zacm (all_cons z9s zaa) (fun a=>by kernel_rfl)
theorem zad7:fnB ZP 248 Tryz.f248 [3]=true:=by kernel_rfl
theorem zaci:CG ZP sg @z7d:=(cgc zaig (cgc zah2 cg0))
theorem z9o:zae ZP sg 0 Tryz.f248 @zoe 3:=zar zsz good Tryz.func248 zad7 zaci zaa (fun a=>by kernel_rfl) (by kernel_rfl) (fun _ _=>rfl)
theorem zahz:SG ZP sg 248 @zanu:=conD (loops:=zoe) good Tryz.func248 zad7 (by kernel_rfl) zaci (all_cons z9o zaa) (fun a=>by kernel_rfl)
theorem zaji:SG ZP sg 220 @zao8:=conE good Tryz.func220 (by kernel_rfl) (by kernel_rfl) (cgc zahz cg0) (fun a=>by kernel_rfl)
theorem zql:SG ZP sg 162 @zao5:=conE good Tryz.func162 (by kernel_rfl) (by kernel_rfl) (cgc zqh (cgc zaji cg0)) (fun a=>by kernel_rfl)
theorem zqm:SG ZP sg 165 @zao6:=conE good Tryz.func165 (by kernel_rfl) (by kernel_rfl) (cgc zlz cg0) (fun a=>by kernel_rfl)
theorem z0f:SG ZP sg 117 @zapn:=conE good Tryz.func117 (by kernel_rfl) (by kernel_rfl) cg0 (fun a=>by kernel_rfl)
theorem zak0:SG ZP sg 271 @z6h:=conE good Tryz.func271 (by kernel_rfl) (by kernel_rfl) (cgc z0f cg0) (fun a=>by kernel_rfl)
theorem zajm:SG ZP sg 272 @z5r:=conE good Tryz.func272 (by kernel_rfl) (by kernel_rfl) cg0 (fun a=>by kernel_rfl)
theorem zaea:fnB ZP 263 Tryz.f263 [3]=true:=by kernel_rfl
theorem zacx:CG ZP sg @z7w:=(cgc zak0 (cgc zajm cg0))
theorem z97:zae ZP sg 0 Tryz.f263 @zot 3:=zar ztj good Tryz.func263 zaea zacx zaa (fun a=>by kernel_rfl) (by kernel_rfl) (fun _ _=>rfl)
theorem zaic:SG ZP sg 263 @zan6:=conD (loops:=zot) good Tryz.func263 zaea (by kernel_rfl) zacx (all_cons z97 zaa) (fun a=>by kernel_rfl)
theorem zad8:fnB ZP 251 Tryz.f251 [3]=true:=by kernel_rfl
theorem zacw:CG ZP sg @z7v:=cg0
theorem z96:zae ZP sg 0 Tryz.f251 @zos 3:=zar zti good Tryz.func251 zad8 zacw zaa (fun a=>by kernel_rfl) (by kernel_rfl) (fun _ _=>rfl)
theorem zzh:SG ZP sg 251 @z4g:=conD (loops:=zos) good Tryz.func251 zad8 (by kernel_rfl) zacw (all_cons z96 zaa) (fun a=>by kernel_rfl)
theorem zak8:SG ZP sg 265 @zaqd:=conE good Tryz.func265 (by kernel_rfl) (by kernel_rfl) cg0 (fun a=>by kernel_rfl)
theorem zqg:SG ZP sg 253 @z5e:=conE good Tryz.func253 (by kernel_rfl) (by kernel_rfl) (cgc zak8 cg0) (fun a=>by kernel_rfl)
theorem zzz:SG ZP sg 249 @zrt:=conE good Tryz.func249 (by kernel_rfl) (by kernel_rfl) (cgc zqf (cgc zzh (cgc zqg (cgc zaic cg0)))) (fun a=>by kernel_rfl)
theorem zad2:fnB ZP 221 Tryz.f221 [2]=true:=by kernel_rfl
theorem zase:CG ZP sg @zahh:=(cgc zzz cg0)
theorem zamr:zae ZP sg 0 Tryz.f221 @zuu 2:=zar z2b good Tryz.func221 zad2 zase zaa (fun a=>by kernel_rfl) (by kernel_rfl) (fun _ _=>rfl)
theorem zado:SG ZP sg 221 @zagg:=conD (loops:=zuu) good Tryz.func221 zad2 (by kernel_rfl) zase (all_cons zamr zaa) (fun a=>by kernel_rfl)
theorem zad5:fnB ZP 231 Tryz.f231 [9]=true:=by kernel_rfl
theorem zach:CG ZP sg @z7c:=(cgc zqf (cgc zado cg0))
theorem z9n:zae ZP sg 0 Tryz.f231 @zod 9:=zar zsy good Tryz.func231 zad5 zach zaa (fun a=>by kernel_rfl) (by kernel_rfl) (fun _ _=>rfl)
theorem zahy:SG ZP sg 231 @zans:=conD (loops:=zod) good Tryz.func231 zad5 (by kernel_rfl) zach (all_cons z9n zaa) (fun a=>by kernel_rfl)
theorem zakg:SG ZP sg 174 @zapw:=conM (loops:=l0) (ids:=[]) good Tryz.func174 (by kernel_rfl) (by kernel_rfl) (cgc zfp (cgc zqm (cgc zahy cg0))) zaa (fun a b=>by kernel_rfl)
theorem zz4:SG ZP sg 215 @z5k:=conE good Tryz.func215 (by kernel_rfl) (by kernel_rfl) cg0 (fun a=>by kernel_rfl)
theorem zsk:CG ZP sg @zvo:=(cgc zz4 cg0)
theorem zwn:zae ZP sg 0 Tryz.f110 @zir 2:=zar zkm good Tryz.func110 zef zsk zaa (fun a=>by kernel_rfl) (by kernel_rfl) (fun _ _=>rfl)
theorem zzq:SG ZP sg 110 @z4p:=conD (loops:=zir) good Tryz.func110 zef (by kernel_rfl) zsk (all_cons zwn zaa) (fun a=>by kernel_rfl)
theorem zai4:SG ZP sg 57 @zaot:=conE good Tryz.func57 (by kernel_rfl) (by kernel_rfl) (cgc zzq (cgc zz4 cg0)) (fun a=>by kernel_rfl)
theorem z0b:SG ZP sg 226 @zape:=conS (loops:=l0) (ids:=[]) good Tryz.func226 (by kernel_rfl) (by kernel_rfl) cg0 zaa (fun a=>by kernel_rfl) (by kernel_rfl)
theorem zakr:SG ZP sg 216 @zap5:=conE good Tryz.func216 (by kernel_rfl) (by kernel_rfl) (cgc z0b cg0) (fun a=>by kernel_rfl)
theorem zzk:SG ZP sg 160 @zan9:=conE good Tryz.func160 (by kernel_rfl) (by kernel_rfl) (cgc zai4 (cgc zqb (cgc zqd (cgc zakr cg0)))) (fun a=>by kernel_rfl)
theorem zqk:SG ZP sg 159 @zao2:=conM (loops:=l0) (ids:=[]) good Tryz.func159 (by kernel_rfl) (by kernel_rfl) (cgc zfp cg0) zaa (fun a b=>by kernel_rfl)
theorem z0e:SG ZP sg 114 @zapk:=conM (loops:=l0) (ids:=[]) good Tryz.func114 (by kernel_rfl) (by kernel_rfl) (cgc zfc (cgc zqk (cgc zzk (cgc zql (cgc zakg cg0))))) zaa (fun a b=>by kernel_rfl)
theorem z0c:SG ZP sg 105 @zapf:=conM (loops:=l0) (ids:=[]) good Tryz.func105 (by kernel_rfl) (by kernel_rfl) (cgc zz7 (cgc zfc (cgc z0e (cgc z0k (cgc z0l (cgc zqk (cgc zzk cg0))))))) zaa (fun a b=>by kernel_rfl)
theorem zy6:SG ZP sg 72 @zanr:=conM (loops:=l0) (ids:=[]) good Tryz.func72 (by kernel_rfl) (by kernel_rfl) cg0 zaa (fun a b=>by kernel_rfl)
theorem zaik:SG ZP sg 54 @z4n:=conE good Tryz.func54 (by kernel_rfl) (by kernel_rfl) (cgc zl1 (cgc zl2 (cgc zy6 (cgc zfc (cgc z0c cg0))))) (fun a=>by kernel_rfl)
theorem zad0:fnB ZP 218 Tryz.f218 [3]=true:=by kernel_rfl
theorem zac7:CG ZP sg @z8b:=cg0
theorem zaah:zae ZP sg 0 Tryz.f218 @zo3 3:=zar ztt good Tryz.func218 zad0 zac7 zaa (fun a=>by kernel_rfl) (by kernel_rfl) (fun _ _=>rfl)
theorem zain:SG ZP sg 218 @zaoi:=conD (loops:=zo3) good Tryz.func218 zad0 (by kernel_rfl) zac7 (all_cons zaah zaa) (fun a=>by kernel_rfl)
theorem zadu:fnB ZP 163 Tryz.f163 [3]=true:=by kernel_rfl
theorem zaco:CG ZP sg @z7n:=cg0
theorem z9y:zae ZP sg 0 Tryz.f163 @zok 3:=zar zta good Tryz.func163 zadu zaco zaa (fun a=>by kernel_rfl) (by kernel_rfl) (fun _ _=>rfl)
theorem zzc:SG ZP sg 163 @z4a:=conD (loops:=zok) good Tryz.func163 zadu (by kernel_rfl) zaco (all_cons z9y zaa) (fun a=>by kernel_rfl)
theorem zad1:fnB ZP 219 Tryz.f219 [3]=true:=by kernel_rfl
theorem zack:CG ZP sg @z7f:=(cgc zzc cg0)
theorem z9q:zae ZP sg 0 Tryz.f219 @zog 3:=zar zs1 good Tryz.func219 zad1 zack zaa (fun a=>by kernel_rfl) (by kernel_rfl) (fun _ _=>rfl)
theorem zah0:SG ZP sg 219 @zanv:=conD (loops:=zog) good Tryz.func219 zad1 (by kernel_rfl) zack (all_cons z9q zaa) (fun a=>by kernel_rfl)
theorem zadz:fnB ZP 217 Tryz.f217 [3]=true:=by kernel_rfl
theorem zacp:CG ZP sg @z7o:=cg0
theorem z9z:zae ZP sg 0 Tryz.f217 @zol 3:=zar ztb good Tryz.func217 zadz zacp zaa (fun a=>by kernel_rfl) (by kernel_rfl) (fun _ _=>rfl)
theorem zaia:SG ZP sg 217 @zan3:=conD (loops:=zol) good Tryz.func217 zadz (by kernel_rfl) zacp (all_cons z9z zaa) (fun a=>by kernel_rfl)
theorem zak6:SG ZP sg 161 @zaqb:=conE good Tryz.func161 (by kernel_rfl) (by kernel_rfl) (cgc zaia (cgc zain (cgc zah0 cg0))) (fun a=>by kernel_rfl)
theorem zad3:fnB ZP 222 Tryz.f222 [2]=true:=by kernel_rfl
theorem zadf:CG ZP sg @z8j:=(cgc zzz cg0)
theorem zaap:zae ZP sg 0 Tryz.f222 @zpb 2:=zar zt1 good Tryz.func222 zad3 zadf zaa (fun a=>by kernel_rfl) (by kernel_rfl) (fun _ _=>rfl)
theorem zaiv:SG ZP sg 222 @zaok:=conD (loops:=zpb) good Tryz.func222 zad3 (by kernel_rfl) zadf (all_cons zaap zaa) (fun a=>by kernel_rfl)
theorem zajk:SG ZP sg 164 @zao9:=conE good Tryz.func164 (by kernel_rfl) (by kernel_rfl) (cgc zzu (cgc zado (cgc zaiv cg0))) (fun a=>by kernel_rfl)
theorem zakl:SG ZP sg 106 @zapz:=conE good Tryz.func106 (by kernel_rfl) (by kernel_rfl) (cgc z0k (cgc z0l (cgc zak6 (cgc zql (cgc zzc (cgc zajk (cgc zqm cg0))))))) (fun a=>by kernel_rfl)
theorem zz6:SG ZP sg 166 @z5m:=conE good Tryz.func166 (by kernel_rfl) (by kernel_rfl) cg0 (fun a=>by kernel_rfl)
theorem zso:CG ZP sg @zvt:=(cgc zz6 cg0)
theorem zws:zae ZP sg 0 Tryz.f185 @ziv 2:=zar zks good Tryz.func185 zsu zso zaa (fun a=>by kernel_rfl) (by kernel_rfl) (fun _ _=>rfl)
theorem z0m:SG ZP sg 185 @z6n:=conD (loops:=ziv) good Tryz.func185 zsu (by kernel_rfl) zso (all_cons zws zaa) (fun a=>by kernel_rfl)
theorem zvz:SG ZP sg 121 @zxn:=conE good Tryz.func121 (by kernel_rfl) (by kernel_rfl) (cgc zz6 (cgc z0m cg0)) (fun a=>by kernel_rfl)
theorem z0a:SG ZP sg 169 @zapd:=conS (loops:=l0) (ids:=[]) good Tryz.func169 (by kernel_rfl) (by kernel_rfl) cg0 zaa (fun a=>by kernel_rfl) (by kernel_rfl)
theorem zaj6:SG ZP sg 167 @zaps:=conE good Tryz.func167 (by kernel_rfl) (by kernel_rfl) (cgc zzf cg0) (fun a=>by kernel_rfl)
theorem zaiz:SG ZP sg 107 @zaon:=conE good Tryz.func107 (by kernel_rfl) (by kernel_rfl) (cgc (sgi (ac:=zago) zqe (sgi (ac:=zlo) zvz sg0)) (cgc zp9 (cgc zaj6 (cgc (sgP zaj0) (cgc z0a cg0))))) (fun a=>by kernel_rfl)
theorem zqj:SG ZP sg 71 @zao1:=conM (loops:=l0) (ids:=[]) good Tryz.func71 (by kernel_rfl) (by kernel_rfl) (cgc zfp cg0) zaa (fun a b=>by kernel_rfl)
theorem zakm:SG ZP sg 170 @zap0:=conE good Tryz.func170 (by kernel_rfl) (by kernel_rfl) (cgc zqd (cgc (sgP zaj3) (cgc z0b cg0))) (fun a=>by kernel_rfl)
theorem zakw:SG ZP sg 108 @zap8:=conM (loops:=l0) (ids:=[]) good Tryz.func108 (by kernel_rfl) (by kernel_rfl) (cgc zqk (cgc zakm cg0)) zaa (fun a b=>by kernel_rfl)
theorem zzy:SG ZP sg 109 @zaow:=conM (loops:=l0) (ids:=[]) good Tryz.func109 (by kernel_rfl) (by kernel_rfl) cg0 zaa (fun a b=>by kernel_rfl)
theorem zakp:SG ZP sg 112 @zap4:=conE good Tryz.func112 (by kernel_rfl) (by kernel_rfl) cg0 (fun a=>by kernel_rfl)
theorem zajn:SG ZP sg 111 @z5t:=conE good Tryz.func111 (by kernel_rfl) (by kernel_rfl) (cgc zakp cg0) (fun a=>by kernel_rfl)
theorem zsl:CG ZP sg @zvp:=(cgc zajn cg0)
theorem zwo:zae ZP sg 0 Tryz.f110 @zis 2:=zar zkn good Tryz.func110 zef zsl zaa (fun a=>by kernel_rfl) (by kernel_rfl) (fun _ _=>rfl)
theorem zzr:SG ZP sg 110 @z4q:=conD (loops:=zis) good Tryz.func110 zef (by kernel_rfl) zsl (all_cons zwo zaa) (fun a=>by kernel_rfl)
theorem zaiy:SG ZP sg 55 @z42:=conE good Tryz.func55 (by kernel_rfl) (by kernel_rfl) (cgc zl1 (cgc zl2 (cgc zfp (cgc zqj (cgc zqh (cgc zp7 (cgc zfc (cgc zakl (cgc zaiz (cgc zakw (cgc zzy (cgc zzr cg0)))))))))))) (fun a=>by kernel_rfl)
theorem zake:SG ZP sg 123 @zapu:=conE good Tryz.func123 (by kernel_rfl) (by kernel_rfl) (cgc z0a (cgc (sgP zaj2) cg0)) (fun a=>by kernel_rfl)
theorem z0h:SG ZP sg 70 @zapp:=conE good Tryz.func70 (by kernel_rfl) (by kernel_rfl) (cgc zqe (cgc zp9 (cgc zake cg0))) (fun a=>by kernel_rfl)
theorem zakk:SG ZP sg 252 @z6a:=conE good Tryz.func252 (by kernel_rfl) (by kernel_rfl) (cgc zqg cg0) (fun a=>by kernel_rfl)
theorem z0y:fnB ZP 227 Tryz.f227 [7,13]=true:=by kernel_rfl
theorem zyz:CG ZP sg @z7l:=(cgc zzh (cgc zakk (cgc zqg cg0)))
theorem z9w:zae ZP sg 0 Tryz.f227 @zio 7:=zar zs8 good Tryz.func227 z0y zyz zaa (fun a=>by kernel_rfl) (by kernel_rfl) (fun _ _=>rfl)
theorem z2i:zae ZP sg 0 Tryz.f227 @zio 13:=zar zn6 good Tryz.func227 z0y zyz zaa (fun a=>by kernel_rfl) (by kernel_rfl) (fun _ _=>rfl)
theorem zah6:SG ZP sg 227 @zanz:=conD (loops:=zio) good Tryz.func227 z0y (by kernel_rfl) zyz (all_cons z9w (all_cons z2i zaa)) (fun a=>by kernel_rfl)
theorem zald:SG ZP sg 171 @zaqi:=conE good Tryz.func171 (by kernel_rfl) (by kernel_rfl) (cgc zadn (cgc zz9 (cgc zah6 cg0))) (fun a=>by kernel_rfl)
theorem zajo:SG ZP sg 228 @zapg:=conE good Tryz.func228 (by kernel_rfl) (by kernel_rfl) (cgc zzg cg0) (fun a=>by kernel_rfl)
theorem zakf:SG ZP sg 172 @zapv:=conM (loops:=l0) (ids:=[]) good Tryz.func172 (by kernel_rfl) (by kernel_rfl) (cgc zfp (cgc zajo cg0)) zaa (fun a b=>by kernel_rfl)
theorem zai8:SG ZP sg 230 @z5b:=conE good Tryz.func230 (by kernel_rfl) (by kernel_rfl) cg0 (fun a=>by kernel_rfl)
theorem zad4:fnB ZP 229 Tryz.f229 [2]=true:=by kernel_rfl
theorem zac0:CG ZP sg @z7z:=(cgc zai8 cg0)
theorem zaaa:zae ZP sg 0 Tryz.f229 @zow 2:=zar ztm good Tryz.func229 zad4 zac0 zaa (fun a=>by kernel_rfl) (by kernel_rfl) (fun _ _=>rfl)
theorem zaid:SG ZP sg 229 @zan8:=conD (loops:=zow) good Tryz.func229 zad4 (by kernel_rfl) zac0 (all_cons zaaa zaa) (fun a=>by kernel_rfl)
theorem zai2:SG ZP sg 173 @zaor:=conE good Tryz.func173 (by kernel_rfl) (by kernel_rfl) (cgc zaid cg0) (fun a=>by kernel_rfl)
theorem zakd:SG ZP sg 113 @zapt:=conM (loops:=l0) (ids:=[]) good Tryz.func113 (by kernel_rfl) (by kernel_rfl) (cgc z0h (cgc zqj (cgc zfc (cgc zql (cgc zqm (cgc zald (cgc zakf (cgc zai2 cg0)))))))) zaa (fun a b=>by kernel_rfl)
theorem zaj9:SG ZP sg 56 @z54:=conE good Tryz.func56 (by kernel_rfl) (by kernel_rfl) (cgc zl1 (cgc zl2 (cgc zfp (cgc zp7 (cgc zfc (cgc z0c (cgc zzy (cgc zakd (cgc z0e cg0))))))))) (fun a=>by kernel_rfl)
theorem zatj:fnB ZP 26 Tryz.f26 [6]=true:=by kernel_rfl
theorem zacn:CG ZP sg @z7i:=(cgc zaja (cgc zadl (cgc zaik (cgc zaiy (cgc zaj9 cg0)))))
theorem z9t:zae ZP sg 0 Tryz.f26 @zoj 6:=zar zs5 good Tryz.func26 zatj zacn zaa (fun a=>by kernel_rfl) (by kernel_rfl) (fun _ _=>rfl)
theorem zah3:SG ZP sg 26 @zanx:=conD (loops:=zoj) good Tryz.func26 zatj (by kernel_rfl) zacn (all_cons z9t zaa) (fun a=>by kernel_rfl)
theorem zas7:fnB ZP 11 Tryz.f11 [3]=true:=by kernel_rfl
theorem zacj:CG ZP sg @z7e:=cg0
theorem z9p:zae ZP sg 0 Tryz.f11 @zof 3:=zar zs0 good Tryz.func11 zas7 zacj zaa (fun a=>by kernel_rfl) (by kernel_rfl) (fun _ _=>rfl)
theorem zy8:SG ZP sg 11 @z30:=conD (loops:=zof) good Tryz.func11 zas7 (by kernel_rfl) zacj (all_cons z9p zaa) (fun a=>by kernel_rfl)
theorem zata:fnB ZP 13 Tryz.f13 [3]=true:=by kernel_rfl
theorem zacz:CG ZP sg @z7y:=cg0
theorem z99:zae ZP sg 0 Tryz.f13 @zov 3:=zar ztl good Tryz.func13 zata zacz zaa (fun a=>by kernel_rfl) (by kernel_rfl) (fun _ _=>rfl)
theorem zzj:SG ZP sg 13 @z4h:=conD (loops:=zov) good Tryz.func13 zata (by kernel_rfl) zacz (all_cons z99 zaa) (fun a=>by kernel_rfl)
theorem zz1:SG ZP sg 58 @z5i:=conE good Tryz.func58 (by kernel_rfl) (by kernel_rfl) cg0 (fun a=>by kernel_rfl)
theorem zsm:CG ZP sg @zvq:=(cgc zz1 cg0)
theorem zwp:zae ZP sg 0 Tryz.f110 @zit 2:=zar zko good Tryz.func110 zef zsm zaa (fun a=>by kernel_rfl) (by kernel_rfl) (fun _ _=>rfl)
theorem zzs:SG ZP sg 110 @z4r:=conD (loops:=zit) good Tryz.func110 zef (by kernel_rfl) zsm (all_cons zwp zaa) (fun a=>by kernel_rfl)
theorem zvx:SG ZP sg 57 @zlh:=conE good Tryz.func57 (by kernel_rfl) (by kernel_rfl) (cgc zz1 (cgc zzs cg0)) (fun a=>by kernel_rfl)
theorem zakh:SG ZP sg 62 @zapx:=conE good Tryz.func62 (by kernel_rfl) (by kernel_rfl) (cgc z0f cg0) (fun a=>by kernel_rfl)
theorem zatq:fnB ZP 61 Tryz.f61 [3]=true:=by kernel_rfl
theorem zac5:CG ZP sg @z79:=cg0
theorem zaaf:zae ZP sg 0 Tryz.f61 @zo1 3:=zar ztr good Tryz.func61 zatq zac5 zaa (fun a=>by kernel_rfl) (by kernel_rfl) (fun _ _=>rfl)
theorem zail:SG ZP sg 61 @zaof:=conD (loops:=zo1) good Tryz.func61 zatq (by kernel_rfl) zac5 (all_cons zaaf zaa) (fun a=>by kernel_rfl)
theorem zawm:SG ZP sg 60 @zapc:=conE good Tryz.func60 (by kernel_rfl) (by kernel_rfl) (cgc zail (cgc zakh cg0)) (fun a=>by kernel_rfl)
theorem zatk:fnB ZP 27 Tryz.f27 [3]=true:=by kernel_rfl
theorem zar8:CG ZP sg @zag4:=(cgc zy8 (cgc zvx (cgc (sgP zajp) cg0)))
theorem zamb:zae ZP sg 0 Tryz.f27 @zuo 3:=zar z1r good Tryz.func27 zatk zar8 zaa (fun a=>by kernel_rfl) (by kernel_rfl) (fun _ _=>rfl)
theorem zadm:SG ZP sg 27 @z6m:=conD (loops:=zuo) good Tryz.func27 zatk (by kernel_rfl) zar8 (all_cons zamb zaa) (fun a=>by kernel_rfl)
theorem zatc:fnB ZP 16 Tryz.f16 [3]=true:=by kernel_rfl
theorem zacy:CG ZP sg @z7x:=(cgc zadm cg0)
theorem z98:zae ZP sg 0 Tryz.f16 @zou 3:=zar ztk good Tryz.func16 zatc zacy zaa (fun a=>by kernel_rfl) (by kernel_rfl) (fun _ _=>rfl)
theorem zzi:SG ZP sg 16 @zan7:=conD (loops:=zou) good Tryz.func16 zatc (by kernel_rfl) zacy (all_cons z98 zaa) (fun a=>by kernel_rfl)
theorem zatb:fnB ZP 15 Tryz.f15 [4]=true:=by kernel_rfl
theorem zacr:CG ZP sg @z7q:=cg0
theorem z91:zae ZP sg 0 Tryz.f15 @zon 4:=zar ztd good Tryz.func15 zatb zacr zaa (fun a=>by kernel_rfl) (by kernel_rfl) (fun _ _=>rfl)
theorem zze:SG ZP sg 15 @zan4:=conD (loops:=zon) good Tryz.func15 zatb (by kernel_rfl) zacr (all_cons z91 zaa) (fun a=>by kernel_rfl)
theorem zzw:SG ZP sg 32 @z47:=conE good Tryz.func32 (by kernel_rfl) (by kernel_rfl) cg0 (fun a=>by kernel_rfl)
theorem zsh:CG ZP sg @zvl:=(cgc zzw cg0)
theorem zwk:zae ZP sg 0 Tryz.f63 @zik 2:=zar zkj good Tryz.func63 znv zsh zaa (fun a=>by kernel_rfl) (by kernel_rfl) (fun _ _=>rfl)
theorem zza:SG ZP sg 63 @z35:=conD (loops:=zik) good Tryz.func63 znv (by kernel_rfl) zsh (all_cons zwk zaa) (fun a=>by kernel_rfl)
theorem zajd:SG ZP sg 31 @z5h:=conE good Tryz.func31 (by kernel_rfl) (by kernel_rfl) (cgc zzw (cgc zza cg0)) (fun a=>by kernel_rfl)
theorem z0g:SG ZP sg 119 @zapo:=conE good Tryz.func119 (by kernel_rfl) (by kernel_rfl) cg0 (fun a=>by kernel_rfl)
theorem z0d:SG ZP sg 118 @z5s:=conE good Tryz.func118 (by kernel_rfl) (by kernel_rfl) (cgc z0g cg0) (fun a=>by kernel_rfl)
theorem zsi:CG ZP sg @zvm:=(cgc z0d cg0)
theorem zwl:zae ZP sg 0 Tryz.f63 @zil 2:=zar zkk good Tryz.func63 znv zsi zaa (fun a=>by kernel_rfl) (by kernel_rfl) (fun _ _=>rfl)
theorem zzb:SG ZP sg 63 @z36:=conD (loops:=zil) good Tryz.func63 znv (by kernel_rfl) zsi (all_cons zwl zaa) (fun a=>by kernel_rfl)
theorem zv0:SG ZP sg 31 @zxo:=conE good Tryz.func31 (by kernel_rfl) (by kernel_rfl) (cgc zzb (cgc z0d cg0)) (fun a=>by kernel_rfl)
theorem zz5:SG ZP sg 120 @z5l:=conE good Tryz.func120 (by kernel_rfl) (by kernel_rfl) cg0 (fun a=>by kernel_rfl)
theorem zsn:CG ZP sg @zvr:=(cgc zz5 cg0)
theorem zwq:zae ZP sg 0 Tryz.f110 @ziu 2:=zar zkp good Tryz.func110 zef zsn zaa (fun a=>by kernel_rfl) (by kernel_rfl) (fun _ _=>rfl)
theorem zzt:SG ZP sg 110 @z4s:=conD (loops:=ziu) good Tryz.func110 zef (by kernel_rfl) zsn (all_cons zwq zaa) (fun a=>by kernel_rfl)
theorem zvy:SG ZP sg 57 @zxm:=conE good Tryz.func57 (by kernel_rfl) (by kernel_rfl) (cgc zzt (cgc zz5 cg0)) (fun a=>by kernel_rfl)
theorem zah7:SG ZP sg 66 @zan0:=conE good Tryz.func66 (by kernel_rfl) (by kernel_rfl) (cgc zv0 (cgc zvy (cgc z0g cg0))) (fun a=>by kernel_rfl)
theorem zaky:SG ZP sg 33 @z6g:=conE good Tryz.func33 (by kernel_rfl) (by kernel_rfl) (cgc zl1 (cgc zl2 (cgc zah7 (cgc zfp (cgc zz7 (cgc zzn (cgc z0h (cgc zqj (cgc zy6 cg0))))))))) (fun a=>by kernel_rfl)
theorem zalm:fnB ZP 20 Tryz.f20 [2,9]=true:=by kernel_rfl
theorem zahn:CG ZP sg @zag7:=(cgc zajd (cgc zaky cg0))
theorem zame:zae ZP sg 0 Tryz.f20 @zmo 2:=zar z1u good Tryz.func20 zalm zahn zaa (fun a=>by kernel_rfl) (by kernel_rfl) (fun _ _=>rfl)
theorem zamf:zae ZP sg 0 Tryz.f20 @zmo 9:=zar z1v good Tryz.func20 zalm zahn zaa (fun a=>by kernel_rfl) (by kernel_rfl) (fun _ _=>rfl)
theorem zasr:SG ZP sg 20 @zav4:=conD (loops:=zmo) good Tryz.func20 zalm (by kernel_rfl) zahn (all_cons zame (all_cons zamf zaa)) (fun a=>by kernel_rfl)
theorem zate:fnB ZP 18 Tryz.f18 [4]=true:=by kernel_rfl
theorem zadh:CG ZP sg @z8l:=(cgc zzj (cgc zadm cg0))
theorem zaar:zae ZP sg 0 Tryz.f18 @zpd 4:=zar zt3 good Tryz.func18 zate zadh zaa (fun a=>by kernel_rfl) (by kernel_rfl) (fun _ _=>rfl)
theorem zaix:SG ZP sg 18 @zaom:=conD (loops:=zpd) good Tryz.func18 zate (by kernel_rfl) zadh (all_cons zaar zaa) (fun a=>by kernel_rfl)
theorem zak7:SG ZP sg 10 @zaqc:=conE good Tryz.func10 (by kernel_rfl) (by kernel_rfl) (cgc zy8 (cgc zzj (cgc zze (cgc zzi (cgc zaix (cgc zasr (cgc zah3 cg0))))))) (fun a=>by kernel_rfl)
theorem z89:fnB ZP 24 Tryz.f24 [4,9,14]=true:=by kernel_rfl
theorem z8t:CG ZP sg @zahd:=cg0
theorem zamm:zae ZP sg 0 Tryz.f24 @zhm 4:=zar z15 good Tryz.func24 z89 z8t zaa (fun a=>by kernel_rfl) (by kernel_rfl) (fun _ _=>rfl)
theorem zamn:zae ZP sg 0 Tryz.f24 @zhm 9:=zar z16 good Tryz.func24 z89 z8t zaa (fun a=>by kernel_rfl) (by kernel_rfl) (fun _ _=>rfl)
theorem zaa0:zae ZP sg 0 Tryz.f24 @zhm 14:=zar zud good Tryz.func24 z89 z8t zaa (fun a=>by kernel_rfl) (by kernel_rfl) (fun _ _=>rfl)
theorem zasx:SG ZP sg 24 @zav8:=conD (loops:=zhm) good Tryz.func24 z89 (by kernel_rfl) z8t (all_cons zamm (all_cons zamn (all_cons zaa0 zaa))) (fun a=>by kernel_rfl)
theorem zqc:SG ZP sg 146 @zrs:=conE good Tryz.func146 (by kernel_rfl) (by kernel_rfl) cg0 (fun a=>by kernel_rfl)
theorem zatz:fnB ZP 88 Tryz.f88 [2]=true:=by kernel_rfl
theorem zac1:CG ZP sg @z71:=(cgc zqc cg0)
theorem zaab:zae ZP sg 0 Tryz.f88 @zox 2:=zar ztn good Tryz.func88 zatz zac1 zaa (fun a=>by kernel_rfl) (by kernel_rfl) (fun _ _=>rfl)
theorem zzl:SG ZP sg 88 @zrq:=conD (loops:=zox) good Tryz.func88 zatz (by kernel_rfl) zac1 (all_cons zaab zaa) (fun a=>by kernel_rfl)
theorem zakb:SG ZP sg 147 @z57:=conE good Tryz.func147 (by kernel_rfl) (by kernel_rfl) (cgc zqc cg0) (fun a=>by kernel_rfl)
theorem zaj8:SG ZP sg 148 @z52:=conE good Tryz.func148 (by kernel_rfl) (by kernel_rfl) cg0 (fun a=>by kernel_rfl)
theorem zat0:fnB ZP 89 Tryz.f89 [4]=true:=by kernel_rfl
theorem zadd:CG ZP sg @z8h:=(cgc zqc (cgc zakb (cgc zaj8 cg0)))
theorem zaan:zae ZP sg 0 Tryz.f89 @zo9 4:=zar ztz good Tryz.func89 zat0 zadd zaa (fun a=>by kernel_rfl) (by kernel_rfl) (fun _ _=>rfl)
theorem zait:SG ZP sg 89 @z4z:=conD (loops:=zo9) good Tryz.func89 zat0 (by kernel_rfl) zadd (all_cons zaan zaa) (fun a=>by kernel_rfl)
theorem zatn:fnB ZP 42 Tryz.f42 [4]=true:=by kernel_rfl
theorem zadc:CG ZP sg @z8g:=(cgc zzl (cgc zait cg0))
theorem zaam:zae ZP sg 0 Tryz.f42 @zo8 4:=zar zty good Tryz.func42 zatn zadc zaa (fun a=>by kernel_rfl) (by kernel_rfl) (fun _ _=>rfl)
theorem zais:SG ZP sg 42 @z4y:=conD (loops:=zo8) good Tryz.func42 zatn (by kernel_rfl) zadc (all_cons zaam zaa) (fun a=>by kernel_rfl)
theorem zato:fnB ZP 43 Tryz.f43 [4]=true:=by kernel_rfl
theorem zada:CG ZP sg @z8e:=cg0
theorem zaak:zae ZP sg 0 Tryz.f43 @zo6 4:=zar ztw good Tryz.func43 zato zada zaa (fun a=>by kernel_rfl) (by kernel_rfl) (fun _ _=>rfl)
theorem zaiq:SG ZP sg 43 @z4w:=conD (loops:=zo6) good Tryz.func43 zato (by kernel_rfl) zada (all_cons zaak zaa) (fun a=>by kernel_rfl)
theorem zajl:SG ZP sg 149 @zapb:=conE good Tryz.func149 (by kernel_rfl) (by kernel_rfl) cg0 (fun a=>by kernel_rfl)
theorem zaks:SG ZP sg 150 @zap7:=conE good Tryz.func150 (by kernel_rfl) (by kernel_rfl) cg0 (fun a=>by kernel_rfl)
theorem zak3:SG ZP sg 90 @z6k:=conE good Tryz.func90 (by kernel_rfl) (by kernel_rfl) (cgc zajl (cgc zaks cg0)) (fun a=>by kernel_rfl)
theorem z9d:fnB ZP 44 Tryz.f44 [4,12,15]=true:=by kernel_rfl
theorem z8r:CG ZP sg @zaha:=(cgc zak3 cg0)
theorem zamj:zae ZP sg 0 Tryz.f44 @zhk 4:=zar z10 good Tryz.func44 z9d z8r zaa (fun a=>by kernel_rfl) (by kernel_rfl) (fun _ _=>rfl)
theorem zuh:zae ZP sg 0 Tryz.f44 @zhk 15:=zar zua good Tryz.func44 z9d z8r zaa (fun a=>by kernel_rfl) (by kernel_rfl) (fun _ _=>rfl)
theorem zaax:zae ZP sg 0 Tryz.f44 @zhk 12:=zar zt9 good Tryz.func44 z9d z8r (all_cons zuh zaa) (fun a=>by kernel_rfl) (by kernel_rfl) (fun _ _=>rfl)
theorem zasu:SG ZP sg 44 @zagb:=conD (loops:=zhk) good Tryz.func44 z9d (by kernel_rfl) z8r (all_cons zamj (all_cons zaax (all_cons zuh zaa))) (fun a=>by kernel_rfl)
theorem zakc:SG ZP sg 91 @z58:=conE good Tryz.func91 (by kernel_rfl) (by kernel_rfl) cg0 (fun a=>by kernel_rfl)
theorem zatp:fnB ZP 45 Tryz.f45 [4]=true:=by kernel_rfl
theorem zadb:CG ZP sg @z8f:=(cgc zakc cg0)
theorem zaal:zae ZP sg 0 Tryz.f45 @zo7 4:=zar ztx good Tryz.func45 zatp zadb zaa (fun a=>by kernel_rfl) (by kernel_rfl) (fun _ _=>rfl)
theorem zair:SG ZP sg 45 @z4x:=conD (loops:=zo7) good Tryz.func45 zatp (by kernel_rfl) zadb (all_cons zaal zaa) (fun a=>by kernel_rfl)
theorem zaih:SG ZP sg 151 @zaod:=conE good Tryz.func151 (by kernel_rfl) (by kernel_rfl) cg0 (fun a=>by kernel_rfl)
theorem zakx:SG ZP sg 92 @z6f:=conE good Tryz.func92 (by kernel_rfl) (by kernel_rfl) (cgc zaih cg0) (fun a=>by kernel_rfl)
theorem zalp:fnB ZP 46 Tryz.f46 [4,9]=true:=by kernel_rfl
theorem zahp:CG ZP sg @zahe:=(cgc zakx cg0)
theorem z2n:zae ZP sg 0 Tryz.f46 @zmq 9:=zar z18 good Tryz.func46 zalp zahp zaa (fun a=>by kernel_rfl) (by kernel_rfl) (fun _ _=>rfl)
theorem zamo:zae ZP sg 0 Tryz.f46 @zmq 4:=zar z17 good Tryz.func46 zalp zahp (all_cons z2n zaa) (fun a=>by kernel_rfl) (by kernel_rfl) (fun _ _=>rfl)
theorem zasy:SG ZP sg 46 @zagd:=conD (loops:=zmq) good Tryz.func46 zalp (by kernel_rfl) zahp (all_cons zamo (all_cons z2n zaa)) (fun a=>by kernel_rfl)
theorem zalq:fnB ZP 47 Tryz.f47 [6,11]=true:=by kernel_rfl
theorem zyx:CG ZP sg @z7j:=cg0
theorem z9u:zae ZP sg 0 Tryz.f47 @zim 6:=zar zs6 good Tryz.func47 zalq zyx zaa (fun a=>by kernel_rfl) (by kernel_rfl) (fun _ _=>rfl)
theorem z2g:zae ZP sg 0 Tryz.f47 @zim 11:=zar zn4 good Tryz.func47 zalq zyx zaa (fun a=>by kernel_rfl) (by kernel_rfl) (fun _ _=>rfl)
theorem zah4:SG ZP sg 47 @z38:=conD (loops:=zim) good Tryz.func47 zalq (by kernel_rfl) zyx (all_cons z9u (all_cons z2g zaa)) (fun a=>by kernel_rfl)
theorem zat1:fnB ZP 93 Tryz.f93 [2]=true:=by kernel_rfl
theorem zadj:CG ZP sg @z8n:=cg0
theorem zaat:zae ZP sg 0 Tryz.f93 @zpf 2:=zar zt5 good Tryz.func93 zat1 zadj zaa (fun a=>by kernel_rfl) (by kernel_rfl) (fun _ _=>rfl)
theorem zai1:SG ZP sg 93 @zaop:=conD (loops:=zpf) good Tryz.func93 zat1 (by kernel_rfl) zadj (all_cons zaat zaa) (fun a=>by kernel_rfl)
theorem zqi:SG ZP sg 48 @zm0:=conE good Tryz.func48 (by kernel_rfl) (by kernel_rfl) (cgc zai1 cg0) (fun a=>by kernel_rfl)
theorem zak4:SG ZP sg 152 @z6l:=conE good Tryz.func152 (by kernel_rfl) (by kernel_rfl) cg0 (fun a=>by kernel_rfl)
theorem zak5:SG ZP sg 237 @zaqa:=conE good Tryz.func237 (by kernel_rfl) (by kernel_rfl) cg0 (fun a=>by kernel_rfl)
theorem zalb:SG ZP sg 188 @zaqg:=conE good Tryz.func188 (by kernel_rfl) (by kernel_rfl) (cgc zak5 cg0) (fun a=>by kernel_rfl)
theorem zakn:SG ZP sg 189 @zap1:=conE good Tryz.func189 (by kernel_rfl) (by kernel_rfl) cg0 (fun a=>by kernel_rfl)
theorem zak2:SG ZP sg 238 @z6j:=conE good Tryz.func238 (by kernel_rfl) (by kernel_rfl) cg0 (fun a=>by kernel_rfl)
theorem zadv:fnB ZP 190 Tryz.f190 [3]=true:=by kernel_rfl
theorem zadg:CG ZP sg @z8k:=(cgc zak2 cg0)
theorem zaaq:zae ZP sg 0 Tryz.f190 @zpc 3:=zar zt2 good Tryz.func190 zadv zadg zaa (fun a=>by kernel_rfl) (by kernel_rfl) (fun _ _=>rfl)
theorem zaiw:SG ZP sg 190 @zaol:=conD (loops:=zpc) good Tryz.func190 zadv (by kernel_rfl) zadg (all_cons zaaq zaa) (fun a=>by kernel_rfl)
theorem zale:SG ZP sg 191 @zaqj:=conE good Tryz.func191 (by kernel_rfl) (by kernel_rfl) cg0 (fun a=>by kernel_rfl)
theorem zala:SG ZP sg 192 @zaqf:=conE good Tryz.func192 (by kernel_rfl) (by kernel_rfl) cg0 (fun a=>by kernel_rfl)
theorem zaj7:SG ZP sg 124 @z5z:=conE good Tryz.func124 (by kernel_rfl) (by kernel_rfl) (cgc zalb (cgc zakn (cgc zaiw (cgc zale (cgc zala cg0))))) (fun a=>by kernel_rfl)
theorem zat2:fnB ZP 94 Tryz.f94 [5]=true:=by kernel_rfl
theorem zac9:CG ZP sg @z8d:=(cgc zaj7 (cgc zak4 cg0))
theorem zaaj:zae ZP sg 0 Tryz.f94 @zo5 5:=zar ztv good Tryz.func94 zat2 zac9 zaa (fun a=>by kernel_rfl) (by kernel_rfl) (fun _ _=>rfl)
theorem zaip:SG ZP sg 94 @z4v:=conD (loops:=zo5) good Tryz.func94 zat2 (by kernel_rfl) zac9 (all_cons zaaj zaa) (fun a=>by kernel_rfl)
theorem zatr:fnB ZP 73 Tryz.f73 [2]=true:=by kernel_rfl
theorem zacu:CG ZP sg @z7t:=cg0
theorem z94:zae ZP sg 0 Tryz.f73 @zoq 2:=zar ztg good Tryz.func73 zatr zacu zaa (fun a=>by kernel_rfl) (by kernel_rfl) (fun _ _=>rfl)
theorem zp8:SG ZP sg 73 @zmz:=conD (loops:=zoq) good Tryz.func73 zatr (by kernel_rfl) zacu (all_cons z94 zaa) (fun a=>by kernel_rfl)
theorem zalr:fnB ZP 49 Tryz.f49 [4,15]=true:=by kernel_rfl
theorem zahs:CG ZP sg @zahk:=(cgc zp8 (cgc zzl (cgc zaip cg0)))
theorem zamu:zae ZP sg 0 Tryz.f49 @zmt 4:=zar z2e good Tryz.func49 zalr zahs zaa (fun a=>by kernel_rfl) (by kernel_rfl) (fun _ _=>rfl)
theorem zaa2:zae ZP sg 0 Tryz.f49 @zmt 15:=zar zug good Tryz.func49 zalr zahs zaa (fun a=>by kernel_rfl) (by kernel_rfl) (fun _ _=>rfl)
theorem zas2:SG ZP sg 49 @zagi:=conD (loops:=zmt) good Tryz.func49 zalr (by kernel_rfl) zahs (all_cons zamu (all_cons zaa2 zaa)) (fun a=>by kernel_rfl)
theorem zaki:SG ZP sg 95 @z59:=conE good Tryz.func95 (by kernel_rfl) (by kernel_rfl) cg0 (fun a=>by kernel_rfl)
theorem zadt:fnB ZP 125 Tryz.f125 [2]=true:=by kernel_rfl
theorem zadi:CG ZP sg @z8m:=cg0
theorem zaas:zae ZP sg 0 Tryz.f125 @zpe 2:=zar zt4 good Tryz.func125 zadt zadi zaa (fun a=>by kernel_rfl) (by kernel_rfl) (fun _ _=>rfl)
theorem zai0:SG ZP sg 125 @zaoo:=conD (loops:=zpe) good Tryz.func125 zadt (by kernel_rfl) zadi (all_cons zaas zaa) (fun a=>by kernel_rfl)
theorem zaka:SG ZP sg 96 @z56:=conE good Tryz.func96 (by kernel_rfl) (by kernel_rfl) (cgc zai0 cg0) (fun a=>by kernel_rfl)
theorem zals:fnB ZP 50 Tryz.f50 [2,10]=true:=by kernel_rfl
theorem zahr:CG ZP sg @zahj:=(cgc zqi (cgc zp8 (cgc zaki (cgc zaka cg0))))
theorem zamt:zae ZP sg 0 Tryz.f50 @zms 2:=zar z2d good Tryz.func50 zals zahr zaa (fun a=>by kernel_rfl) (by kernel_rfl) (fun _ _=>rfl)
theorem zaa1:zae ZP sg 0 Tryz.f50 @zms 10:=zar zuf good Tryz.func50 zals zahr zaa (fun a=>by kernel_rfl) (by kernel_rfl) (fun _ _=>rfl)
theorem zas1:SG ZP sg 50 @zagh:=conD (loops:=zms) good Tryz.func50 zals (by kernel_rfl) zahr (all_cons zamt (all_cons zaa1 zaa)) (fun a=>by kernel_rfl)
theorem zat3:fnB ZP 97 Tryz.f97 [2]=true:=by kernel_rfl
theorem zac8:CG ZP sg @z8c:=cg0
theorem zaai:zae ZP sg 0 Tryz.f97 @zo4 2:=zar ztu good Tryz.func97 zat3 zac8 zaa (fun a=>by kernel_rfl) (by kernel_rfl) (fun _ _=>rfl)
theorem zaio:SG ZP sg 97 @z4u:=conD (loops:=zo4) good Tryz.func97 zat3 (by kernel_rfl) zac8 (all_cons zaai zaa) (fun a=>by kernel_rfl)
theorem zalt:fnB ZP 51 Tryz.f51 [2,18]=true:=by kernel_rfl
theorem zahl:CG ZP sg @zagx:=(cgc zqi (cgc zp8 (cgc zaio cg0)))
theorem zal3:zae ZP sg 0 Tryz.f51 @zmm 2:=zar z1i good Tryz.func51 zalt zahl zaa (fun a=>by kernel_rfl) (by kernel_rfl) (fun _ _=>rfl)
theorem z9m:zae ZP sg 0 Tryz.f51 @zmm 18:=zar zsx good Tryz.func51 zalt zahl zaa (fun a=>by kernel_rfl) (by kernel_rfl) (fun _ _=>rfl)
theorem zash:SG ZP sg 51 @zaf5:=conD (loops:=zmm) good Tryz.func51 zalt (by kernel_rfl) zahl (all_cons zal3 (all_cons z9m zaa)) (fun a=>by kernel_rfl)
theorem zaln:fnB ZP 25 Tryz.f25 [6,11]=true:=by kernel_rfl
theorem zy0:CG ZP sg @z7m:=(cgc zais (cgc zaiq (cgc zasu (cgc zair (cgc zasy (cgc zah4 (cgc zqi (cgc zas2 (cgc zas1 (cgc zash cg0))))))))))
theorem z9x:zae ZP sg 0 Tryz.f25 @zip 6:=zar zs9 good Tryz.func25 zaln zy0 zaa (fun a=>by kernel_rfl) (by kernel_rfl) (fun _ _=>rfl)
theorem z2j:zae ZP sg 0 Tryz.f25 @zip 11:=zar zn7 good Tryz.func25 zaln zy0 zaa (fun a=>by kernel_rfl) (by kernel_rfl) (fun _ _=>rfl)
theorem zah8:SG ZP sg 25 @zan1:=conD (loops:=zip) good Tryz.func25 zaln (by kernel_rfl) zy0 (all_cons z9x (all_cons z2j zaa)) (fun a=>by kernel_rfl)
theorem zalc:SG ZP sg 9 @zaqh:=conE good Tryz.func9 (by kernel_rfl) (by kernel_rfl) (cgc zasx (cgc zah8 cg0)) (fun a=>by kernel_rfl)
theorem zas8:fnB ZP 12 Tryz.f12 [3]=true:=by kernel_rfl
theorem zac2:CG ZP sg @z73:=cg0
theorem zaac:zae ZP sg 0 Tryz.f12 @zoy 3:=zar zto good Tryz.func12 zas8 zac2 zaa (fun a=>by kernel_rfl) (by kernel_rfl) (fun _ _=>rfl)
theorem zzm:SG ZP sg 12 @z4i:=conD (loops:=zoy) good Tryz.func12 zas8 (by kernel_rfl) zac2 (all_cons zaac zaa) (fun a=>by kernel_rfl)
theorem zatl:fnB ZP 28 Tryz.f28 [4]=true:=by kernel_rfl
theorem zacl:CG ZP sg @z7g:=(cgc zzm cg0)
theorem z9r:zae ZP sg 0 Tryz.f28 @zoh 4:=zar zs3 good Tryz.func28 zatl zacl zaa (fun a=>by kernel_rfl) (by kernel_rfl) (fun _ _=>rfl)
theorem zah1:SG ZP sg 28 @z32:=conD (loops:=zoh) good Tryz.func28 zatl (by kernel_rfl) zacl (all_cons z9r zaa) (fun a=>by kernel_rfl)
theorem zak1:SG ZP sg 29 @z6i:=conE good Tryz.func29 (by kernel_rfl) (by kernel_rfl) (cgc zzm cg0) (fun a=>by kernel_rfl)
theorem zall:fnB ZP 17 Tryz.f17 [3,10]=true:=by kernel_rfl
theorem zahq:CG ZP sg @zahi:=(cgc zah1 (cgc zak1 cg0))
theorem zui:zae ZP sg 0 Tryz.f17 @zmr 10:=zar zue good Tryz.func17 zall zahq zaa (fun a=>by kernel_rfl) (by kernel_rfl) (fun _ _=>rfl)
theorem zams:zae ZP sg 0 Tryz.f17 @zmr 3:=zar z2c good Tryz.func17 zall zahq (all_cons zui zaa) (fun a=>by kernel_rfl) (by kernel_rfl) (fun _ _=>rfl)
theorem zas0:SG ZP sg 17 @zawa:=conD (loops:=zmr) good Tryz.func17 zall (by kernel_rfl) zahq (all_cons zams (all_cons zui zaa)) (fun a=>by kernel_rfl)
theorem zajr:SG ZP sg 4 @zapj:=conE good Tryz.func4 (by kernel_rfl) (by kernel_rfl) (cgc zalc (cgc zak7 (cgc zze (cgc zzi (cgc zas0 cg0))))) (fun a=>by kernel_rfl)
end Go.Proofs.YtpaidiaknfhclaaGreatDoor
namespace Go.Proofs.YtpaidiaknfhclaaGreatDoor
open Ev
open Go (IntKind)
section
variable {α β σ X:Type}
theorem zwh {step:α→Option (α⊕β)}:∀{n m:Nat} {a:α} {b:β},n≤m→zcl step n a=some b→zcl step m a=some b:=by
 intro n
 induction n with
 |zero=>intro m a b _ h;cases h
 |succ n ih=>
  intro m a b hm h
  obtain ⟨m,rfl⟩:∃k,m=k+1:=⟨m-1,by omega⟩
  simp only[zcl]at h ⊢
  cases h1:step a with
  |none=>rw[h1]at h;cases h
  |some x=>
   rw[h1]at h
   cases x with
   |inl a'=>exact ih (by omega) h
   |inr b'=>exact h
theorem zev {step:α→Option (α⊕β)} {a:α} {b:β} (n:Nat) (hn:n≤FUEL) (h:zcl step n a=some b):zah step a=some b:=zwh hn h
def ze8 (f:Nat→X→σ→σ⊕β) (fin:σ→β):Nat→List X→σ→β
 |_,[],s=>fin s
 |i,x::l,s=>match f i x s with
  |.inl s'=>ze8 f fin (i+1) l s'
  |.inr b=>b
theorem zcz {step:α→Option (α⊕β)} (Inv:Nat→σ→Prop) (enc:Nat→σ→α) (l:List X) (f:Nat→X→σ→σ⊕β) (fin:σ→β) (hl:l.length<FUEL)
 (h0:∀s,Inv l.length s→step (enc l.length s)=some (.inr (fin s)))
 (h1:∀i x s,l[i]?=some x→Inv i s→(step (enc i s)=some (match f i x s with | .inl s'=>.inl (enc (i+1) s') | .inr b=>.inr b))∧∀s',f i x s=.inl s'→Inv (i+1) s')
 (s:σ) (hs:Inv 0 s):zah step (enc 0 s)=some (ze8 f fin 0 l s):=by
 have key:∀k i s,i+k=l.length→Inv i s→zcl step (k+1) (enc i s)=some (ze8 f fin i (l.drop i) s):=by
  intro k
  induction k with
  |zero=>
   intro i s hi hs
   have:i=l.length:=by omega
   subst this
   rw[List.drop_length]
   simp only[zcl,h0 s hs,ze8]
  |succ k ih=>
   intro i s hi hs
   have hlt:i<l.length:=by omega
   obtain ⟨e1,e2⟩:=h1 i l[i] s (List.getElem?_eq_getElem hlt) hs
   rw[List.drop_eq_getElem_cons hlt]
   rw[zcl,e1]
   simp only[ze8]
   cases hf:f i l[i] s with
   |inl s'=>simp only;exact ih (i+1) s' (by omega) (e2 s' hf)
   |inr b=>rfl
 have:=key l.length 0 s (by omega) hs
 exact zev (l.length+1) (by omega) (by simpa using this)
theorem zdf {step:α→Option (α⊕β)} (enc:Nat→σ→α) (l:List X) (f:Nat→X→σ→σ⊕β) (fin:σ→β) (hl:l.length<FUEL)
 (h0:∀s,step (enc l.length s)=some (.inr (fin s)))
 (h1:∀i x s,l[i]?=some x→step (enc i s)=some (match f i x s with | .inl s'=>.inl (enc (i+1) s') | .inr b=>.inr b))
 (s:σ):zah step (enc 0 s)=some (ze8 f fin 0 l s):=
 zcz (fun _ _=>True) enc l f fin hl (fun s _=>h0 s) (fun i x s hx _=>⟨h1 i x s hx,fun _ _=>trivial⟩) s trivial
def fIdx (p:X→Bool) (l:List X):Int:=match l.findIdx? p with|some i=>(i:Int)|none=>-1
def zcc (f:Nat→X→Int):Nat→List X→Int
 |_,[]=>0
 |i,x::l=>if f i x==0 then zcc f (i+1) l else f i x
theorem z3y {f:Nat→X→Int} {d:β} {g:Int→β}:∀{l:List X} {i:Nat},ze8 (σ:=Unit) (fun i x _=>if f i x==0 then .inl () else .inr (g (f i x))) (fun _=>d) i l ()=if zcc f i l==0 then d else g (zcc f i l):=by
 intro l
 induction l with
 |nil=>intros;rfl
 |cons x l ih=>
  intro i
  simp only[ze8,zcc]
  by_cases h:(f i x==0)=true
  ·simp only[h,if_true];exact ih
  ·have h2:¬f i x=0:=fun e=>h (by simp[e])
   simp[h2]
theorem zd5 {f:X→σ→σ} {fin:σ→β}:∀{l:List X} {i:Nat} {s:σ},ze8 (fun _ x s=>.inl (f x s)) fin i l s=fin (l.foldl (fun s x=>f x s) s):=by
 intro l
 induction l with
 |nil=>intros;rfl
 |cons x l ih=>intro i s;simp only[ze8,List.foldl_cons];exact ih
end
section
variable {α β σ X:Type} {step:α→Option (α⊕β)}
def zgw (a:α) (g:Int→β) (e:Int):Option (α⊕β):=if e==0 then some (.inl a) else some (.inr (g e))
theorem zdc (a:α) (g:Int→β) (b:Bool) (x y:Int):zgw a g (bif b then x else y)=bif b then zgw a g x else zgw a g y:=by cases b<;>rfl
theorem zd7 (enc:Nat→α) (l:List X) (f:Nat→X→Int) (d:β) (g:Int→β) (hl:l.length<1000000000) (h0:step (enc l.length)=some (.inr d))
 (h1:∀i x,l[i]?=some x→step (enc i)=zgw (enc (i+1)) g (f i x)):zah step (enc 0)=some (if zcc f 0 l==0 then d else g (zcc f 0 l)):=by
 have h:=zdf (step:=step) (fun i (_:Unit)=>enc i) l (fun i x _=>if f i x==0 then .inl () else .inr (g (f i x))) (fun _=>d) (by show l.length<18446744073709551616;omega) (fun _=>h0)
  (fun i x _ hx=>by rw[h1 i x hx];unfold zgw;split<;>rfl) ()
 rw[h,z3y]
def zeg (p:X→Bool) (g:Nat→X→β) (d:β):Nat→List X→β
 |_,[]=>d
 |i,x::l=>bif p x then g i x else zeg p g d (i+1) l
theorem zcp (enc:Nat→α) (l:List X) (p:X→Bool) (g:Nat→X→β) (d:β) (hl:l.length<1000000000) (h0:step (enc l.length)=some (.inr d))
 (h1:∀i x,l[i]?=some x→step (enc i)=bif p x then some (.inr (g i x)) else some (.inl (enc (i+1)))):zah step (enc 0)=some (zeg p g d 0 l):=by
 have h:=zdf (step:=step) (fun i (_:Unit)=>enc i) l (fun i x _=>if p x then .inr (g i x) else .inl ()) (fun _=>d) (by show l.length<18446744073709551616;omega) (fun _=>h0)
  (fun i x _ hx=>by rw[h1 i x hx];cases p x<;>rfl) ()
 rw[h]
 have key:∀(l:List X) (i:Nat),ze8 (σ:=Unit) (fun i x _=>if p x then .inr (g i x) else .inl ()) (fun _=>d) i l ()=zeg p g d i l:=by
  intro l
  induction l with
  |nil=>intro i;rfl
  |cons x l ih=>
   intro i
   simp only[ze8,zeg]
   cases p x with
   |true=>rfl
   |false=>exact ih _
 rw[key]
theorem zwa {p:X→Bool} {g:X→β} {d:β}:∀{l:List X} {i:Nat},zeg p (fun _ x=>g x) d i l=(match l.find? p with|some x=>g x|none=>d):=by
 intro l
 induction l with
 |nil=>intros;rfl
 |cons x l ih=>intro i;simp only[zeg,List.find?_cons];cases p x with|true=>rfl|false=>exact ih
theorem z01 {p:X→Bool}:∀{l:List X} {i:Nat},zeg p (fun i _=>(i:Int)) (-1) i l=(match l.findIdx? p with|some k=>((i+k:Nat):Int)|none=>-1):=by
 intro l
 induction l with
 |nil=>intros;rfl
 |cons x l ih=>
  intro i
  simp only[zeg,List.findIdx?_cons]
  cases p x with
  |true=>rfl
  |false=>
   simp only[Bool.false_eq_true,if_false,cond_false]
   rw[ih]
   cases l.findIdx? p with
   |none=>rfl
   |some k=>simp only[Option.map_some];rw[show i+1+k=i+(k+1) by omega]
theorem ze0 {p:X→Bool} {l:List X}:zeg p (fun i _=>(i:Int)) (-1) 0 l=fIdx p l:=by
 rw[z01];unfold fIdx;simp
theorem zdd {γ:Type} {p:X→Bool} {g:Nat→X→β} {d:β} (f:β→γ):∀{l:List X} {i:Nat},f (zeg p g d i l)=zeg p (fun i x=>f (g i x)) (f d) i l:=by
 intro l
 induction l with
 |nil=>intros;rfl
 |cons x l ih=>intro i;simp only[zeg];cases p x with|true=>rfl|false=>exact ih
def ze5 (p:Nat→X→Bool):Nat→List X→Bool
 |_,[]=>true
 |i,x::l=>p i x&&ze5 p (i+1) l
theorem za1 (enc:Nat→α) (l:List X) (p:Nat→X→Bool) (b d:β) (hl:l.length<1000000000) (h0:step (enc l.length)=some (.inr d))
 (h1:∀i x,l[i]?=some x→step (enc i)=bif p i x then some (.inl (enc (i+1))) else some (.inr b)):zah step (enc 0)=some (bif ze5 p 0 l then d else b):=by
 have h:=zdf (step:=step) (fun i (_:Unit)=>enc i) l (fun i x _=>if p i x then .inl () else .inr b) (fun _=>d) (by show l.length<18446744073709551616;omega) (fun _=>h0)
  (fun i x _ hx=>by rw[h1 i x hx];cases p i x<;>rfl) ()
 rw[h]
 have key:∀(l:List X) (i:Nat),ze8 (σ:=Unit) (fun i x _=>if p i x then .inl () else .inr b) (fun _=>d) i l ()=bif ze5 p i l then d else b:=by
  intro l
  induction l with
  |nil=>intro i;rfl
  |cons x l ih=>
   intro i
   simp only[ze8,ze5]
   cases p i x with
   |true=>exact ih _
   |false=>rfl
 rw[key]
theorem zbj {p:X→Bool}:∀{l:List X} {i:Nat},ze5 (fun _=>p) i l=l.all p:=by
 intro l
 induction l with
 |nil=>intros;rfl
 |cons x l ih=>intro i;simp only[ze5,List.all_cons];rw[ih]
theorem zjp (enc:Nat→σ→α) (l:List X) (f:X→σ→σ) (fin:σ→β) (hl:l.length<1000000000) (h0:∀s,step (enc l.length s)=some (.inr (fin s)))
 (h1:∀i x s,l[i]?=some x→step (enc i s)=some (.inl (enc (i+1) (f x s)))) (s:σ):zah step (enc 0 s)=some (fin (l.foldl (fun s x=>f x s) s)):=by
 have h:=zdf (step:=step) enc l (fun i x s=>.inl (f x s)) fin (by show l.length<18446744073709551616;omega) h0 (fun i x s hx=>by rw[h1 i x s hx]) s
 rw[h,zd5]
end
def zeb {X:Type} (l:List X) (i:Nat) (f:X→Bool):Bool:=match i with
 |0=>false
 |j+1=>match l[j]? with|some y=>f y|none=>false
theorem zew {n:Int} (h1 : -9223372036854775808≤n) (h2:n≤9223372036854775807):wr .i64 n=n:=by
 unfold wr;rw[IntKind.wrap_i64];omega
theorem zau {n:Nat} (h:n<9223372036854775807):wr .i64 ((n:Int)+1)=((n+1:Nat):Int):=by
 rw[zew (by omega) (by omega)];rfl
theorem zgs {j:Nat} (h:j<1000000000):wr .i64 (((j+1:Nat):Int)-1)=(j:Int):=by
 rw[show ((j+1:Nat):Int)-1=(j:Int) by omega]
 exact zew (by omega) (by omega)
theorem dpos {j:Nat}:decide ((0:Int)<((j+1:Nat):Int))=true:=by rw[decide_eq_true_eq];omega
theorem z0v:decide ((0:Int)<((0:Nat):Int))=false:=rfl
theorem zaq {α:Type} (l:List α) (i:Nat):getI l (i:Int)=l[i]?:=by
 unfold getI;simp
theorem zfk:LIM=1073741824:=rfl
theorem zlj:FUEL=18446744073709551616:=rfl
end Go.Proofs.YtpaidiaknfhclaaGreatDoor
namespace Go.Proofs.YtpaidiaknfhclaaGreatDoor
open Ev
open Go (IntKind)
theorem dlt {i n:Nat} (h:i<n):decide ((i:Int)<(n:Int))=true:=by simpa using h
theorem dge {n:Nat}:decide ((n:Int)<(n:Int))=false:=by simp
theorem k_or {α:Type} (k:Bool→α) (a b:Bool):(bif a then k true else k b)=k (a||b):=by cases a<;>rfl
theorem zb0 {α:Type} (k:Bool→α) (a b:Bool):(bif a then k b else k false)=k (a&&b):=by cases a<;>rfl
theorem zmg {α:Type} (k:Bool→α) (a b:Bool):(bif a then k a else k b)=k (a||b):=by cases a<;>rfl
theorem zce {α:Type} (c:Bool) (a b:α):(bif c then some a else some b)=some (bif c then a else b):=by cases c<;>rfl
theorem zaqn (b:UInt8):wr .i64 (b.toNat:Int)=(b.toNat:Int):=by
 have:=b.toNat_lt
 exact zew (by omega) (by omega)
def dcdI (r:List UInt8):Int×Int:=(((dcd r).1:Int),((dcd r).2:Int))
theorem z3h {s:List UInt8} {i:Nat} (hi:i<s.length) (hs:s.length<1000000000):qb9 s (i:Int)=some (dcdI (s.drop i)):=by
 obtain ⟨a,r,hr⟩:∃a r,s.drop i=a::r:=⟨s[i],s.drop (i+1),List.drop_eq_getElem_cons hi⟩
 have g:∀k,getI s ((i+k:Nat):Int)=(a::r)[k]?:=fun k=>by rw[zaq,←hr,List.getElem?_drop]
 have h0:getI s (i:Int)=some a:=g 0
 have w1:wr .i64 ((i:Int)+1)=((i+1:Nat):Int):=zau (by omega)
 have w2:wr .i64 ((i:Int)+2)=((i+2:Nat):Int):=by rw[zew (by omega) (by omega)];rfl
 have hl:s.length=i+(r.length+1):=by
  have:=congrArg List.length hr
  simp only[List.length_drop,List.length_cons]at this
  omega
 have ha:=a.toNat_lt
 unfold qb9
 rw[hr]
 unfold dcdI dcd
 have t1:decide (((i+1:Nat):Int)<((i+(r.length+1):Nat):Int))=decide (0<r.length):=by congr 1;simp only[eq_iff_iff];omega
 have t2:decide (((i+2:Nat):Int)<((i+(r.length+1):Nat):Int))=decide (1<r.length):=by congr 1;simp only[eq_iff_iff];omega
 simp -zeta only[h0,w1,w2,g 1,g 2,zaqn,k_or,zb0,hl,t1,t2]
 dsimp only
 clear hl t1 t2 g hr hi h0 w1 w2 hs
 by_cases c1:32≤a.toNat∧a.toNat<127
 ·have e1:(decide ((32:Int)≤(a.toNat:Int))&&decide ((a.toNat:Int)<127))=true:=by simp;omega
  simp only[e1,cond_true,if_pos c1];rfl
 have e1:(decide ((32:Int)≤(a.toNat:Int))&&decide ((a.toNat:Int)<127))=false:=by simp;omega
 simp only[e1,cond_false,if_neg c1]
 by_cases c2:194≤a.toNat∧a.toNat<224
 ·have e2:(decide ((194:Int)≤(a.toNat:Int))&&decide ((a.toNat:Int)<224))=true:=by simp;omega
  have e3:decide ((224:Int)≤(a.toNat:Int))=false:=by simp;omega
  simp only[e2,e3,Bool.true_and,Bool.false_and,cond_false,if_pos c2]
  rcases r with _|⟨b,r⟩
  ·rfl
  have hb:=b.toNat_lt
  have l1:decide (0<(b::r).length)=true:=by simp
  have g1:(a::b::r)[1]?=some b:=rfl
  have e4:wr .i64 ((wr .i64 ((wr .i64 ((wr .i64 ((a.toNat:Int)-192))*64))+(b.toNat:Int)))-128)=((a.toNat:Int)-192)*64+(b.toNat:Int)-128:=by
   rw[zew (n:=(a.toNat:Int)-192) (by omega) (by omega),zew (n:=((a.toNat:Int)-192)*64) (by omega) (by omega),zew (n:=((a.toNat:Int)-192)*64+(b.toNat:Int)) (by omega) (by omega),zew (by omega) (by omega)]
  simp only[l1,g1,e4,cond_true]
  by_cases cb:128≤b.toNat
  ·have b1:decide ((128:Int)≤(b.toNat:Int))=true:=by simp;omega
   simp only[b1,cond_true]
   by_cases cb2:b.toNat<192
   ·have b2:decide ((b.toNat:Int)<192)=true:=by simp;omega
    simp only[b2,g1,cond_true,Bool.cond_eq_ite,decide_eq_true_eq]
    rw[if_pos True.intro]
    split
    ·rw[if_pos (by omega)];simp only[Option.some.injEq,Prod.mk.injEq];omega
    ·rw[if_neg (by omega)];rfl
   ·have b2:decide ((b.toNat:Int)<192)=false:=by simp;omega
    simp only[b2,cond_false]
    rw[if_neg (by omega)];rfl
  ·have b1:decide ((128:Int)≤(b.toNat:Int))=false:=by simp;omega
   simp only[b1,cond_false]
   rw[if_neg (by omega)];rfl
 have e2:(decide ((194:Int)≤(a.toNat:Int))&&decide ((a.toNat:Int)<224))=false:=by simp;omega
 simp only[e2,Bool.false_and,cond_false,if_neg c2]
 by_cases c3:224≤a.toNat∧a.toNat<240
 ·have e3:(decide ((224:Int)≤(a.toNat:Int))&&decide ((a.toNat:Int)<240))=true:=by simp;omega
  simp only[e3,Bool.true_and,if_pos c3]
  rcases r with _|⟨b,_|⟨c,r⟩⟩
  ·rfl
  ·rfl
  have hb:=b.toNat_lt
  have hc:=c.toNat_lt
  have l1:decide (1<(b::c::r).length)=true:=by simp
  have g1:(a::b::c::r)[1]?=some b:=rfl
  have g2:(a::b::c::r)[2]?=some c:=rfl
  have e4:wr .i64 ((wr .i64 ((wr .i64 ((wr .i64 ((wr .i64 ((a.toNat:Int)-224))*4096))+(wr .i64 ((wr .i64 ((b.toNat:Int)-128))*64))))+(c.toNat:Int)))-128)=((a.toNat:Int)-224)*4096+((b.toNat:Int)-128)*64+(c.toNat:Int)-128:=by
   rw[zew (n:=(a.toNat:Int)-224) (by omega) (by omega),zew (n:=((a.toNat:Int)-224)*4096) (by omega) (by omega),zew (n:=(b.toNat:Int)-128) (by omega) (by omega),zew (n:=((b.toNat:Int)-128)*64) (by omega) (by omega),
    zew (n:=((a.toNat:Int)-224)*4096+((b.toNat:Int)-128)*64) (by omega) (by omega),zew (n:=((a.toNat:Int)-224)*4096+((b.toNat:Int)-128)*64+(c.toNat:Int)) (by omega) (by omega),zew (by omega) (by omega)]
  simp only[l1,g1,g2,e4,cond_true]
  by_cases cb:128≤b.toNat
  ·have b1:decide ((128:Int)≤(b.toNat:Int))=true:=by simp;omega
   simp only[b1,cond_true]
   by_cases cb2:b.toNat<192
   ·have b2:decide ((b.toNat:Int)<192)=true:=by simp;omega
    simp only[b2,cond_true]
    by_cases cc:128≤c.toNat
    ·have d1:decide ((128:Int)≤(c.toNat:Int))=true:=by simp;omega
     simp only[d1,cond_true]
     by_cases cc2:c.toNat<192
     ·have d2:decide ((c.toNat:Int)<192)=true:=by simp;omega
      simp only[d2,g1,g2,cond_true,Bool.cond_eq_ite,Bool.and_eq_true,Bool.or_eq_true,decide_eq_true_eq]
      rw[if_pos True.intro]
      split
      ·rw[if_pos (by omega)];simp only[Option.some.injEq,Prod.mk.injEq];omega
      ·rw[if_neg (by omega)];rfl
     ·have d2:decide ((c.toNat:Int)<192)=false:=by simp;omega
      simp only[d2,cond_false]
      rw[if_neg (by omega)];rfl
    ·have d1:decide ((128:Int)≤(c.toNat:Int))=false:=by simp;omega
     simp only[d1,cond_false]
     rw[if_neg (by omega)];rfl
   ·have b2:decide ((b.toNat:Int)<192)=false:=by simp;omega
    simp only[b2,cond_false]
    rw[if_neg (by omega)];rfl
  ·have b1:decide ((128:Int)≤(b.toNat:Int))=false:=by simp;omega
   simp only[b1,cond_false]
   rw[if_neg (by omega)];rfl
 ·have e3:(decide ((224:Int)≤(a.toNat:Int))&&decide ((a.toNat:Int)<240))=false:=by simp;omega
  simp only[e3,Bool.false_and,cond_false,if_neg c3];rfl
theorem zadq (l:List UInt8):(dcd l).2≤l.length:=by
 unfold dcd
 split
 ·simp
 ·rename_i a r
  split
  ·simp
  ·split
   ·split
    ·split<;>simp
    ·simp
   ·split
    ·split
     ·split<;>simp
     ·simp
    ·simp
theorem z6v (n:Nat) {s:List UInt8} {i:Nat} (hi:i<s.length):vldN (n+1) (s.drop i)=if (dcd (s.drop i)).2=0 then false else vldN n (s.drop (i+(dcd (s.drop i)).2)):=by
 have:s.drop i≠[]:=by simp;omega
 simp only[vldN,this,if_false,List.drop_drop]
theorem zae2 {s:List UInt8} (hs:s.length<1000000000):qaw s=some (vld s):=by
 have key:∀n i,s.length-i≤n→i≤s.length→zcl zk3 (n+1) (s,(i:Int),())=some (if vldN n (s.drop i) then .inl () else .inr (false,())):=by
  intro n
  induction n with
  |zero=>
   intro i h1 h2
   have:i=s.length:=by omega
   subst this
   simp only[zcl,zk3,dge,cond_false,vldN,if_true]
  |succ n ih=>
   intro i h1 h2
   rw[zcl]
   by_cases hi:i<s.length
   ·rw[z6v n hi]
    have hle:=zadq (s.drop i)
    rw[List.length_drop]at hle
    simp only[zk3,dlt hi,cond_true,z3h hi hs,dcdI]
    by_cases h0:(dcd (s.drop i)).2=0
    ·simp[h0]
    ·have hb:(((dcd (s.drop i)).2:Int)==0)=false:=by simp;omega
     have hw:wr .i64 ((i:Int)+((dcd (s.drop i)).2:Int))=((i+(dcd (s.drop i)).2:Nat):Int):=by rw[zew (by omega) (by omega)];rfl
     simp only[hb,cond_false,hw,h0,if_false]
     exact ih _ (by omega) (by omega)
   ·have:i=s.length:=by omega
    subst this
    simp[zk3,vldN]
 unfold qaw
 have:=key s.length 0 (by omega) (by omega)
 rw[show ((0:Int))=((0:Nat):Int) from rfl,zev (s.length+1) (by rw[zlj];omega) this]
 simp only[List.drop_zero]
 unfold vld
 cases vldN s.length s<;>rfl
theorem zauw {s:List UInt8} {i:Nat} (hi:i<s.length) (hs:s.length<1000000000):qe4 s (i:Int)=some ((wid (s.drop i):Nat):Int):=by
 unfold qe4 wid
 rw[z3h hi hs]
 show some (if (((dcd (s.drop i)).2:Nat):Int)<1 then (1:Int) else (((dcd (s.drop i)).2:Nat):Int))=_
 rw[Option.some.injEq]
 by_cases h:(dcd (s.drop i)).2<1
 ·rw[if_pos h,if_pos (by omega)];rfl
 ·rw[if_neg h,if_neg (by omega)]
theorem zawd {l:List UInt8} (h:l≠[]):1≤wid l∧wid l≤l.length:=by
 have:=zadq l
 have:0<l.length:=List.length_pos_iff.2 h
 unfold wid
 split<;>omega
theorem zy2 (n:Nat) {s:List UInt8} {i:Nat} (hi:i<s.length) {out:List UInt8} {gap:Bool}:clnN (n+1) (s.drop i) out gap =
 if blk (dcd (s.drop i)).1 then clnN n (s.drop (i+wid (s.drop i))) out true else clnN n (s.drop (i+wid (s.drop i))) ((if gap&&!(out==[]) then out++[32] else out)++(s.drop i).take (wid (s.drop i))) false:=by
 have:s.drop i≠[]:=by simp;omega
 rw[clnN,if_neg this,List.drop_drop]
theorem zaup {s:List UInt8} (hs:s.length<100000000):qbk s=some (cln s):=by
 have key:∀n i (out:List UInt8) (gap:Bool),s.length-i≤n→i≤s.length→out.length≤2*i→zcl zk7 (n+1) (s,out,gap,(i:Int),())=some (clnN n (s.drop i) out gap,()):=by
  intro n
  induction n with
  |zero=>
   intro i out gap h1 h2 h3
   have:i=s.length:=by omega
   subst this
   simp only[zcl,zk7,dge,cond_false,clnN]
  |succ n ih=>
   intro i out gap h1 h2 h3
   rw[zcl]
   by_cases hi:i<s.length
   ·rw[zy2 n hi]
    have hw0:=zawd (l:=s.drop i) (by simp;omega)
    rw[List.length_drop]at hw0
    obtain ⟨k,hk⟩:∃k,wid (s.drop i)=k:=⟨_,rfl⟩
    rw[hk]at hw0 ⊢
    have hw:wr .i64 ((i:Int)+(k:Int))=((i+k:Nat):Int):=by rw[zew (by omega) (by omega)];rfl
    have hb:qe1 ((dcd (s.drop i)).1:Int)=some (blk (dcd (s.drop i)).1):=by
     unfold qe1
     simp -zeta only[k_or]
     simp only[Option.some.injEq,blk]
     rw[Bool.eq_iff_iff];simp;omega
    simp only[zk7,dlt hi,cond_true,z3h hi (show s.length<1000000000 by omega),zauw hi (show s.length<1000000000 by omega),dcdI,hb,hk,hw]
    cases blk (dcd (s.drop i)).1 with
    |true=>simp only[cond_true,if_true];exact ih _ _ _ (by omega) (by omega) (by omega)
    |false=>
     have hc:(decide ((0:Int)≤(i:Int))&&(decide ((i:Int)≤((i+k:Nat):Int))&&decide (((i+k:Nat):Int)≤(s.length:Int))))=true:=by simp;omega
     have ht:(s.take (i+k)).drop i=(s.drop i).take k:=by rw[List.drop_take];congr 1;omega
     simp only[cond_false,hc,cond_true,Int.toNat_natCast,ht,Bool.false_eq_true,if_false]
     have hlen:∀o:List UInt8,o.length≤2*i+1→decide (o.length+((s.drop i).take k).length≤LIM)=true:=fun o ho=>by
      rw[zfk];simp only[List.length_take,List.length_drop,decide_eq_true_eq];omega
     cases hg:(gap&&!(out==[])) with
     |true=>
      simp only[Bool.and_eq_true,Bool.not_eq_true']at hg
      have h32:decide (out.length+([32]:List Nat).length≤LIM)=true:=by rw[zfk];simp;omega
      simp only[hg.1,hg.2,hc,ht,Int.toNat_natCast,cond_true,Bool.not_false,h32,hlen (out++[32]) (by simp;omega),if_true]
      exact ih _ _ _ (by omega) (by omega) (by simp;omega)
     |false=>
      cases gap with
      |false=>
       simp only[cond_false,hlen out (by omega),cond_true,Bool.false_eq_true,if_false]
       exact ih _ _ _ (by omega) (by omega) (by simp;omega)
      |true=>
       simp only[Bool.true_and]at hg
       simp only[cond_true,hg,cond_false,hlen out (by omega),Bool.false_eq_true,if_false]
       exact ih _ _ _ (by omega) (by omega) (by simp;omega)
   ·have:i=s.length:=by omega
    subst this
    simp[zk7,clnN]
 unfold qbk
 have:=key s.length 0 [] false (by omega) (by omega) (by simp)
 rw[show ((0:Int))=((0:Nat):Int) from rfl,zev (s.length+1) (by rw[zlj];omega) this]
 try rfl
end Go.Proofs.YtpaidiaknfhclaaGreatDoor
namespace Go.Proofs.YtpaidiaknfhclaaGreatDoor
open Ev
open Go (IntKind)
def rng (lo hi n:Int):Bool:=decide (lo≤n)&&decide (n≤hi)
theorem zafc (n:Int):qe5 n=some (rng 0 109572 n):=by
 unfold qe5
 simp -zeta only[k_or,zb0]
 try rfl
theorem zauy (n:Int):qen n=some (rng 0 109572 n):=by
 unfold qen
 simp -zeta only[k_or,zb0]
 try rfl
theorem zaut (n:Int):qd4 n=some (rng 1 9999 n):=by
 unfold qd4
 simp -zeta only[k_or,zb0]
 try rfl
theorem zaui (n lo hi:Int):qb4 n lo hi=some (rng lo hi n):=by
 unfold qb4
 simp -zeta only[k_or,zb0]
 try rfl
def zdv (l:List Charge) (i:Nat) (x:Charge):Int:=
 bif zeb l i (fun y=>decide (x.ID≤y.ID)) then 7
 else bif decide (x.ID<1)||decide (99999<x.ID)||decide (x.Patron<1)||decide (9999<x.Patron)||decide (x.Item<1)||decide (9999<x.Item)||!(rng 0 109572 x.Day) then 2
 else bif decide (x.Kind<1)||decide (3<x.Kind) then 1
 else bif decide (x.Amount<1)||decide (100000000<x.Amount)||decide (x.Paid<0)||decide (x.Amount≤x.Paid) then 2 else 0
def zez (l:List Charge):Int:=bif decide (128<(l.length:Int)) then 13 else zcc (zdv l) 0 l
theorem zw8 {l:List Charge} (hl:l.length<1000000000):zah zi5 (l,0,())=some (if zcc (zdv l) 0 l==0 then .inl () else .inr (zcc (zdv l) 0 l,())):=by
 have h:=zd7 (step:=zi5) (fun i=>(l,(i:Int),())) l (zdv l) (.inl ()) (fun e=>.inr (e,())) hl
  (by simp only[zi5,dge,cond_false])
  (fun i x hx=>by
   have hi:=(List.getElem?_eq_some_iff.1 hx).1
   have hxm:=List.mem_of_getElem? hx
   unfold zdv
   simp only[zdc]
   rcases i with _|j
   ·simp -zeta only[zi5,dlt hi,zaq,hx,k_or,zb0,z0v,cond_false,cond_true,zeb,zau (show 0<9223372036854775807 by omega),zafc]
    try rfl
   ·have hj:l[j]?=some l[j]:=List.getElem?_eq_getElem (by omega)
    simp -zeta only[zi5,dlt hi,zaq,hx,k_or,zb0,dpos,zgs (show j<1000000000 by omega),hj,cond_false,cond_true,zeb,zau (show j+1<9223372036854775807 by omega),zafc]
    rfl)
 exact h
theorem zaun {l:List Charge} (hl:l.length<1000000000):qbi l=some (zez l):=by
 unfold qbi zez
 rw[zw8 hl]
 generalize zcc (zdv l) 0 l=e
 cases decide (128<(l.length:Int)) with
 |true=>rfl
 |false=>
  by_cases h:e=0
  ·subst h;rfl
  ·have h2:(e==0)=false:=by simpa using h
   simp only[h2,Bool.false_eq_true,if_false,cond_false]
def zd2 (l:List Patron) (i:Nat) (x:Patron):Int:=
 bif decide (x.ID<1)||decide (9999<x.ID) then 2
 else bif zeb l i (fun y=>decide (x.ID≤y.ID)) then 7
 else bif decide (x.Kind<1)||decide (9<x.Kind)||decide (x.Branch<1)||decide (4<x.Branch) then 1
 else bif decide (x.Until<0)||decide (109572<x.Until) then 2
 else bif x.Name==[]||!(vld x.Name)||!(cln x.Name==x.Name) then 3
 else bif decide (200<(x.Name.length:Int)) then 4 else 0
def ze2 (l:List Patron):Int:=bif decide (32<(l.length:Int)) then 13 else zcc (zd2 l) 0 l
theorem zw9 {l:List Patron} (hl:l.length<1000000000) (hn:∀x∈l,x.Name.length<10000000):zah zi6 (l,0,())=some (if zcc (zd2 l) 0 l==0 then .inl () else .inr (zcc (zd2 l) 0 l,())):=by
 have h:=zd7 (step:=zi6) (fun i=>(l,(i:Int),())) l (zd2 l) (.inl ()) (fun e=>.inr (e,())) hl
  (by simp only[zi6,dge,cond_false])
  (fun i x hx=>by
   have hi:=(List.getElem?_eq_some_iff.1 hx).1
   have hxm:=List.mem_of_getElem? hx
   have hv:=zae2 (s:=x.Name) (by have:=hn x hxm;omega)
   have hc:=zaup (s:=x.Name) (by have:=hn x hxm;omega)
   unfold zd2
   simp only[zdc]
   rcases i with _|j
   ·simp -zeta only[zi6,dlt hi,zaq,hx,k_or,zb0,z0v,cond_false,cond_true,zeb,zau (show 0<9223372036854775807 by omega),hv,hc]
    try rfl
   ·have hj:l[j]?=some l[j]:=List.getElem?_eq_getElem (by omega)
    simp -zeta only[zi6,dlt hi,zaq,hx,k_or,zb0,dpos,zgs (show j<1000000000 by omega),hj,cond_false,cond_true,zeb,zau (show j+1<9223372036854775807 by omega),hv,hc]
    rfl)
 exact h
theorem zauo {l:List Patron} (hl:l.length<1000000000) (hn:∀x∈l,x.Name.length<10000000):qbj l=some (ze2 l):=by
 unfold qbj ze2
 rw[zw9 hl hn]
 generalize zcc (zd2 l) 0 l=e
 cases decide (32<(l.length:Int)) with
 |true=>rfl
 |false=>
  by_cases h:e=0
  ·subst h;rfl
  ·have h2:(e==0)=false:=by simpa using h
   simp only[h2,Bool.false_eq_true,if_false,cond_false]
def zgj (l:List Loan) (i:Nat) (x:Loan):Int:=
 bif zeb l i (fun y=>decide (x.Item≤y.Item)) then 7
 else bif decide (x.Item<1)||decide (9999<x.Item)||decide (x.Patron<1)||decide (9999<x.Patron)||decide (x.Out<0)||decide (109572<x.Out)||decide (x.Due<0)||decide (109572<x.Due)||decide (x.Due<x.Out)||decide (x.Renewals<0)||decide (10<x.Renewals) then 2 else 0
def zhg (l:List Loan):Int:=bif decide (64<(l.length:Int)) then 13 else zcc (zgj l) 0 l
theorem zw7 {l:List Loan} (hl:l.length<1000000000):zah zi4 (l,0,())=some (if zcc (zgj l) 0 l==0 then .inl () else .inr (zcc (zgj l) 0 l,())):=by
 have h:=zd7 (step:=zi4) (fun i=>(l,(i:Int),())) l (zgj l) (.inl ()) (fun e=>.inr (e,())) hl
  (by simp only[zi4,dge,cond_false])
  (fun i x hx=>by
   have hi:=(List.getElem?_eq_some_iff.1 hx).1
   have hxm:=List.mem_of_getElem? hx
   unfold zgj
   simp only[zdc]
   rcases i with _|j
   ·simp -zeta only[zi4,dlt hi,zaq,hx,k_or,zb0,z0v,cond_false,cond_true,zeb,zau (show 0<9223372036854775807 by omega)]
    try rfl
   ·have hj:l[j]?=some l[j]:=List.getElem?_eq_getElem (by omega)
    simp -zeta only[zi4,dlt hi,zaq,hx,k_or,zb0,dpos,zgs (show j<1000000000 by omega),hj,cond_false,cond_true,zeb,zau (show j+1<9223372036854775807 by omega)]
    rfl)
 exact h
theorem zaum {l:List Loan} (hl:l.length<1000000000):qbh l=some (zhg l):=by
 unfold qbh zhg
 rw[zw7 hl]
 generalize zcc (zgj l) 0 l=e
 cases decide (64<(l.length:Int)) with
 |true=>rfl
 |false=>
  by_cases h:e=0
  ·subst h;rfl
  ·have h2:(e==0)=false:=by simpa using h
   simp only[h2,Bool.false_eq_true,if_false,cond_false]
def zb9 (h:Hold):Int:=
 bif decide (h.ID<1)||decide (99999<h.ID)||!(rng 1 9999 h.Patron)||!(rng 1 9999 h.Record)||!(h.Item==0)&&!(rng 1 9999 h.Item)||decide (h.Pickup<1)||decide (4<h.Pickup)||!(rng 0 109572 h.Placed)||!(h.Got==0)&&!(rng 1 9999 h.Got)||!(rng 0 109572 h.Until)||!(rng 0 109572 h.Asleep)||decide (h.Rank<0)||decide (9<h.Rank) then 2
 else bif decide (h.State<1)||decide (3<h.State) then 1
 else bif !((decide (0<h.Got))==(!(h.State==1)))||!((decide (0<h.Until))==(h.State==3)) then 12 else 0
theorem zafe (h:Hold):qey h=some (zb9 h):=by
 unfold qey zb9
 simp -zeta only[k_or,zb0,zaut,zauy,←zce]
 try rfl
def zeo (l:List Hold) (i:Nat) (x:Hold):Int:=
 bif zeb l i (fun y=>decide (x.ID≤y.ID)) then 7 else bif !(zb9 x==0) then zb9 x else 0
theorem z3l {l:List Hold} (hl:l.length<1000000000):zah zrf (l,0,())=some (if zcc (zeo l) 0 l==0 then .inl (l,()) else .inr (zcc (zeo l) 0 l,())):=by
 have h:=zd7 (step:=zrf) (fun i=>(l,(i:Int),())) l (zeo l) (.inl (l,())) (fun e=>.inr (e,())) hl
  (by simp only[zrf,dge,cond_false])
  (fun i x hx=>by
   have hi:=(List.getElem?_eq_some_iff.1 hx).1
   have hxm:=List.mem_of_getElem? hx
   have hs:∀(a:List Hold×Int×Unit) (g:Int→((List Hold×Unit)⊕(Int×Unit))),(bif !(zb9 x==0) then zgw a g (zb9 x) else zgw a g 0)=bif !(zb9 x==0) then some (.inr (g (zb9 x))) else some (.inl a):=fun a g=>by
    unfold zgw
    cases zb9 x==0<;>rfl
   unfold zeo
   simp only[zdc,hs]
   rcases i with _|j
   ·simp -zeta only[zrf,dlt hi,zaq,hx,k_or,zb0,z0v,cond_false,cond_true,zeb,zau (show 0<9223372036854775807 by omega),zafe]
    try rfl
   ·have hj:l[j]?=some l[j]:=List.getElem?_eq_getElem (by omega)
    simp -zeta only[zrf,dlt hi,zaq,hx,k_or,zb0,dpos,zgs (show j<1000000000 by omega),hj,cond_false,cond_true,zeb,zau (show j+1<9223372036854775807 by omega),zafe]
    rfl)
 exact h
def zd0 (x y:Hold):Bool:=x.Patron==y.Patron&&x.Record==y.Record||decide (0<x.Got)&&x.Got==y.Got
theorem zxc {l:List Hold} {i:Nat} {x:Hold} (hl:l.length<1000000000) (hx:l[i]?=some x):zah zi9 (l,(i:Int),0,())=some (bif (l.take i).all (fun y=>!(zd0 x y)) then .inl (l,(i:Int),()) else .inr (7,())):=by
 have hi:=(List.getElem?_eq_some_iff.1 hx).1
 have h:=za1 (step:=zi9) (fun k=>(l,(i:Int),(k:Int),())) (l.take i) (fun _ y=>!(zd0 x y)) (.inr (7,())) (.inl (l,(i:Int),())) (by rw[List.length_take];omega)
  (by rw[List.length_take,Nat.min_eq_left (by omega)];simp only[zi9,dge,cond_false])
  (fun k y hy=>by
   have hk:=(List.getElem?_eq_some_iff.1 hy).1
   rw[List.length_take]at hk
   have hy2:l[k]?=some y:=by rw[←hy,List.getElem?_take_of_lt (by omega)]
   simp -zeta only[zi9,dlt (show k<i by omega),zaq,hx,hy2,k_or,zb0,cond_true,zau (show k<9223372036854775807 by omega)]
   dsimp only
   unfold zd0
   cases (x.Patron==y.Patron&&x.Record==y.Record||decide (0<x.Got)&&x.Got==y.Got)<;>rfl)
 rw[show zah zi9 (l,(i:Int),0,())=_ from h,zbj]
def zgh (l:List Hold):Bool:=ze5 (fun i x=>(l.take i).all (fun y=>!(zd0 x y))) 0 l
theorem zxb {l:List Hold} (hl:l.length<1000000000):zah zlc (l,0,())=some (bif zgh l then .inl () else .inr (7,())):=by
 have h:=za1 (step:=zlc) (fun i=>(l,(i:Int),())) l (fun i x=>(l.take i).all (fun y=>!(zd0 x y))) (.inr (7,())) (.inl ()) hl
  (by simp only[zlc,dge,cond_false])
  (fun i x hx=>by
   have hi:=(List.getElem?_eq_some_iff.1 hx).1
   simp only[zlc,dlt hi,cond_true,zxc hl hx]
   cases (l.take i).all (fun y=>!(zd0 x y)) with
   |true=>simp only[cond_true,zau (show i<9223372036854775807 by omega)]
   |false=>rfl)
 exact h
def zhe (l:List Hold):Int:=bif decide (64<(l.length:Int)) then 13 else bif zcc (zeo l) 0 l==0 then (bif zgh l then 0 else 7) else zcc (zeo l) 0 l
theorem zawq {l:List Hold} (hl:l.length<1000000000):qo l=some (zhe l):=by
 unfold qo zhe
 rw[z3l hl]
 cases decide (64<(l.length:Int)) with
 |true=>rfl
 |false=>
  by_cases h:zcc (zeo l) 0 l=0
  ·simp only[h,beq_self_eq_true,if_true,cond_false,cond_true,zxb hl]
   cases zgh l<;>rfl
  ·have:(zcc (zeo l) 0 l==0)=false:=by simpa using h
   simp only[this,Bool.false_eq_true,if_false,cond_false]
def zu3 (r:Rule):Bool:=rng 0 9 r.Patron&&rng 0 9 r.Item&&rng 0 4 r.Branch&&(rng 0 365 r.Days&&rng 0 10 r.Renewals&&rng 0 99 r.Loans)&&(rng 0 1000 r.Fine&&rng 0 30 r.Grace&&rng 0 100000000 r.MaxFine)&&rng 1 60 r.Shelf&&rng 1 60 r.Recall&&rng 0 109572 r.Fixed&&rng 0 9 r.Rank
theorem zauz (r:Rule):qes r=some (zu3 r):=by
 unfold qes zu3
 simp -zeta only[k_or,zb0,zaui]
 try rfl
def zf7 (x y:Rule):Bool:=x.Patron==y.Patron&&x.Item==y.Item&&x.Branch==y.Branch
def zgq (l:List Rule) (i:Nat) (x:Rule):Int:=bif !(zu3 x) then 2 else bif (l.take i).all (fun y=>!(zf7 y x)) then 0 else 7
theorem z3n {l:List Rule} {i:Nat} {x:Rule} (hl:l.length<1000000000) (hx:l[i]?=some x):zah zrg (l,(i:Int),0,())=some (bif (l.take i).all (fun y=>!(zf7 y x)) then .inl (l,(i:Int),()) else .inr (7,())):=by
 have hi:=(List.getElem?_eq_some_iff.1 hx).1
 have h:=za1 (step:=zrg) (fun k=>(l,(i:Int),(k:Int),())) (l.take i) (fun _ y=>!(zf7 y x)) (.inr (7,())) (.inl (l,(i:Int),())) (by rw[List.length_take];omega)
  (by rw[List.length_take,Nat.min_eq_left (by omega)];simp only[zrg,dge,cond_false])
  (fun k y hy=>by
   have hk:=(List.getElem?_eq_some_iff.1 hy).1
   rw[List.length_take]at hk
   have hy2:l[k]?=some y:=by rw[←hy,List.getElem?_take_of_lt (by omega)]
   simp -zeta only[zrg,dlt (show k<i by omega),zaq,hx,hy2,k_or,zb0,cond_true,zau (show k<9223372036854775807 by omega)]
   dsimp only
   unfold zf7
   cases (y.Patron==x.Patron&&y.Item==x.Item&&y.Branch==x.Branch)<;>rfl)
 rw[show zah zrg (l,(i:Int),0,())=_ from h,zbj]
theorem z3m {l:List Rule} (hl:l.length<1000000000):zah zxf (l,0,())=some (if zcc (zgq l) 0 l==0 then .inl () else .inr (zcc (zgq l) 0 l,())):=by
 have h:=zd7 (step:=zxf) (fun i=>(l,(i:Int),())) l (zgq l) (.inl ()) (fun e=>.inr (e,())) hl
  (by simp only[zxf,dge,cond_false])
  (fun i x hx=>by
   have hi:=(List.getElem?_eq_some_iff.1 hx).1
   unfold zgq
   simp only[zdc,zxf,dlt hi,zaq,hx,cond_true,zauz,z3n hl hx]
   cases zu3 x with
   |false=>rfl
   |true=>
    simp only[Bool.not_true,cond_false]
    cases (l.take i).all (fun y=>!(zf7 y x)) with
    |true=>simp only[cond_true,zau (show i<9223372036854775807 by omega)];rfl
    |false=>rfl)
 exact h
def zho (l:List Rule):Int:=bif decide (32<(l.length:Int)) then 13 else zcc (zgq l) 0 l
theorem zaws {l:List Rule} (hl:l.length<1000000000):qs l=some (zho l):=by
 unfold qs zho
 rw[z3m hl]
 generalize zcc (zgq l) 0 l=e
 cases decide (32<(l.length:Int)) with
 |true=>rfl
 |false=>
  by_cases h:e=0
  ·subst h;rfl
  ·have h2:(e==0)=false:=by simpa using h
   simp only[h2,Bool.false_eq_true,if_false,cond_false]
def incr (l:List Int):Bool:=ze5 (fun i x=>!(zeb l i (fun y=>decide (x≤y)))) 0 l
theorem zpy {X:Type} {p:Nat→X→Bool}:∀{l:List X} {i:Nat},ze5 p (i+1) l=ze5 (fun i=>p (i+1)) i l:=by
 intro l
 induction l with
 |nil=>intros;rfl
 |cons x l ih=>intro i;simp only[ze5];rw[ih]
theorem z1c (l:List Int):incr l=ze5 (fun i x=>!(zeb l (i+1) (fun y=>decide (x≤y)))) 0 l.tail:=by
 cases l with
 |nil=>rfl
 |cons x l=>
  unfold incr
  simp only[ze5,List.tail_cons]
  rw[zpy]
  try rfl
def zcd (c:Calendar):Int:=
 bif decide (c.Week<0)||decide (126<c.Week) then 1
 else bif decide (64<(c.Closed.length:Int)) then 13
 else bif c.Closed.all (fun x=>!(decide (x<0)||decide (109572<x))) then (bif incr c.Closed then 0 else 7) else 2
theorem zw5 {c:Calendar} (hl:c.Closed.length<1000000000):zah zi1 (0,c,())=some (bif c.Closed.all (fun x=>!(decide (x<0)||decide (109572<x))) then .inl (c,()) else .inr (2,())):=by
 have h:=za1 (step:=zi1) (fun i=>((i:Int),c,())) c.Closed (fun _ x=>!(decide (x<0)||decide (109572<x))) (.inr (2,())) (.inl (c,())) hl
  (by simp only[zi1,dge,cond_false])
  (fun i x hx=>by
   have hi:=(List.getElem?_eq_some_iff.1 hx).1
   simp -zeta only[zi1,dlt hi,zaq,hx,k_or,zb0,cond_true,zau (show i<9223372036854775807 by omega)]
   cases (decide (x<0)||decide (109572<x))<;>rfl)
 rw[show zah zi1 (0,c,())=_ from h,zbj]
theorem zrc {c:Calendar} (hl:c.Closed.length<1000000000):zah zfg (1,c,())=some (bif incr c.Closed then .inl () else .inr (7,())):=by
 have h:=za1 (step:=zfg) (fun i=>(((i+1:Nat):Int),c,())) c.Closed.tail (fun i x=>!(zeb c.Closed (i+1) (fun y=>decide (x≤y)))) (.inr (7,())) (.inl ()) (by rw[List.length_tail];omega)
  (by
   rw[List.length_tail]
   have:decide (((c.Closed.length-1+1:Nat):Int)<(c.Closed.length:Int))=false:=by rw[decide_eq_false_iff_not];omega
   simp only[zfg,this,cond_false])
  (fun i x hx=>by
   rw[List.getElem?_tail]at hx
   have hi:=(List.getElem?_eq_some_iff.1 hx).1
   have hj:c.Closed[i]?=some c.Closed[i]:=List.getElem?_eq_getElem (by omega)
   simp -zeta only[zfg,dlt hi,zaq,hx,cond_true,zgs (show i<1000000000 by omega),hj,zeb,zau (show i+1<9223372036854775807 by omega)]
   cases decide (x≤c.Closed[i])<;>rfl)
 rw[show zah zfg (1,c,())=_ from h,z1c]
theorem zux {c:Calendar} (hl:c.Closed.length<1000000000):qaa c=some (zcd c):=by
 unfold qaa zcd
 simp -zeta only[k_or]
 dsimp only
 rw[zw5 hl]
 cases (decide (c.Week<0)||decide (126<c.Week)) with
 |true=>rfl
 |false=>
  cases decide (64<(c.Closed.length:Int)) with
  |true=>rfl
  |false=>
   cases c.Closed.all (fun x=>!(decide (x<0)||decide (109572<x))) with
   |false=>rfl
   |true=>
    simp only[cond_false,cond_true,zrc hl]
    cases incr c.Closed<;>rfl
end Go.Proofs.YtpaidiaknfhclaaGreatDoor
namespace Go.Proofs.YtpaidiaknfhclaaGreatDoor
open Ev
open Go (IntKind)
def zau2 (state:Int):Bool:=(state==4||state==5||state==8||state==9||state==10)
theorem zi7 (state:Int):qfa state=some (zau2 state):=by
 unfold qfa
 try simp -zeta only[k_or,zb0,zmg,zce,cond_true,cond_false]
 try dsimp only
 try simp only[zce]
 try rfl
def zau3 (c:Custody):Bool:=(bif decide (c.State<1)||decide (12<c.State)||decide (c.Branch<1)||decide (4<c.Branch) then false
 else
  bif c.State==6 then
   decide (0≤c.Who)&&decide (c.Who≤9999)&&decide (1≤c.To)&&decide (c.To≤4)&&!c.To==c.Branch
  else
   bif !c.To==0 then false
   else bif zau2 c.State then decide (1≤c.Who)&&decide (c.Who≤9999) else c.Who==0)
theorem zi8 (c:Custody):qfg c=some (zau3 c):=by
 unfold qfg
 try simp -zeta only[k_or,zb0,zmg,zce,cond_true,cond_false,zi7]
 try dsimp only
 try simp only[zce]
 try rfl
def zaux (m:Move):Bool:=(decide (0≤m.Day)&&decide (m.Day≤109572)&&decide (1≤m.Item)&&decide (m.Item≤9999)&&
 decide (1≤m.Kind)&&
 decide (m.Kind≤15)&&
 decide (1≤m.Branch)&&
 decide (m.Branch≤4)&&
 decide (0≤m.Who)&&
 decide (m.Who≤9999))
theorem zlb (m:Move):qeg m=some (zaux m):=by
 unfold qeg
 try simp -zeta only[k_or,zb0,zmg,zce,cond_true,cond_false,zi7,zi8]
 try dsimp only
 try simp only[zce]
 try rfl
def z3i (kind:Int):(List Int):=(bif kind==1 then [1]
 else
  bif kind==2 then [2,5]
  else
   bif kind==3 then [3,5]
   else
    bif kind==4 then [4,8,9,10]
    else
     bif kind==5||kind==8 then [2,3]
     else
      bif kind==6 then [2,3,5]
      else
       bif kind==7 then [6]
       else
        bif kind==9 then [7]
        else
         bif kind==10 then [3]
         else
          bif kind==11 then [4]
          else
           bif kind==12 then [4,9]
           else
            bif kind==13 then [2,3,5,6,7]
            else bif kind==14 then [11] else bif kind==15 then [1,2,3,11,10] else [])
theorem zpk (kind:Int):qex kind=some (z3i kind):=by
 unfold qex
 try simp -zeta only[k_or,zb0,zmg,zce,cond_true,cond_false,zi7,zi8,zlb]
 try dsimp only
 try simp only[zce]
 try rfl
def zgn (kind:Int):Int:=(bif kind==1||(kind==4||(kind==7||(kind==9||kind==14))) then 2
 else
  bif kind==2 then 3
  else
   bif kind==3 then 4
   else
    bif kind==5 then 5
    else
     bif kind==6 then 6
     else
      bif kind==8 then 7
      else
       bif kind==10 then 8
       else bif kind==11 then 9 else bif kind==12 then 10 else bif kind==13 then 11 else 12)
theorem zuy (kind:Int):qff kind=some (zgn kind):=by
 unfold qff
 try simp -zeta only[k_or,zb0,zmg,zce,cond_true,cond_false,zi7,zi8,zlb,zpk]
 try dsimp only
 try simp only[zce]
 try rfl
def zau5 (c:Custody) (m:Move):Bool:=(bif m.Kind==1||(m.Kind==4||(m.Kind==9||m.Kind==14)) then m.Who==0
 else
  bif m.Kind==7 then m.Who==0&&m.Branch==c.To
  else
   bif m.Kind==6 then !m.Branch==c.Branch
   else
    bif m.Kind==3||(m.Kind==5||m.Kind==10) then m.Branch==c.Branch&&decide (1≤m.Who)
    else m.Branch==c.Branch&&m.Who==0)
theorem z3k (c:Custody) (m:Move):qfj c m=some (zau5 c m):=by
 unfold qfj
 try simp -zeta only[k_or,zb0,zmg,zce,cond_true,cond_false,zi7,zi8,zlb,zpk,zuy]
 try dsimp only
 try simp only[zce]
 try rfl
def z3j (branch:Int):Custody:={State:=1,Branch:=branch,Who:=0,To:=0}
theorem zaff (branch:Int):qez branch=some (z3j branch):=by
 unfold qez
 try simp -zeta only[k_or,zb0,zmg,zce,cond_true,cond_false,zi7,zi8,zlb,zpk,zuy,z3k]
 try dsimp only
 try simp only[zce]
 try rfl
def zre (u:Custody):Bool:=(u.State==4||u.State==9||u.State==10)
theorem zafd (u:Custody):qeb u=some (zre u):=by
 unfold qeb
 try simp -zeta only[k_or,zb0,zmg,zce,cond_true,cond_false,zi7,zi8,zlb,zpk,zuy,z3k,zaff]
 try dsimp only
 try simp only[zce]
 try rfl
end Go.Proofs.YtpaidiaknfhclaaGreatDoor
namespace Go.Proofs.YtpaidiaknfhclaaGreatDoor
open Ev
open Go (IntKind)
theorem hasX {X:Type} {p:X→Bool}:∀{l:List X} {i:Nat},zeg p (fun _ _=>true) false i l=l.any p:=by
 intro l
 induction l with
 |nil=>intros;rfl
 |cons x l ih=>intro i;simp only[zeg,List.any_cons];cases p x with|true=>rfl|false=>rw[cond_false,ih,Bool.false_or]
def zye (state kind:Int):Bool:=(z3i kind).any (fun x=>x==state)
theorem z8z {X:Type} {b:Bool} {x y:List X} {n:Nat} (hx:x.length<n) (hy:y.length<n):(bif b then x else y).length<n:=by cases b<;>assumption
theorem zxr (kind:Int):(z3i kind).length<10:=by
 unfold z3i
 repeat' first|apply z8z|decide
theorem zauq (state kind:Int):qbo state kind=some (zye state kind):=by
 unfold qbo zye
 rw[zpk]
 have hl:=zxr kind
 generalize z3i kind=l at hl ⊢
 have h:=zcp (step:=zk8) (fun i=>(state,l,(i:Int),())) l (fun x=>x==state) (fun _ _=>(.inr (true,()):Unit⊕(Bool×Unit))) (.inl ()) (by omega)
  (by simp only[zk8,dge,cond_false])
  (fun i x hx=>by
   have hi:=(List.getElem?_eq_some_iff.1 hx).1
   simp only[zk8,dlt hi,zaq,hx,cond_true,zau (show i<9223372036854775807 by omega)])
 dsimp only
 rw[show zah zk8 (state,l,0,())=_ from h,←hasX (i:=0)]
 have key:∀(l:List Int) (i:Nat),(match some (zeg (fun x=>x==state) (fun _ _=>(.inr (true,()):Unit⊕(Bool×Unit))) (.inl ()) i l) with|some (.inl _)=>some false|some (.inr (v,_))=>some v|none=>none)=some (zeg (fun x=>x==state) (fun _ _=>true) false i l):=by
  intro l
  induction l with
  |nil=>intro i;rfl
  |cons x l ih=>intro i;simp only[zeg];cases x==state with|true=>rfl|false=>exact ih _
 exact key l 0
def zdr (c:Custody) (m:Move):Custody×Int:=
 bif !(zau3 c)||!(zaux m) then (⟨0,0,0,0⟩,1)
 else bif !(zye c.State m.Kind) then (⟨0,0,0,0⟩,12)
 else bif m.Kind==3&&c.State==5&&!(m.Who==c.Who) then (⟨0,0,0,0⟩,16)
 else bif !(zau5 c m) then (⟨0,0,0,0⟩,1)
 else bif zgn m.Kind==2 then (⟨zgn m.Kind,m.Branch,0,0⟩,0)
 else bif zgn m.Kind==4||(zgn m.Kind==5||zgn m.Kind==8) then (⟨zgn m.Kind,c.Branch,m.Who,0⟩,0)
 else bif zgn m.Kind==6 then (⟨zgn m.Kind,c.Branch,m.Who,m.Branch⟩,0)
 else bif zgn m.Kind==9||zgn m.Kind==10 then (⟨zgn m.Kind,c.Branch,c.Who,0⟩,0)
 else (⟨zgn m.Kind,c.Branch,0,0⟩,0)
theorem zauu (c:Custody) (m:Move):qe0 c m=some (zdr c m):=by
 unfold qe0 zdr
 simp -zeta only[k_or,zb0,zmg,zi8,zlb,zauq,z3k,zuy]
 dsimp only
 simp only[zce]
def zgo:Nat→List Move→Int→Custody→(Custody⊕(Int×Int))
 |_,[],_,c=>.inl c
 |i,x::l,item,c=>bif x.Item==item then (bif (zdr c x).2==0 then zgo (i+1) l item (zdr c x).1 else .inr ((i:Int),(zdr c x).2)) else zgo (i+1) l item c
def zes (branch:Int) (l:List Move) (item:Int):Custody×Int×Int:=
 bif decide (branch<1)||decide (4<branch) then (⟨0,0,0,0⟩,-1,1)
 else match zgo 0 l item (z3j branch) with
  |.inl c=>(c,-1,0)
  |.inr (i,e)=>(⟨0,0,0,0⟩,i,e)
theorem zro {β:Type} (item:Int) (fin:Custody→β) (out:Int×Int→β):∀(l:List Move) (i:Nat) (c:Custody),
 ze8 (fun i x c=>bif x.Item==item then (bif (zdr c x).2==0 then .inl (zdr c x).1 else .inr (out ((i:Int),(zdr c x).2))) else .inl c) fin i l c=(match zgo i l item c with | .inl c=>fin c | .inr p=>out p):=by
 intro l
 induction l with
 |nil=>intros;rfl
 |cons x l ih=>
  intro i c
  simp only[ze8,zgo]
  cases x.Item==item with
  |false=>exact ih _ _
  |true=>
   simp only[cond_true]
   cases (zdr c x).2==0 with
   |true=>exact ih _ _
   |false=>rfl
theorem zaul {branch:Int} {l:List Move} {item:Int} (hl:l.length<1000000000):qbg branch l item=some (zes branch l item):=by
 unfold qbg zes
 simp -zeta only[k_or,zaff]
 dsimp only
 have h:=zdf (step:=zk6) (fun i c=>(l,item,(i:Int),(⟨0,0,0,0⟩:Custody),c,())) l
  (fun i x c=>bif x.Item==item then (bif (zdr c x).2==0 then .inl (zdr c x).1 else .inr (.inr ((i:Int),(zdr c x).2,(⟨0,0,0,0⟩:Custody),()))) else .inl c)
  (fun c=>.inl (⟨0,0,0,0⟩,c,())) (by show l.length<18446744073709551616;omega) (fun c=>by simp only[zk6,dge,cond_false])
  (fun i x c hx=>by
   have hi:=(List.getElem?_eq_some_iff.1 hx).1
   simp only[zk6,dlt hi,zaq,hx,cond_true,zauu,zau (show i<9223372036854775807 by omega)]
   cases x.Item==item with
   |false=>rfl
   |true=>
    simp only[Bool.not_true,cond_false,cond_true]
    obtain ⟨d,e⟩:=zdr c x
    cases he:e==0 with
    |true=>rfl
    |false=>rfl) (z3j branch)
 rw[zro item (fun c=>(.inl (⟨0,0,0,0⟩,c,()):(Custody×Custody×Unit)⊕(Int×Int×Custody×Unit))) (fun p=>.inr (p.1,p.2,(⟨0,0,0,0⟩:Custody),()))]at h
 rw[show zah zk6 (l,item,0,(⟨0,0,0,0⟩:Custody),z3j branch,())=_ from h]
 cases (decide (branch<1)||decide (4<branch)) with
 |true=>rfl
 |false=>
  simp only[cond_false]
  cases zgo 0 l item (z3j branch) with
  |inl c=>rfl
  |inr p=>rfl
end Go.Proofs.YtpaidiaknfhclaaGreatDoor
namespace Go.Proofs.YtpaidiaknfhclaaGreatDoor
open Ev
open Go (IntKind)
theorem zgf {X:Type} (p:X→Bool) (l:List X):(fIdx p l = -1∧l.find? p=none)∨∃(i:Nat) (x:X),fIdx p l=(i:Int)∧l[i]?=some x∧p x=true∧l.find? p=some x:=by
 unfold fIdx
 induction l with
 |nil=>exact .inl ⟨rfl,rfl⟩
 |cons y l ih=>
  simp only[List.findIdx?_cons,List.find?_cons]
  cases hp:p y with
  |true=>exact .inr ⟨0,y,rfl,rfl,hp,rfl⟩
  |false=>
   simp only[Bool.false_eq_true,if_false]
   rcases ih with ⟨h1,h2⟩|⟨i,x,h1,h2,h3,h4⟩
   ·left
    refine ⟨?_,h2⟩
    cases hf:l.findIdx? p with
    |none=>rfl
    |some k=>rw[hf]at h1;simp only at h1;omega
   ·right
    refine ⟨i+1,x,?_,by simpa using h2,h3,h4⟩
    cases hf:l.findIdx? p with
    |none=>rw[hf]at h1;simp only at h1;omega
    |some k=>rw[hf]at h1;simp only[Option.map_some]at h1 ⊢;omega
theorem z0u:decide ((-1:Int)<0)=true:=rfl
theorem z0t {i:Nat}:decide ((i:Int)<0)=false:=by rw[decide_eq_false_iff_not];omega
def getP (l:List Patron) (id:Int):Patron×Bool:=match l.find? (fun p=>p.ID==id) with|some p=>(p,true)|none=>(⟨0,0,0,0,false,[]⟩,false)
def zwb (l:List Loan) (item:Int):Loan×Bool:=match l.find? (fun n=>n.Item==item) with|some n=>(n,true)|none=>(⟨0,0,0,0,0,false⟩,false)
def z27:Hold:=⟨0,0,0,0,0,0,0,0,0,0,0⟩
def zgc (c:Circ) (item:Int):Hold×Bool:=match c.Holds.find? (fun h=>h.Got==item) with|some h=>(h,true)|none=>(z27,false)
theorem zaug {c:Circ} {item:Int} (hl:c.Items.length<1000000000):qan c item=some (fIdx (fun x=>x.ID==item) c.Items):=by
 unfold qan
 have h:=zcp (step:=zk1) (fun i=>(item,(i:Int),c,())) c.Items (fun x=>x.ID==item) (fun i _=>(.inr ((i:Int),()):Unit⊕(Int×Unit))) (.inl ()) hl
  (by simp only[zk1,dge,cond_false])
  (fun i x hx=>by
   have hi:=(List.getElem?_eq_some_iff.1 hx).1
   simp only[zk1,dlt hi,zaq,hx,cond_true,zau (show i<9223372036854775807 by omega)])
 rw[show zah zk1 (item,0,c,())=_ from h,←ze0]
 have:=zdd (p:=fun x:Item=>x.ID==item) (g:=fun i _=>(.inr ((i:Int),()):Unit⊕(Int×Unit))) (d:=.inl ()) (fun z=>match (some z:Option (Unit⊕(Int×Unit))) with|some (.inl _)=>some (-1)|some (.inr (v,_))=>some v|none=>none) (l:=c.Items) (i:=0)
 exact this.trans ((zdd (p:=fun x:Item=>x.ID==item) (g:=fun i _=>(i:Int)) (d:=-1) (fun z=>some z) (l:=c.Items) (i:=0)).symm)
theorem zi2 {c:Circ} {item:Int} (hl:c.Items.length<1000000000):(qan c item=some (-1)∧c.Items.find? (fun x=>x.ID==item)=none)∨
 ∃(i:Nat) (x:Item),qan c item=some (i:Int)∧c.Items[i]?=some x∧x.ID=item∧c.Items.find? (fun x=>x.ID==item)=some x:=by
 rw[zaug hl]
 rcases zgf (fun x:Item=>x.ID==item) c.Items with ⟨h1,h2⟩|⟨i,x,h1,h2,h3,h4⟩
 ·exact .inl ⟨by rw[h1],h2⟩
 ·exact .inr ⟨i,x,by rw[h1],h2,by simpa using h3,h4⟩
theorem zaus {l:List Patron} {id:Int} (hl:l.length<1000000000):qbt l id=some (fIdx (fun x=>x.ID==id) l):=by
 unfold qbt
 have h:=zcp (step:=zla) (fun i=>(l,id,(i:Int),())) l (fun x=>x.ID==id) (fun i _=>(.inr ((i:Int),()):Unit⊕(Int×Unit))) (.inl ()) hl
  (by simp only[zla,dge,cond_false])
  (fun i x hx=>by
   have hi:=(List.getElem?_eq_some_iff.1 hx).1
   simp only[zla,dlt hi,zaq,hx,cond_true,zau (show i<9223372036854775807 by omega)])
 rw[show zah zla (l,id,0,())=_ from h,←ze0]
 have:=zdd (p:=fun x:Patron=>x.ID==id) (g:=fun i _=>(.inr ((i:Int),()):Unit⊕(Int×Unit))) (d:=.inl ()) (fun z=>match (some z:Option (Unit⊕(Int×Unit))) with|some (.inl _)=>some (-1)|some (.inr (v,_))=>some v|none=>none) (l:=l) (i:=0)
 exact this.trans ((zdd (p:=fun x:Patron=>x.ID==id) (g:=fun i _=>(i:Int)) (d:=-1) (fun z=>some z) (l:=l) (i:=0)).symm)
theorem zpj {l:List Patron} {id:Int} (hl:l.length<1000000000):qcp l id=some (getP l id):=by
 unfold qcp getP
 rw[zaus hl]
 rcases zgf (fun x:Patron=>x.ID==id) l with ⟨h1,h2⟩|⟨i,x,h1,h2,h3,h4⟩
 ·simp only[h1,h2,z0u,cond_true]
 ·simp only[h1,h4,z0t,cond_false,zaq,h2]
theorem zaur {l:List Loan} {id:Int} (hl:l.length<1000000000):qbs l id=some (fIdx (fun x=>x.Item==id) l):=by
 unfold qbs
 have h:=zcp (step:=zk9) (fun i=>(l,id,(i:Int),())) l (fun x=>x.Item==id) (fun i _=>(.inr ((i:Int),()):Unit⊕(Int×Unit))) (.inl ()) hl
  (by simp only[zk9,dge,cond_false])
  (fun i x hx=>by
   have hi:=(List.getElem?_eq_some_iff.1 hx).1
   simp only[zk9,dlt hi,zaq,hx,cond_true,zau (show i<9223372036854775807 by omega)])
 rw[show zah zk9 (l,id,0,())=_ from h,←ze0]
 have:=zdd (p:=fun x:Loan=>x.Item==id) (g:=fun i _=>(.inr ((i:Int),()):Unit⊕(Int×Unit))) (d:=.inl ()) (fun z=>match (some z:Option (Unit⊕(Int×Unit))) with|some (.inl _)=>some (-1)|some (.inr (v,_))=>some v|none=>none) (l:=l) (i:=0)
 exact this.trans ((zdd (p:=fun x:Loan=>x.Item==id) (g:=fun i _=>(i:Int)) (d:=-1) (fun z=>some z) (l:=l) (i:=0)).symm)
theorem zauv {l:List Loan} {id:Int} (hl:l.length<1000000000):qe3 l id=some (zwb l id):=by
 unfold qe3 zwb
 rw[zaur hl]
 rcases zgf (fun x:Loan=>x.Item==id) l with ⟨h1,h2⟩|⟨i,x,h1,h2,h3,h4⟩
 ·simp only[h1,h2,z0u,cond_true]
 ·simp only[h1,h4,z0t,cond_false,zaq,h2]
theorem zauk {c:Circ} {item:Int} (hl:c.Holds.length<1000000000):qbf c item=some (zgc c item):=by
 unfold qbf zgc
 have h:=zcp (step:=zk5) (fun i=>(item,(i:Int),c,z27,())) c.Holds (fun x=>x.Got==item) (fun _ x=>(.inr (true,x,()):(Hold×Unit)⊕(Bool×Hold×Unit))) (.inl (z27,())) hl
  (by simp only[zk5,dge,cond_false])
  (fun i x hx=>by
   have hi:=(List.getElem?_eq_some_iff.1 hx).1
   simp only[zk5,dlt hi,zaq,hx,cond_true,zau (show i<9223372036854775807 by omega)])
 rw[show zah zk5 (item,0,c,(⟨0,0,0,0,0,0,0,0,0,0,0⟩:Hold),())=_ from h,zwa]
 cases c.Holds.find? (fun x=>x.Got==item)<;>rfl
def zf1 (c:Circ) (i:Nat) (x:Item):Bool:=
 !(decide (x.ID<1)||decide (9999<x.ID)||zeb c.Items i (fun y=>decide (x.ID≤y.ID))||decide (x.Record<1)||decide (9999<x.Record)||decide (x.Branch<1)||decide (4<x.Branch))&&
 !(decide (x.Kind<1)||decide (9<x.Kind)||decide (x.Price<0)||decide (100000000<x.Price)||decide (200<(x.Call.length:Int))||!(vld x.Call))&&
 !(!((zes x.Branch c.Moves x.ID).2.2==0)||!(zck (zes x.Branch c.Moves x.ID).1 x.Custody))
def zf2 (c:Circ):Bool:=!(decide (64<(c.Items.length:Int))||decide (2000<(c.Moves.length:Int)))&&(ze5 (zf1 c) 0 c.Items&&c.Moves.all (fun m=>(c.Items.find? (fun x=>x.ID==m.Item)).isSome))
structure Short (c:Circ):Prop where
 items:c.Items.length<1000000000
 patrons:c.Patrons.length<1000000000
 loans:c.Loans.length<1000000000
 holds:c.Holds.length<1000000000
 charges:c.Charges.length<1000000000
 rules:c.Rules.length<1000000000
 moves:c.Moves.length<1000000000
 call:∀x∈c.Items,x.Call.length<10000000
 name:∀x∈c.Patrons,x.Name.length<10000000
 cal0:c.Cals.x0.Closed.length<1000000000
 cal1:c.Cals.x1.Closed.length<1000000000
 cal2:c.Cals.x2.Closed.length<1000000000
 cal3:c.Cals.x3.Closed.length<1000000000
theorem z3o {c:Circ} (hs:Short c):zah zri (0,c,())=some (bif ze5 (zf1 c) 0 c.Items then .inl (c,()) else .inr (false,())):=by
 have h:=za1 (step:=zri) (fun i=>((i:Int),c,())) c.Items (zf1 c) (.inr (false,())) (.inl (c,())) hs.items
  (by simp only[zri,dge,cond_false])
  (fun i x hx=>by
   have hi:=(List.getElem?_eq_some_iff.1 hx).1
   have hm:=List.mem_of_getElem? hx
   have hv:=zae2 (s:=x.Call) (by have:=hs.call x hm;omega)
   have hr:=zaul (branch:=x.Branch) (item:=x.ID) hs.moves
   unfold zf1
   rcases i with _|j
   ·simp -zeta only[zri,dlt hi,zaq,hx,k_or,zb0,z0v,cond_false,cond_true,zeb,zau (show 0<9223372036854775807 by omega),hv,hr]
    dsimp only
    generalize (decide (x.ID<1)||decide (9999<x.ID)||false||decide (x.Record<1)||decide (9999<x.Record)||decide (x.Branch<1)||decide (4<x.Branch))=b1
    generalize (decide (x.Kind<1)||decide (9<x.Kind)||decide (x.Price<0)||decide (100000000<x.Price)||decide (200<(x.Call.length:Int))||!(vld x.Call))=b2
    generalize (!((zes x.Branch c.Moves x.ID).2.2==0)||!(zck (zes x.Branch c.Moves x.ID).1 x.Custody))=b3
    cases b1<;>cases b2<;>cases b3<;>rfl
   ·have hj:c.Items[j]?=some c.Items[j]:=List.getElem?_eq_getElem (by omega)
    have:=hs.items
    simp -zeta only[zri,dlt hi,zaq,hx,k_or,zb0,dpos,zgs (show j<1000000000 by omega),hj,cond_false,cond_true,Bool.true_and,zeb,zau (show j+1<9223372036854775807 by omega),hv,hr]
    dsimp only
    generalize (decide (x.ID<1)||decide (9999<x.ID)||decide (x.ID≤c.Items[j].ID)||decide (x.Record<1)||decide (9999<x.Record)||decide (x.Branch<1)||decide (4<x.Branch))=b1
    generalize (decide (x.Kind<1)||decide (9<x.Kind)||decide (x.Price<0)||decide (100000000<x.Price)||decide (200<(x.Call.length:Int))||!(vld x.Call))=b2
    generalize (!((zes x.Branch c.Moves x.ID).2.2==0)||!(zck (zes x.Branch c.Moves x.ID).1 x.Custody))=b3
    cases b1<;>cases b2<;>cases b3<;>rfl)
 exact h
theorem zxh {c:Circ} (hs:Short c):zah zja (0,c,())=some (bif c.Moves.all (fun m=>(c.Items.find? (fun x=>x.ID==m.Item)).isSome) then .inl () else .inr (false,())):=by
 have h:=za1 (step:=zja) (fun i=>((i:Int),c,())) c.Moves (fun _ m=>(c.Items.find? (fun x=>x.ID==m.Item)).isSome) (.inr (false,())) (.inl ()) hs.moves
  (by simp only[zja,dge,cond_false])
  (fun i x hx=>by
   have hi:=(List.getElem?_eq_some_iff.1 hx).1
   have:=hs.moves
   simp only[zja,dlt hi,zaq,hx,cond_true,zau (show i<9223372036854775807 by omega)]
   rcases zi2 (item:=x.Item) hs.items with ⟨h1,h2⟩|⟨k,y,h1,h2,h3,h4⟩
   ·simp only[h1,h2,z0u,cond_true,Option.isSome_none,cond_false]
   ·simp only[h1,h4,z0t,cond_false,Option.isSome_some,cond_true])
 rw[show zah zja (0,c,())=_ from h,zbj]
theorem zawv {c:Circ} (hs:Short c):qz c=some (zf2 c):=by
 unfold qz zf2
 simp -zeta only[k_or]
 dsimp only
 rw[z3o hs]
 cases (decide (64<(c.Items.length:Int))||decide (2000<(c.Moves.length:Int))) with
 |true=>rfl
 |false=>
  cases ze5 (zf1 c) 0 c.Items with
  |false=>rfl
  |true=>
   simp only[cond_false,cond_true,zxh hs]
   cases c.Moves.all (fun m=>(c.Items.find? (fun x=>x.ID==m.Item)).isSome)<;>rfl
def zhf (c:Circ) (n:Loan):Bool:=match c.Items.find? (fun x=>x.ID==n.Item) with
 |some x=>!(!(getP c.Patrons n.Patron).2||!(zre x.Custody)||!(x.Custody.Who==n.Patron))
 |none=>false
def zf3 (c:Circ):Bool:=c.Loans.all (zhf c)&&c.Items.all (fun x=>(zwb c.Loans x.ID).2==zre x.Custody)
theorem zawu {c:Circ} (hs:Short c):qy c=some (zf3 c):=by
 have h1:=za1 (step:=zrh) (fun i=>((i:Int),c,())) c.Loans (fun _=>zhf c) (.inr (false,())) (.inl (c,())) hs.loans
  (by simp only[zrh,dge,cond_false])
  (fun i x hx=>by
   have hi:=(List.getElem?_eq_some_iff.1 hx).1
   have:=hs.loans
   unfold zhf
   rcases zi2 (item:=x.Item) hs.items with ⟨h1,h2⟩|⟨k,y,h1,h2,h3,h4⟩
   ·simp -zeta only[zrh,dlt hi,zaq,hx,cond_true,k_or,zpj hs.patrons,h1,h2,z0u,Bool.true_or]
    try rfl
   ·simp -zeta only[zrh,dlt hi,zaq,hx,cond_true,k_or,zpj hs.patrons,h1,h2,h4,z0t,Bool.false_or,zafd,zau (show i<9223372036854775807 by omega)]
    dsimp only
    cases (!(getP c.Patrons x.Patron).2||!(zre y.Custody)||!(y.Custody.Who==x.Patron))<;>rfl)
 have h2:=za1 (step:=zle) (fun i=>((i:Int),c,())) c.Items (fun _ x=>(zwb c.Loans x.ID).2==zre x.Custody) (.inr (false,())) (.inl ()) hs.items
  (by simp only[zle,dge,cond_false])
  (fun i x hx=>by
   have hi:=(List.getElem?_eq_some_iff.1 hx).1
   have:=hs.items
   simp only[zle,dlt hi,zaq,hx,cond_true,zauv hs.loans,zafd,zau (show i<9223372036854775807 by omega)]
   cases (zwb c.Loans x.ID).2==zre x.Custody<;>rfl)
 unfold qy zf3
 rw[show zah zrh (0,c,())=_ from h1,zbj]
 cases c.Loans.all (zhf c) with
 |false=>rfl
 |true=>
  simp only[cond_true]
  rw[show zah zle (0,c,())=_ from h2,zbj]
  cases c.Items.all (fun x=>(zwb c.Loans x.ID).2==zre x.Custody)<;>rfl
def zhd (c:Circ) (h:Hold):Bool:=
 !(!(getP c.Patrons h.Patron).2||decide (c.NextHold≤h.ID))&&(h.State==1||(match c.Items.find? (fun x=>x.ID==h.Got) with
  |some x=>!(!(x.Record==h.Record))&&!(h.State==3&&(!(x.Custody.State==5)||!(x.Custody.Branch==h.Pickup)||!(x.Custody.Who==h.Patron)))&&
   !(h.State==2&&(!(x.Custody.State==6)||!(x.Custody.To==h.Pickup)||!(x.Custody.Who==h.Patron)))
  |none=>false))
def zf6 (c:Circ) (x:Item):Bool:=!(x.Custody.State==5)||!(!(zgc c x.ID).2||!((zgc c x.ID).1.State==3))
def zfw (c:Circ):Bool:=c.Holds.all (zhd c)&&c.Items.all (zf6 c)
theorem zawo {c:Circ} (hs:Short c):q8 c=some (zfw c):=by
 have h1:=za1 (step:=zrb) (fun i=>((i:Int),c,())) c.Holds (fun _=>zhd c) (.inr (false,())) (.inl (c,())) hs.holds
  (by simp only[zrb,dge,cond_false])
  (fun i x hx=>by
   have hi:=(List.getElem?_eq_some_iff.1 hx).1
   have:=hs.holds
   unfold zhd
   rcases zi2 (item:=x.Got) hs.items with ⟨h1,h2⟩|⟨k,y,h1,h2,h3,h4⟩
   ·simp -zeta only[zrb,dlt hi,zaq,hx,cond_true,k_or,zpj hs.patrons,h1,h2,z0u,zau (show i<9223372036854775807 by omega)]
    dsimp only
    cases (!(getP c.Patrons x.Patron).2||decide (c.NextHold≤x.ID)) with
    |true=>rfl
    |false=>cases x.State==1<;>rfl
   ·simp -zeta only[zrb,dlt hi,zaq,hx,cond_true,k_or,zb0,zpj hs.patrons,h1,h2,h4,z0t,cond_false,zau (show i<9223372036854775807 by omega)]
    dsimp only
    generalize (!(getP c.Patrons x.Patron).2||decide (c.NextHold≤x.ID))=b1
    generalize (x.State==1)=b2
    generalize (!(y.Record==x.Record))=b3
    generalize (!(y.Custody.State==5)||!(y.Custody.Branch==x.Pickup)||!(y.Custody.Who==x.Patron))=b4
    generalize (!(y.Custody.State==6)||!(y.Custody.To==x.Pickup)||!(y.Custody.Who==x.Patron))=b5
    generalize (x.State==3)=b6
    generalize (x.State==2)=b7
    cases b1<;>cases b2<;>cases b3<;>cases b4<;>cases b5<;>cases b6<;>cases b7<;>rfl)
 have h2:=za1 (step:=zkx) (fun i=>((i:Int),c,())) c.Items (fun _=>zf6 c) (.inr (false,())) (.inl ()) hs.items
  (by simp only[zkx,dge,cond_false])
  (fun i x hx=>by
   have hi:=(List.getElem?_eq_some_iff.1 hx).1
   have:=hs.items
   unfold zf6
   simp -zeta only[zkx,dlt hi,zaq,hx,cond_true,k_or,zauk hs.holds,zau (show i<9223372036854775807 by omega)]
   dsimp only
   cases x.Custody.State==5 with
   |false=>rfl
   |true=>
    generalize (!(zgc c x.ID).2||!((zgc c x.ID).1.State==3))=b
    cases b<;>rfl)
 unfold q8 zfw
 rw[show zah zrb (0,c,())=_ from h1,zbj]
 cases c.Holds.all (zhd c) with
 |false=>rfl
 |true=>
  simp only[cond_true]
  rw[show zah zkx (0,c,())=_ from h2,zbj]
  cases c.Items.all (zf6 c)<;>rfl
end Go.Proofs.YtpaidiaknfhclaaGreatDoor
