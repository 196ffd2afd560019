/- WeedFewer: a part of the proof of the given statement, which is proved without conditions. -/
import Derived.Test.YtpaidiaknfhclaaGreatDoorF4
import Derived.Lib.TrimUEq
import Derived.Lib.ValidU
import Derived.Lib.FieldsP
import Derived.Lib.Join
import Derived.Shelf.Strings.OnBuilder
import Derived.Shelf.Strings.FieldsFuncAny
import Derived.Shelf.Unicode.ValidAny
import Derived.Shelf.SlSortCmp.WholeK
import Derived.Shelf.SlicesG.Cmp
import Derived.Ground.SlsfProg
import Derived.Ground.SlgcProg
import Derived.Ground.NamesProg
import Derived.Ground.Names2Prog
import Derived.Test.YtpaidiaknfhclaaGreatDoorProg
import Derived.WalkKit
import Derived.WalkMore
import Derived.Below
import Derived.Laws.RangeString
import Derived.Laws.Runes
import Derived.LoopTactic
import Derived.Deep.LoopGhost
import Derived.Test.YtpaidiaknfhclaaGreatDoorTie
import Derived.Tactics
import Derived.Tactics2
import Derived.WalkSpells
import Derived.StillTactics
import Derived.Laws.Pointers
import Derived.Deep.RegionHeld3
import Derived.KernelRfl
import Derived.Shelf.SlSortCmp.NoneTotal
import Derived.Laws.BitsLemmas
set_option linter.all false
namespace Go.Proofs.YtpaidiaknfhclaaGreatDoor.Ev
open Go
section
variable {κ:Type} {El:κ→Type} {S:Sg κ El} {P:Program}
structure DelOk (P:Program) (f z:Nat):Prop where
 non:∀{w:World} {base:Option Addr} {n c i:Nat},n≤c→i≤n→Calls P f #[.slice base n c,.int .i64 i,.int .i64 i] w fun e w'=>e=.returned (.slice base n c)∧w'=w
 som:∀{w:World} {b n c i j:Nat} {L:List Value} {t:TypeId},i<j→j≤n→n≤c→w.heap[b]?=some (.cells L.toArray t (0,0))→L.length=c*z→(∀v∈(L.drop (j*z)).take ((n-j)*z),v.oneCell'=true)→
  Calls P f #[.slice (some ⟨b,0,none⟩) n c,.int .i64 i,.int .i64 j] w fun e w'=>
   e=.returned (.slice (some ⟨b,0,none⟩) (i+(n-j)) c)∧∃(M0:Array Value) (zs:List Value),zs.length=(j-i)*z∧w'=(w.drew.setRow b M0).setRow b (Go.splice (Go.splice L (i*z) ((L.drop (j*z)).take ((n-j)*z))) ((i+(n-j))*z) zs).toArray
theorem zait (sgk:SgOk S) {f:Nat} {fn:Func} {code:Code} (fok:FnOk P f fn code) (hmd:S.md f=.cons) {k:κ} (W:DelOk P f (S.sz k))
 {xs:List (El k)} {i j:Nat} {ds:List (D κ El)} (hij:i≤j) (hj:j≤xs.length) (hwl:WL ds [.lst k xs,.int .i64 (i:Int),.int .i64 (j:Int)]) :
 Con P S f ds [] (.lst k (xs.take i++xs.drop j)) []:=by
 unfold Con
 rw[hmd]
 intro _ k' xs' ds0 hds k2 xs2 hd w I J mb v0 vs hp ho ha
 subst hds
 cases hd
 have hw0:=hwl.2 0 _ _ rfl rfl
 cases hw0 with
 |leaf _ _ hw0=>
 cases hw0
 have ha:=WL.args (cs':=[.int .i64 (i:Int),.int .i64 (j:Int)]) ⟨by simpa using hwl.1,fun q d d' h1 h2=>hwl.2 (q+1) d d' (by simpa using h1) (by simpa using h2)⟩ ha
 obtain ⟨base,c,rfl,hnc,hz⟩:=ho
 obtain ⟨hvs,hav⟩:=ha
 obtain ⟨u1,u2,rfl⟩:∃u1 u2,vs = #[u1,u2]:=by
  simp at hvs
  exact ⟨vs[0],vs[1],by
   apply Array.ext
   ·simp[hvs]
   ·intro j h1 h2;simp at h2;rcases (show j=0∨j=1 by omega) with rfl|rfl<;>rfl⟩
 have hu1:u1=.int .i64 i:=(hav 0 u1 _ rfl rfl).int_inv
 have hu2:u2=.int .i64 j:=(hav 1 u2 _ rfl rfl).int_inv
 subst hu1 hu2
 obtain ⟨n,hn⟩:∃n,n=xs.length:=⟨_,rfl⟩
 have hpos:=sgk.pos k
 have hIw:∀b o,I b o→b<w.heap.size:=hp.ib
 have hres:(xs.take i++xs.drop j).length=i+(n-j):=by simp;omega
 unfold zcg
 rw[MuLone.run_callFunc_enter fok.at_ fok.name fok.body _ w]
 simp only
 show Calls P f #[.slice base xs.length c,.int .i64 (i:Int),.int .i64 (j:Int)] w _
 by_cases heq:i=j
 ·subst heq
  refine (W.non hnc hj).mono (fun e w' he=>?_)
  obtain ⟨rfl,rfl⟩:=he
  have e:xs.take i++xs.drop i=xs:=by simp
  rw[e]
  refine ⟨I,⟨Nat.le_refl _,rfl,rfl,rfl,fun _ _ _=>rfl,fun _ _ h=>h,fun _ _ h=>.inl h,hIw⟩,base,c,rfl,hnc,?_⟩
  rcases hz with ⟨h,_⟩|⟨b,vals,t,rfl,rfl,hb,hvsz,hel⟩
  ·exact .inl h
  ·have hbI:∀o,¬I b o:=fun o h=>(hp.jb b o (hp.ij b o h)).2 (by simp)
   refine .inr ⟨b,vals,t,rfl,hb,hvsz,.inr (by simp),hbI,fun q hq j d hj=>?_⟩
   obtain ⟨v,a,e⟩:=hel q hq j d hj
   exact ⟨v,a,ze4 sgk e (zc4 sgk hj) (fun _ _ h=>⟨rfl,h⟩)⟩
 ·have hlt:i<j:=by omega
  rcases hz with ⟨rfl,rfl⟩|⟨b,vals,t,rfl,rfl,hb,hvsz,hel⟩
  ·exfalso;omega
  ·have hbw:b<w.heap.size:=(Array.getElem?_eq_some_iff.1 hb).1
   have hbI:∀o,¬I b o:=fun o h=>(hp.jb b o (hp.ij b o h)).2 (by simp)
   obtain ⟨L,hL⟩:∃L,L=vals.toList:=⟨_,rfl⟩
   have hLa:vals=L.toArray:=by rw[hL]
   have hLl:L.length=c*S.sz k:=by rw[hL];simpa using hvsz
   rw[hLa]at hb
   have hel':∀i (hi:i<xs.length) j d,(S.enc k xs[i])[j]?=some d→∃v,L[i*S.sz k+j]?=some v∧DR S w I J v d:=fun i hi j d hj=>by
    obtain ⟨v,a,e⟩:=hel i hi j d hj
    exact ⟨v,by rw[hL];simpa using a,e⟩
   have hnL:n*S.sz k≤L.length:=by rw[hLl];exact Nat.mul_le_mul_right _ (by omega)
   have hone:∀v∈L.take (n*S.sz k),v.oneCell'=true:=fun v hv=>by
    obtain ⟨p,hp'⟩:=List.getElem?_of_mem hv
    have hlt:=(List.getElem?_eq_some_iff.1 hp').1
    simp only[List.length_take]at hlt
    have h1:p / S.sz k<n:=(Nat.div_lt_iff_lt_mul hpos).2 (by omega)
    have h2:=Nat.mod_lt p hpos
    have h3:p % S.sz k<(S.enc k (xs[p / S.sz k]'(by omega))).length:=by rw[sgk.sz];exact h2
    obtain ⟨v',a,e⟩:=hel' (p / S.sz k) (by omega) _ _ (List.getElem?_eq_getElem h3)
    rw[Nat.div_add_mod']at a
    rw[List.getElem?_take,if_pos (by omega),a]at hp'
    cases hp'
    exact z35 e (sgk.plain k _ _ (List.getElem_mem h3))
   have hjn:j*S.sz k≤n*S.sz k:=Nat.mul_le_mul_right _ (by omega)
   have hC1:(L.drop (j*S.sz k)).take ((n-j)*S.sz k)=(L.take (n*S.sz k)).drop (j*S.sz k):=by
    rw[List.drop_take];congr 1;rw[Nat.sub_mul]
   have hone1:∀v∈(L.drop (j*S.sz k)).take ((n-j)*S.sz k),v.oneCell'=true:=fun v hv=>hone v (by rw[hC1]at hv;exact List.mem_of_mem_drop hv)
   obtain ⟨C1,hC⟩:∃C1,C1=(L.drop (j*S.sz k)).take ((n-j)*S.sz k):=⟨_,rfl⟩
   have hC1l:C1.length=n*S.sz k-j*S.sz k:=by rw[hC,hC1];simp;omega
   have hC1g:∀q,q<n*S.sz k-j*S.sz k→C1[q]?=L[j*S.sz k+q]?:=fun q hq=>by rw[hC,hC1,List.getElem?_drop,List.getElem?_take,if_pos (by omega)]
   have hij':i*S.sz k≤j*S.sz k:=Nat.mul_le_mul_right _ (by omega)
   have hm:(i+(n-j))*S.sz k=i*S.sz k+(n*S.sz k-j*S.sz k):=by rw[Nat.add_mul,Nat.sub_mul]
   have hz2:(j-i)*S.sz k=j*S.sz k-i*S.sz k:=by rw[Nat.sub_mul]
   refine (W.som hlt hj hnc hb hLl (by rw[←hn];exact hone1)).mono (fun e w' he=>?_)
   obtain ⟨rfl,M0,zs,hzl,rfl⟩:=he
   rw[←hn,←hC]
   have l1:(Go.splice L (i*S.sz k) C1).length=L.length:=length_splice _ _ _ (by omega)
   have l2:(Go.splice (Go.splice L (i*S.sz k) C1) ((i+(n-j))*S.sz k) zs).length=L.length:=by rw[length_splice _ _ _ (by omega),l1]
   generalize hM:Go.splice (Go.splice L (i*S.sz k) C1) ((i+(n-j))*S.sz k) zs=M at l2 ⊢
   have hMg:∀p,p<(i+(n-j))*S.sz k→M[p]?=if p<i*S.sz k then L[p]? else L[p+(j*S.sz k-i*S.sz k)]?:=fun p hp=>by
    rw[←hM,za6 (by omega),if_neg (by omega),za6 (by omega)]
    by_cases h:p<i*S.sz k
    ·rw[if_neg (by omega),if_pos h]
    ·rw[if_pos (by omega),if_neg h,hC1g _ (by omega)]
     congr 1;omega
   have hheap:((w.drew.setRow b M0).setRow b M.toArray).heap[b]?=some (.cells M.toArray t (0,0)):=setRow_heap _ _ _ _ _ _ (setRow_heap w.drew _ _ _ _ _ hb)
   have hoth:∀q,q≠b→((w.drew.setRow b M0).setRow b M.toArray).heap[q]?=w.heap[q]?:=fun q hq=>by rw[setRow_other _ _ _ _ hq,setRow_other _ _ _ _ hq];rfl
   have hsz:((w.drew.setRow b M0).setRow b M.toArray).heap.size=w.heap.size:=by simp only[setRow_size];rfl
   refine ⟨I,⟨by omega,rfl,rfl,rfl,fun q hq hm=>hoth q (by simpa using hm),fun _ _ h=>h,fun _ _ h=>.inl h,fun q o h=>by have:=hIw q o h;omega⟩,
    some ⟨b,0,none⟩,c,by rw[hres],by omega,.inr ⟨b,_,t,rfl,hheap,by simp[l2,hLl],.inr (by simp),hbI,?_⟩⟩
   intro q hq s d hs
   have hs':s<S.sz k:=by have:=(List.getElem?_eq_some_iff.1 hs).1;rwa [sgk.sz]at this
   rw[hres]at hq
   have hlt2:=zcw hs' hq
   by_cases hqi:q<i
   ·have e:(xs.take i++xs.drop j)[q]'(by omega)=xs[q]'(by omega):=by rw[List.getElem_append_left (by simp;omega)];simp
    rw[e]at hs
    obtain ⟨v,a,e2⟩:=hel' q (by omega) s d hs
    refine ⟨v,?_,ze4 sgk e2 (zc4 sgk hs) (fun q o h=>⟨by simp only[World.cell?];rw[hoth q (fun e=>by subst e;exact hbI o h)],h⟩)⟩
    rw[←a,List.getElem?_toArray,hMg _ hlt2,if_pos (zcw hs' hqi)]
   ·have e:(xs.take i++xs.drop j)[q]'(by omega)=xs[q+(j-i)]'(by omega):=by
     have hl:(xs.take i).length=i:=by simp;omega
     rw[List.getElem_append_right (by omega)]
     simp only[hl,List.getElem_drop]
     congr 1;omega
    rw[e]at hs
    obtain ⟨v,a,e2⟩:=hel' (q+(j-i)) (by omega) s d hs
    refine ⟨v,?_,ze4 sgk e2 (zc4 sgk hs) (fun q o h=>⟨by simp only[World.cell?];rw[hoth q (fun e=>by subst e;exact hbI o h)],h⟩)⟩
    have hqz:i*S.sz k≤q*S.sz k:=Nat.mul_le_mul_right _ (by omega)
    rw[←a,List.getElem?_toArray,hMg _ hlt2,if_neg (by omega)]
    congr 1
    rw[Nat.add_mul,hz2];omega
theorem ztn (sgk:SgOk S) {f:Nat} {fn:Func} {code:Code} (fok:FnOk P f fn code) (hmd:S.md f=.cons) {k:κ} (W:DelOk P f (S.sz k))
 {xs r:List (El k)} {i j:Int} {ds:List (D κ El)} (hwl:WL ds [.lst k xs,.int .i64 i,.int .i64 j]) (hr:zmo xs i j=some r):Con P S f ds [] (.lst k r) []:=by
 unfold zmo at hr
 rw[zad]at hr
 split at hr
 ·rename_i h
  simp only[Bool.and_eq_true,decide_eq_true_eq]at h
  cases hr
  obtain ⟨n,rfl⟩:=Int.eq_ofNat_of_zero_le h.1.1.1
  obtain ⟨m,rfl⟩:=Int.eq_ofNat_of_zero_le (Int.le_trans h.1.1.1 h.1.1.2)
  exact zait sgk fok hmd W (i:=n) (j:=m) (by omega) (by omega) hwl
 ·cases hr
end
end Go.Proofs.YtpaidiaknfhclaaGreatDoor.Ev
namespace Go.Proofs.YtpaidiaknfhclaaGreatDoor.Ev
open Go
def badC (c:Nat):Bool:=decide (c<32)||(decide (127≤c)&&decide (c≤159))||decide (65535<c)
theorem zff {c:Nat}:badC c=true↔c<32∨(127≤c∧c≤159)∨65535<c:=by
 unfold badC;simp only[Bool.or_eq_true,Bool.and_eq_true,decide_eq_true_eq];omega
theorem zaxy {a:UInt8} {r:List UInt8} {k:Nat}:(a::r).getD (k+1) 0=r.getD k 0:=by simp[List.getD]
set_option maxHeartbeats 2000000 in
theorem zkt {l:List UInt8} (hl:l≠[]):dcd l=if ((Lib.decodeL l).1=65533∧(Lib.decodeL l).2=1)∨badC (Lib.decodeL l).1=true then (0,0) else Lib.decodeL l:=by
 cases l with
 |nil=>exact absurd rfl hl
 |cons a r=>
  rw[Lib.decodeL_N]
  have ha:=a.toNat_lt
  simp only[zff]
  rcases r with _|⟨b,_|⟨c,_|⟨d,r⟩⟩⟩
  ·simp only[List.getD_cons_zero,List.getD_cons_succ,List.getD_nil,List.length_cons,List.length_nil]
   obtain ⟨X,hX⟩:∃X,Lib.decodeN (0+1) a.toNat (0:UInt8).toNat (0:UInt8).toNat (0:UInt8).toNat=X:=⟨_,rfl⟩
   rw[hX]
   unfold Lib.decodeN at hX
   unfold dcd
   dsimp only
   split at hX
   ·subst hX
    repeat' split
    all_goals first|with_reducible rfl|(exfalso;omega)
   ·rw[if_neg (by omega),if_neg (by omega),if_neg (by omega)]at hX
    subst hX
    repeat' split
    all_goals first|with_reducible rfl|(exfalso;omega)
  ·simp only[List.getD_cons_zero,List.getD_cons_succ,List.getD_nil,List.length_cons,List.length_nil]
   have hb:=b.toNat_lt
   obtain ⟨X,hX⟩:∃X,Lib.decodeN (0+1+1) a.toNat b.toNat (0:UInt8).toNat (0:UInt8).toNat=X:=⟨_,rfl⟩
   rw[hX]
   unfold Lib.decodeN at hX
   unfold dcd
   dsimp only
   repeat' split at hX
   all_goals subst hX
   all_goals dsimp only
   all_goals repeat' split
   all_goals first|with_reducible rfl|(exfalso;omega)|(simp only[Prod.mk.injEq,and_true];omega)
  ·simp only[List.getD_cons_zero,List.getD_cons_succ,List.getD_nil,List.length_cons,List.length_nil]
   have hb:=b.toNat_lt
   have hc:=c.toNat_lt
   obtain ⟨X,hX⟩:∃X,Lib.decodeN (0+1+1+1) a.toNat b.toNat c.toNat (0:UInt8).toNat=X:=⟨_,rfl⟩
   rw[hX]
   unfold Lib.decodeN at hX
   unfold dcd
   dsimp only
   repeat' split at hX
   all_goals subst hX
   all_goals dsimp only
   all_goals repeat' split
   all_goals first|with_reducible rfl|(exfalso;omega)|(simp only[Prod.mk.injEq,and_true];omega)
  ·simp only[List.getD_cons_zero,List.getD_cons_succ,List.getD_nil,List.length_cons,List.length_nil]
   have hb:=b.toNat_lt
   have hc:=c.toNat_lt
   have hd:=d.toNat_lt
   obtain ⟨X,hX⟩:∃X,Lib.decodeN (r.length+1+1+1+1) a.toNat b.toNat c.toNat d.toNat=X:=⟨_,rfl⟩
   rw[hX]
   unfold Lib.decodeN at hX
   unfold dcd
   dsimp only
   repeat' split at hX
   all_goals subst hX
   all_goals dsimp only
   all_goals repeat' split
   all_goals first|with_reducible rfl|(exfalso;omega)|(simp only[Prod.mk.injEq,and_true];omega)
def okN:Nat→List UInt8→Bool
 |0,_=>true
 |n+1,l=>if l=[] then true else if badC (Lib.decodeL l).1 then false else okN n (l.drop (Lib.decodeL l).2)
theorem zep {l:List UInt8} (hl:l≠[]):1≤(Lib.decodeL l).2∧(Lib.decodeL l).2≤l.length:=by
 cases l with
 |nil=>exact absurd rfl hl
 |cons a r=>
  rw[Lib.decodeL_N]
  unfold Lib.decodeN
  have:1≤(a::r).length:=by simp
  repeat' split
  all_goals simp only
  all_goals omega
theorem zare:∀(n:Nat) (l:List UInt8),vldN n l=(Lib.validGoD n l&&okN n l):=by
 intro n
 induction n with
 |zero=>intro l;rfl
 |succ n ih=>
  intro l
  simp only[vldN,Lib.validGoD,okN]
  by_cases hl:l=[]
  ·simp[hl]
  ·simp only[hl,if_false]
   rw[zkt hl]
   by_cases h1:(Lib.decodeL l).1=65533∧(Lib.decodeL l).2=1
   ·simp[h1]
   ·by_cases h2:badC (Lib.decodeL l).1=true
    ·simp[h2]
    ·have:=zep hl
     have hne:¬(((Lib.decodeL l).1=65533∧(Lib.decodeL l).2=1)∨badC (Lib.decodeL l).1=true):=fun h=>h.elim h1 h2
     rw[if_neg hne,if_neg (show ¬(Lib.decodeL l).2=0 by omega),if_neg h1,if_neg h2]
     exact ih _
theorem zacd:∀(n m:Nat) (l:List UInt8),l.length≤n→l.length≤m→okN n l=okN m l:=by
 intro n
 induction n with
 |zero=>intro m l h1 h2;have:l=[]:=List.length_eq_zero_iff.1 (by omega);subst this;cases m<;>simp[okN]
 |succ n ih=>
  intro m l h1 h2
  by_cases hl:l=[]
  ·subst hl;cases m<;>simp[okN]
  ·have hp:=zep hl
   have:0<l.length:=List.length_pos_iff.2 hl
   obtain ⟨m,rfl⟩:∃k,m=k+1:=⟨m-1,by omega⟩
   simp only[okN,hl,if_false]
   split
   ·rfl
   ·exact ih m _ (by rw[List.length_drop];omega) (by rw[List.length_drop];omega)
theorem z2c (xs:List (List UInt8)) (y sep:List UInt8):Lib.join (xs++[y]) sep=if xs=[] then y else Lib.join xs sep++(sep++y):=by
 cases xs with
 |nil=>simp[Lib.join_one]
 |cons x xs=>
  rw[List.cons_append,Lib.join_cons,Lib.join_cons]
  simp[Lib.joinTail]
def pcs (l:List UInt8) (acc:List (Nat×Nat)):List (List UInt8):=acc.map fun x=>(l.take x.2).drop x.1
def J (l:List UInt8) (acc:List (Nat×Nat)):List UInt8:=Lib.join (pcs l acc) [32]
theorem zarj (l:List UInt8):J l []=[]:=rfl
theorem zyp (l:List UInt8) (acc:List (Nat×Nat)) (a b:Nat):J l (acc++[(a,b)])=if acc=[] then (l.take b).drop a else J l acc++([32]++(l.take b).drop a):=by
 unfold J pcs
 rw[List.map_append,List.map_singleton,z2c]
 simp only[List.map_eq_nil_iff]
theorem J_ne {l:List UInt8}:∀{acc:List (Nat×Nat)},(∀x∈acc,x.1<x.2∧x.2≤l.length)→acc≠[]→J l acc≠[]:=by
 intro acc h hne
 obtain ⟨x,r,rfl⟩:=List.exists_cons_of_ne_nil hne
 have hx:=h x (by simp)
 unfold J pcs
 rw[List.map_cons,Lib.join_cons]
 intro e
 have:=congrArg List.length e
 simp only[List.length_append,List.length_drop,List.length_take,List.length_nil]at this
 omega
theorem zzy {s:ByteArray} {l:List UInt8} (hl:s.data.toList=l) (p:Nat→Bool) (hp:∀c,p c=blk c):∀(f pos:Nat) (st:Option Nat) (acc:List (Nat×Nat)) (gap:Bool),
 s.size≤pos+f→pos≤s.size→vldN f (l.drop pos)=true→(∀a,st=some a→a<pos∧gap=false)→(st=none→gap=true∨acc=[])→(∀x∈acc,x.1<x.2∧x.2≤l.length)→
 J l (Lib.closeSpans s (Lib.spansFromP p s f pos st acc))=clnN f (l.drop pos) (match st with|some a=>J l (acc++[(a,pos)])|none=>J l acc) gap:=by
 have hsz:s.size=l.length:=by rw[Lib.size_eq,hl]
 intro f
 induction f with
 |zero=>
  intro pos st acc gap h1 h2 hv hs hn hacc
  have:pos=s.size:=by omega
  subst this
  simp only[Lib.spansFromP,clnN]
  cases st with
  |none=>rfl
  |some a=>rfl
 |succ f ih=>
  intro pos st acc gap h1 h2 hv hs hn hacc
  by_cases hlt:pos<s.size
  ·have hne:l.drop pos≠[]:=by simp;omega
   have hdec:Lib.decodeL (l.drop pos)=Utf8.decode s pos:=by rw[←hl];exact Lib.decodeL_drop s pos
   have hpos:=zep hne
   rw[List.length_drop]at hpos
   have hv2:=hv
   simp only[vldN,hne,if_false]at hv2
   have hd:=zkt hne
   split at hd
   ·rw[hd]at hv2;simp at hv2
   ·rename_i hnb
    have hz:¬(dcd (l.drop pos)).2=0:=by rw[hd];omega
    rw[if_neg hz,List.drop_drop,hd,hdec]at hv2
    have hw:wid (l.drop pos)=(Utf8.decode s pos).2:=by unfold wid;rw[hd,hdec,if_neg (by rw[←hdec];omega)]
    rw[hdec]at hpos
    obtain ⟨k,hk⟩:∃k,(Utf8.decode s pos).2=k:=⟨_,rfl⟩
    rw[clnN,if_neg hne,List.drop_drop,hw,hd,hdec]
    simp only[Lib.spansFromP,hlt,if_true,hp]
    rw[hk]at hpos hv2 ⊢
    have htk:∀a,a≤pos→(l.take pos).drop a++(l.drop pos).take k=(l.take (pos+k)).drop a:=by
     intro a ha
     rw[List.take_add,List.drop_append_of_le_length (by simp;omega)]
    cases hb:blk (Utf8.decode s pos).1 with
    |true=>
     simp only[if_true]
     cases st with
     |none=>exact ih (pos+k) none acc true (by omega) (by omega) hv2 (fun a h=>by cases h) (fun _=>.inl rfl) hacc
     |some a=>
      have:=(hs a rfl).1
      exact ih (pos+k) none (acc++[(a,pos)]) true (by omega) (by omega) hv2 (fun a h=>by cases h) (fun _=>.inl rfl) (fun x hx=>by
       rcases List.mem_append.1 hx with h|h
       ·exact hacc x h
       ·simp only[List.mem_singleton]at h;subst h;exact ⟨this,by simp only;omega⟩)
    |false=>
     simp only[Bool.false_eq_true,if_false]
     cases st with
     |some a=>
      obtain ⟨ha,hg⟩:=hs a rfl
      subst hg
      rw[ih (pos+k) (some a) acc false (by omega) (by omega) hv2 (fun b h=>by cases h;exact ⟨by omega,rfl⟩) (fun h=>by cases h) hacc]
      simp only[Bool.false_and,Bool.false_eq_true,if_false]
      congr 1
      rw[zyp,zyp]
      split
      ·exact (htk a (by omega)).symm
      ·rw[←htk a (by omega)];simp
     |none=>
      rw[ih (pos+k) (some pos) acc false (by omega) (by omega) hv2 (fun b h=>by cases h;exact ⟨by omega,rfl⟩) (fun h=>by cases h) hacc]
      congr 1
      dsimp only
      rw[zyp]
      have e:=htk pos (Nat.le_refl _)
      rw[@List.drop_eq_nil_of_le _ (l.take pos) _ (by simp;omega),List.nil_append]at e
      rcases hn rfl with hg|hacc0
      ·subst hg
       by_cases h0:acc=[]
       ·subst h0;simp[zarj,e]
       ·have:=J_ne hacc h0
        have hb2:(J l acc==[])=false:=by simpa using this
        simp[h0,hb2,e]
      ·subst hacc0;simp[zarj,e]
  ·have:pos=s.size:=by omega
   subst this
   have hnil:l.drop s.size=[]:=by rw[hsz];simp
   rw[Lib.spansFromP_end _ _ _ _ _ _ hlt,clnN,if_pos hnil]
   cases st with
   |none=>rfl
   |some a=>rfl
theorem zwp {s:ByteArray} {p:Nat→Bool} (hp:∀c,p c=blk c) (hv:vld s.data.toList=true):Lib.join ((Lib.goFieldsP p s).map (·.data.toList)) [32]=cln s.data.toList:=by
 have h:=zzy (s:=s) rfl p hp s.size 0 none [] false (by omega) (by omega) (by rw[List.drop_zero,Lib.size_eq];exact hv) (fun a h=>by cases h) (fun _=>.inr rfl) (fun x h=>by cases h)
 rw[List.drop_zero]at h
 have hc:cln s.data.toList=clnN s.size s.data.toList [] false:=by unfold cln;rw[Lib.size_eq]
 rw[hc]
 refine Eq.trans ?_ h
 unfold J pcs Lib.goFieldsP Lib.spansOfP
 rw[List.map_map]
 congr 1
 refine List.map_congr_left (fun x _=>?_)
 show (s.extract x.1 x.2).data.toList=(s.data.toList.take x.2).drop x.1
 rw[Lib.extract_data,List.drop_take]
theorem z7r (p:Nat→Bool) (s:ByteArray):∀(f pos:Nat) (st:Option Nat) (acc:List (Nat×Nat)),(Lib.spansFromP p s f pos st acc).1.length≤acc.length+f:=by
 intro f
 induction f with
 |zero=>intro pos st acc;exact Nat.le_refl _
 |succ f ih=>
  intro pos st acc
  unfold Lib.spansFromP
  split
  ·split
   ·cases st with
    |none=>exact Nat.le_trans (ih _ _ _) (by omega)
    |some a=>exact Nat.le_trans (ih _ _ _) (by simp;omega)
   ·cases st with
    |none=>exact Nat.le_trans (ih _ _ _) (by omega)
    |some a=>exact Nat.le_trans (ih _ _ _) (by omega)
  ·simp
theorem zw2 (p:Nat→Bool) (s:ByteArray):(Lib.goFieldsP p s).length≤s.size+1:=by
 have:=z7r p s s.size 0 none []
 unfold Lib.goFieldsP Lib.spansOfP Lib.closeSpans
 rw[List.length_map]
 split
 ·rw[List.length_append];simp at this ⊢;omega
 ·simp at this;omega
theorem z9s:∀(n:Nat) (l out:List UInt8) (gap:Bool),(clnN n l out gap).length≤out.length+2*l.length:=by
 intro n
 induction n with
 |zero=>intro l out gap;simp[clnN]
 |succ n ih=>
  intro l out gap
  rw[clnN]
  split
  ·omega
  ·have hw:1≤wid l:=by unfold wid;split<;>omega
   have hl:0<l.length:=List.length_pos_iff.2 (by assumption)
   split
   ·have:=ih (l.drop (wid l)) out true
    rw[List.length_drop]at this
    omega
   ·have:=ih (l.drop (wid l)) ((if gap&&!(out==[]) then out++[32] else out)++l.take (wid l)) false
    rw[List.length_drop]at this
    have h2:(if gap&&!(out==[]) then out++[32] else out).length≤out.length+1:=by split<;>simp
    simp only[List.length_append,List.length_take]at this
    omega
theorem zais (s:ByteArray):(cln s.data.toList).length≤2*s.size:=by
 have:=z9s s.data.toList.length s.data.toList [] false
 rw[Lib.size_eq]
 simpa[cln]using this
end Go.Proofs.YtpaidiaknfhclaaGreatDoor.Ev
namespace Go.Proofs
open Go.Shelf
def Tryz.laysValid_ren:Go.Shelf.Ren:=⟨fun|196=>193|259=>239|n=>n,fun|9=>9|4=>4|3=>3|5=>5|12=>12|119=>238|0=>0|46=>145|139=>241|138=>240|53=>197|n=>n,fun|3=>0|4=>1|n=>n⟩
theorem Tryz.laysValid:Go.Proofs.Lays.n196 Tryz.prog Tryz.laysValid_ren:={
 mixed:=by kernel_rfl
 f196:=Tryz.func193.trans (congrArg some (by kernel_rfl))
 f259:=Tryz.func239.trans (congrArg some (by kernel_rfl))
 t0:=Tryz.underlying0
 a0:=Tryz.isAgg0
 z0:=Tryz.sizeOf0
 v0:=Tryz.zeroValue0
 t3:=Tryz.underlying3
 a3:=Tryz.isAgg3
 z3:=Tryz.sizeOf3
 v3:=Tryz.zeroValue3
 t4:=Tryz.underlying4
 a4:=Tryz.isAgg4
 z4:=Tryz.sizeOf4
 v4:=Tryz.zeroValue4
 t5:=Tryz.underlying5
 a5:=Tryz.isAgg5
 z5:=Tryz.sizeOf5
 v5:=Tryz.zeroValue5
 t9:=Tryz.underlying9
 a9:=Tryz.isAgg9
 z9:=Tryz.sizeOf9
 v9:=Tryz.zeroValue9
 t12:=Tryz.underlying12
 a12:=Tryz.isAgg12
 z12:=Tryz.sizeOf12
 v12:=Tryz.zeroValue12
 t46:=Tryz.underlying145
 a46:=Tryz.isAgg145
 z46:=Tryz.sizeOf145
 v46:=Tryz.zeroValue145
 t53:=Tryz.underlying197
 a53:=Tryz.isAgg197
 z53:=Tryz.sizeOf197
 v53:=Tryz.zeroValue197
 t119:=Tryz.underlying238
 a119:=Tryz.isAgg238
 z119:=Tryz.sizeOf238
 t138:=Tryz.underlying240
 a138:=Tryz.isAgg240
 z138:=Tryz.sizeOf240
 v138:=Tryz.zeroValue240
 t139:=Tryz.underlying241
 a139:=Tryz.isAgg241
 z139:=Tryz.sizeOf241
 v139:=Tryz.zeroValue241
 g3:=by kernel_rfl
 g4:=by kernel_rfl}
def Tryz.lays156_ren:Go.Shelf.Ren:=⟨fun|156=>240|165=>255|166=>256|169=>257|240=>266|241=>267|276=>273|277=>274|n=>n,fun|31=>245|9=>9|3=>3|4=>4|0=>0|20=>20|72=>261|76=>264|70=>258|37=>259|75=>263|127=>276|164=>279|5=>5|80=>266|n=>n,fun|n=>n⟩
theorem Tryz.lays156:Go.Proofs.Lays.n156 Tryz.prog Tryz.lays156_ren:={
 mixed:=by kernel_rfl
 f156:=Tryz.func240.trans (congrArg some (by kernel_rfl))
 f165:=Tryz.func255.trans (congrArg some (by kernel_rfl))
 f166:=Tryz.func256.trans (congrArg some (by kernel_rfl))
 f169:=Tryz.func257.trans (congrArg some (by kernel_rfl))
 f240:=Tryz.func266.trans (congrArg some (by kernel_rfl))
 f241:=Tryz.func267.trans (congrArg some (by kernel_rfl))
 f276:=Tryz.func273.trans (congrArg some (by kernel_rfl))
 f277:=Tryz.func274.trans (congrArg some (by kernel_rfl))
 t0:=Tryz.underlying0
 a0:=Tryz.isAgg0
 z0:=Tryz.sizeOf0
 v0:=Tryz.zeroValue0
 t3:=Tryz.underlying3
 a3:=Tryz.isAgg3
 z3:=Tryz.sizeOf3
 v3:=Tryz.zeroValue3
 t4:=Tryz.underlying4
 a4:=Tryz.isAgg4
 z4:=Tryz.sizeOf4
 v4:=Tryz.zeroValue4
 t9:=Tryz.underlying9
 a9:=Tryz.isAgg9
 z9:=Tryz.sizeOf9
 v9:=Tryz.zeroValue9
 t20:=Tryz.underlying20
 a20:=Tryz.isAgg20
 z20:=Tryz.sizeOf20
 v20:=Tryz.zeroValue20
 t31:=Tryz.underlying245
 a31:=Tryz.isAgg245
 z31:=Tryz.sizeOf245
 v31:=Tryz.zeroValue245
 t37:=Tryz.underlying259
 a37:=Tryz.isAgg259
 z37:=Tryz.sizeOf259
 v37:=Tryz.zeroValue259
 t70:=Tryz.underlying258
 a70:=Tryz.isAgg258
 z70:=Tryz.sizeOf258
 v70:=Tryz.zeroValue258
 t72:=Tryz.underlying261
 a72:=Tryz.isAgg261
 z72:=Tryz.sizeOf261
 v72:=Tryz.zeroValue261
 t75:=Tryz.underlying263
 a75:=Tryz.isAgg263
 z75:=Tryz.sizeOf263
 v75:=Tryz.zeroValue263
 t76:=Tryz.underlying264
 a76:=Tryz.isAgg264
 z76:=Tryz.sizeOf264
 v76:=Tryz.zeroValue264
 t127:=Tryz.underlying276
 a127:=Tryz.isAgg276
 z127:=Tryz.sizeOf276
 v127:=Tryz.zeroValue276
 t164:=Tryz.underlying279
 a164:=Tryz.isAgg279
 z164:=Tryz.sizeOf279
 v164:=Tryz.zeroValue279}
theorem Tryz.Builder_Extra_156:Builder.Extra Tryz.prog Tryz.lays156_ren:={
 sizeBuilder:=by kernel_rfl
 liesBuilder:=by kernel_rfl
 t5:=Tryz.underlying5
 a5:=Tryz.isAgg5
 z5:=Tryz.sizeOf5
 v5:=Tryz.zeroValue5
 infoByte:=by kernel_rfl
 cellsByte:=by kernel_rfl
 sizeByte:=by kernel_rfl
 neB5:=by decide}
open Go.RowKit in
theorem Tryz.strings_Join_none (a:Option Addr) (c:Nat) (sep:ByteArray) (w:World) :
 Calls Tryz.prog 240 #[.slice a 0 c,.string sep] w fun e w'=>e=.returned (.string ⟨#[]⟩)∧w'=w:=Any.strings_Join_none Tryz.lays156 Tryz.Builder_Extra_156 a c sep w
open Go.RowKit in
theorem Tryz.strings_Join (bk o c:Nat) (xs:List ByteArray) (sep:ByteArray) (w:World) (hcells:∀(j:Nat) x,xs[j]?=some x→w.cell? ⟨bk,o+j,none⟩=some (.string x)) (hbk:bk<w.heap.size) (hN:xs.length≤140737488355328) (hcap:xs.length≤c) (hlen:(Lib.join (xs.map (·.data.toList)) sep.data.toList).length≤140737488355328) :
 Calls Tryz.prog 240 #[.slice (some ⟨bk,o,none⟩) xs.length c,.string sep] w fun e w'=>e=.returned (.string ⟨(Lib.join (xs.map (·.data.toList)) sep.data.toList).toArray⟩)∧Below w.heap.size w w':=Any.strings_Join Tryz.lays156 Tryz.Builder_Extra_156 bk o c xs sep w hcells hbk hN hcap hlen
def Tryz.lays229_ren:Go.Shelf.Ren:=⟨fun|229=>241|n=>n,fun|9=>9|40=>247|31=>245|152=>267|3=>3|0=>0|4=>4|21=>21|154=>269|n=>n,fun|n=>n⟩
theorem Tryz.lays229:Go.Proofs.Lays.n229 Tryz.prog Tryz.lays229_ren:={
 mixed:=by kernel_rfl
 f229:=Tryz.func241.trans (congrArg some (by kernel_rfl))
 t0:=Tryz.underlying0
 a0:=Tryz.isAgg0
 z0:=Tryz.sizeOf0
 v0:=Tryz.zeroValue0
 t3:=Tryz.underlying3
 a3:=Tryz.isAgg3
 z3:=Tryz.sizeOf3
 v3:=Tryz.zeroValue3
 t4:=Tryz.underlying4
 a4:=Tryz.isAgg4
 z4:=Tryz.sizeOf4
 v4:=Tryz.zeroValue4
 t9:=Tryz.underlying9
 a9:=Tryz.isAgg9
 z9:=Tryz.sizeOf9
 v9:=Tryz.zeroValue9
 t21:=Tryz.underlying21
 a21:=Tryz.isAgg21
 z21:=Tryz.sizeOf21
 v21:=Tryz.zeroValue21
 t31:=Tryz.underlying245
 a31:=Tryz.isAgg245
 z31:=Tryz.sizeOf245
 v31:=Tryz.zeroValue245
 t40:=Tryz.underlying247
 a40:=Tryz.isAgg247
 z40:=Tryz.sizeOf247
 v40:=Tryz.zeroValue247
 t152:=Tryz.underlying267
 a152:=Tryz.isAgg267
 z152:=Tryz.sizeOf267
 v152:=Tryz.zeroValue267
 t154:=Tryz.underlying269
 a154:=Tryz.isAgg269
 z154:=Tryz.sizeOf269
 v154:=Tryz.zeroValue269}
open Go.RowKit Go.Lib in
theorem Tryz.strings_FieldsFunc_runes (g:Nat) (lb:Array Value) (eg:∀args w,(callFunc g args).run Tryz.prog w=.ok (.enter g args) w) (p:Nat→Bool) (s:ByteArray) (w:World) (hs:s.size≤4294967296) (hp:PredAtRunes Tryz.prog g lb p w) :
 Calls Tryz.prog 241 #[.string s,.func (.func g) #[] lb] w fun e w'=>∃A,e=.returned (.slice (some ⟨A,0,none⟩) (Lib.goFieldsP p s).length (Lib.goFieldsP p s).length)∧w.heap.size≤A∧
  w'.ownsRow w.heap.size 9 1 (.slice (some ⟨A,0,none⟩) (Lib.goFieldsP p s).length (Lib.goFieldsP p s).length) (Lib.goFieldsP p s).length ((Lib.goFieldsP p s).map Value.string)∧Below w.heap.size w w':=Any.strings_FieldsFunc_runes Tryz.lays229 g lb eg p s w hs hp (by kernel_rfl) (by kernel_rfl)
open Go.RowKit Go.Lib in
theorem Tryz.strings_FieldsFunc (g:Nat) (lb:Array Value) (eg:∀args w,(callFunc g args).run Tryz.prog w=.ok (.enter g args) w) (p:Nat→Bool) (s:ByteArray) (w:World) (hs:s.size≤4294967296) (hp:PredAt Tryz.prog g lb encR p w) :
 Calls Tryz.prog 241 #[.string s,.func (.func g) #[] lb] w fun e w'=>∃A,e=.returned (.slice (some ⟨A,0,none⟩) (Lib.goFieldsP p s).length (Lib.goFieldsP p s).length)∧w.heap.size≤A∧
  w'.ownsRow w.heap.size 9 1 (.slice (some ⟨A,0,none⟩) (Lib.goFieldsP p s).length (Lib.goFieldsP p s).length) (Lib.goFieldsP p s).length ((Lib.goFieldsP p s).map Value.string)∧Below w.heap.size w w':=Any.strings_FieldsFunc Tryz.lays229 g lb eg p s w hs hp (by kernel_rfl) (by kernel_rfl)
def Tryz.laysSort_ren:Go.Shelf.Ren:=⟨fun|6=>59|15=>116|14=>115|28=>183|29=>184|20=>175|21=>176|22=>177|23=>178|24=>179|25=>180|26=>181|27=>182|46=>232|47=>233|48=>234|49=>235|50=>236|57=>254|n=>n,fun|22=>60|24=>63|25=>100|3=>3|39=>145|0=>0|53=>195|55=>197|4=>4|46=>188|45=>187|50=>192|5=>5|9=>9|66=>230|70=>234|76=>256|77=>37|n=>n,fun|n=>n⟩
theorem Tryz.laysSort:Go.Proofs.SlLaysF0.n6 Tryz.prog Tryz.laysSort_ren:={
 mixed:=by kernel_rfl
 f6:=⟨Tryz.f59.name,by decide,Tryz.func59.trans (congrArg some (by kernel_rfl))⟩
 f14:=⟨Tryz.f115.name,by decide,Tryz.func115.trans (congrArg some (by kernel_rfl))⟩
 f15:=Tryz.func116.trans (congrArg some (by kernel_rfl))
 f20:=⟨Tryz.f175.name,by decide,Tryz.func175.trans (congrArg some (by kernel_rfl))⟩
 f21:=⟨Tryz.f176.name,by decide,Tryz.func176.trans (congrArg some (by kernel_rfl))⟩
 f22:=⟨Tryz.f177.name,by decide,Tryz.func177.trans (congrArg some (by kernel_rfl))⟩
 f23:=⟨Tryz.f178.name,by decide,Tryz.func178.trans (congrArg some (by kernel_rfl))⟩
 f24:=⟨Tryz.f179.name,by decide,Tryz.func179.trans (congrArg some (by kernel_rfl))⟩
 f25:=⟨Tryz.f180.name,by decide,Tryz.func180.trans (congrArg some (by kernel_rfl))⟩
 f26:=⟨Tryz.f181.name,by decide,Tryz.func181.trans (congrArg some (by kernel_rfl))⟩
 f27:=⟨Tryz.f182.name,by decide,Tryz.func182.trans (congrArg some (by kernel_rfl))⟩
 f28:=Tryz.func183.trans (congrArg some (by kernel_rfl))
 f29:=Tryz.func184.trans (congrArg some (by kernel_rfl))
 f46:=⟨Tryz.f232.name,by decide,Tryz.func232.trans (congrArg some (by kernel_rfl))⟩
 f47:=Tryz.func233.trans (congrArg some (by kernel_rfl))
 f48:=Tryz.func234.trans (congrArg some (by kernel_rfl))
 f49:=⟨Tryz.f235.name,by decide,Tryz.func235.trans (congrArg some (by kernel_rfl))⟩
 f50:=⟨Tryz.f236.name,by decide,Tryz.func236.trans (congrArg some (by kernel_rfl))⟩
 f57:=⟨Tryz.f254.name,by decide,Tryz.func254.trans (congrArg some (by kernel_rfl))⟩
 t0:=Tryz.underlying0
 a0:=Tryz.isAgg0
 z0:=Tryz.sizeOf0
 v0:=Tryz.zeroValue0
 t3:=Tryz.underlying3
 a3:=Tryz.isAgg3
 z3:=Tryz.sizeOf3
 v3:=Tryz.zeroValue3
 t4:=Tryz.underlying4
 a4:=Tryz.isAgg4
 z4:=Tryz.sizeOf4
 v4:=Tryz.zeroValue4
 t5:=Tryz.underlying5
 a5:=Tryz.isAgg5
 z5:=Tryz.sizeOf5
 v5:=Tryz.zeroValue5
 t9:=Tryz.underlying9
 a9:=Tryz.isAgg9
 z9:=Tryz.sizeOf9
 v9:=Tryz.zeroValue9
 t22:=Tryz.underlying60
 a22:=Tryz.isAgg60
 z22:=Tryz.sizeOf60
 v22:=Tryz.zeroValue60
 t25:=Tryz.underlying100
 a25:=Tryz.isAgg100
 z25:=Tryz.sizeOf100
 v25:=Tryz.zeroValue100
 t39:=Tryz.underlying145
 a39:=Tryz.isAgg145
 z39:=Tryz.sizeOf145
 v39:=Tryz.zeroValue145
 t45:=Tryz.underlying187
 a45:=Tryz.isAgg187
 z45:=Tryz.sizeOf187
 v45:=Tryz.zeroValue187
 t46:=Tryz.underlying188
 a46:=Tryz.isAgg188
 z46:=Tryz.sizeOf188
 v46:=Tryz.zeroValue188
 t50:=Tryz.underlying192
 a50:=Tryz.isAgg192
 z50:=Tryz.sizeOf192
 v50:=Tryz.zeroValue192
 t53:=Tryz.underlying195
 a53:=Tryz.isAgg195
 z53:=Tryz.sizeOf195
 v53:=Tryz.zeroValue195
 t55:=Tryz.underlying197
 a55:=Tryz.isAgg197
 z55:=Tryz.sizeOf197
 v55:=Tryz.zeroValue197
 t66:=Tryz.underlying230
 a66:=Tryz.isAgg230
 z66:=Tryz.sizeOf230
 v66:=Tryz.zeroValue230
 t70:=Tryz.underlying234
 a70:=Tryz.isAgg234
 z70:=Tryz.sizeOf234
 v70:=Tryz.zeroValue234
 t76:=Tryz.underlying256
 a76:=Tryz.isAgg256
 z76:=Tryz.sizeOf256
 v76:=Tryz.zeroValue256
 t77:=Tryz.underlying37
 a77:=Tryz.isAgg37
 z77:=Tryz.sizeOf37
 v77:=Tryz.zeroValue37}
def Tryz.laysCmp_ren:Go.Shelf.Ren:=⟨fun|5=>62|7=>117|n=>n,fun|22=>3|3=>3|4=>4|n=>n,fun|n=>n⟩
theorem Tryz.laysCmp:Go.Proofs.SlLaysC2.n5 Tryz.prog Tryz.laysCmp_ren:={
 mixed:=by kernel_rfl
 f5:=⟨Tryz.f62.name,by decide,Tryz.func62.trans (congrArg some (by kernel_rfl))⟩
 f7:=⟨Tryz.f117.name,by decide,Tryz.func117.trans (congrArg some (by kernel_rfl))⟩
 t3:=Tryz.underlying3
 a3:=Tryz.isAgg3
 z3:=Tryz.sizeOf3
 v3:=Tryz.zeroValue3
 t4:=Tryz.underlying4
 a4:=Tryz.isAgg4
 z4:=Tryz.sizeOf4
 v4:=Tryz.zeroValue4
 t22:=Tryz.underlying3
 a22:=Tryz.isAgg3
 z22:=Tryz.sizeOf3
 v22:=Tryz.zeroValue3}
def Tryz.laysLen_ren:Go.Shelf.Ren:=⟨fun|125=>116|128=>183|129=>184|n=>n,fun|46=>145|3=>3|51=>195|53=>197|4=>4|5=>5|9=>9|n=>n,fun|n=>n⟩
theorem Tryz.laysLen:Go.Proofs.Lays.n125 Tryz.prog Tryz.laysLen_ren:={
 mixed:=by kernel_rfl
 f125:=Tryz.func116.trans (congrArg some (by kernel_rfl))
 f128:=Tryz.func183.trans (congrArg some (by kernel_rfl))
 f129:=Tryz.func184.trans (congrArg some (by kernel_rfl))
 t3:=Tryz.underlying3
 a3:=Tryz.isAgg3
 z3:=Tryz.sizeOf3
 v3:=Tryz.zeroValue3
 t4:=Tryz.underlying4
 a4:=Tryz.isAgg4
 z4:=Tryz.sizeOf4
 v4:=Tryz.zeroValue4
 t5:=Tryz.underlying5
 a5:=Tryz.isAgg5
 z5:=Tryz.sizeOf5
 v5:=Tryz.zeroValue5
 t9:=Tryz.underlying9
 a9:=Tryz.isAgg9
 z9:=Tryz.sizeOf9
 v9:=Tryz.zeroValue9
 t46:=Tryz.underlying145
 a46:=Tryz.isAgg145
 z46:=Tryz.sizeOf145
 v46:=Tryz.zeroValue145
 t51:=Tryz.underlying195
 a51:=Tryz.isAgg195
 z51:=Tryz.sizeOf195
 v51:=Tryz.zeroValue195
 t53:=Tryz.underlying197
 a53:=Tryz.isAgg197
 z53:=Tryz.sizeOf197
 v53:=Tryz.zeroValue197}
end Go.Proofs
namespace Go.Proofs.YtpaidiaknfhclaaGreatDoor
open Go Ev
open Go.Lib Go.RowKit
theorem z4y {X:Ending} (b:Bool) {b':Bool} (h:X=.returned (.bool b)) (e:b=b'):X=.returned (.bool b'):=e▸h
set_option maxHeartbeats 4000000 in
set_option maxRecDepth 1000000 in
theorem zyn (s:ByteArray) (w:World) (hs:s.size≤1073741824) (hT:Lib.Utf8Tabs 0 1 w) :
 Calls Tryz.prog 126 #[.string s] w fun e w'=>e=.returned (.bool (vld s.data.toList))∧Below w.heap.size w w':=by
 have cV:Calls Tryz.prog 193 #[.string s] w _:=Any.utf8_ValidString Tryz.laysValid s w (by omega) hT
 have hvl:vld s.data.toList=(Lib.validD s.data.toList&&okN s.size s.data.toList):=by rw[Lib.size_eq];exact zare _ _
 rw[hvl]
 clear hvl
 generalize Lib.validD s.data.toList=V at cV ⊢
 cases V with
 |false=>
  rw[Bool.false_and]
  go_enter Tryz.func126,Tryz.ntmps126
  go_wp2_with (go_at_call 193;refine cV.mono ?_;rintro e w' ⟨rfl,hb⟩)
  go_ret
  exact ⟨rfl,hb⟩
 |true=>
  rw[Bool.true_and]
  go_enter Tryz.func126,Tryz.ntmps126
  go_wp2_with (go_at_call 193;refine cV.mono ?_;rintro e w' ⟨rfl,hb⟩)
  go_loopg [4] (s.size+1) (fun gk s4 wx=>∃pos:Nat,wx.heap[w'.heap.size]?=some (.stringIter s pos)∧Below w.heap.size w wx∧
   okN gk (s.data.toList.drop pos)=okN s.size s.data.toList∧s.size≤pos+gk∧pos≤s.size)
  case atStart=>
   refine ⟨0,World.iter_heap w' s 0,hb.alloc hb.size _,?_,by omega,by omega⟩
   rw[List.drop_zero]
   exact zacd _ _ _ (by rw[←Lib.size_eq];omega) (by rw[←Lib.size_eq];omega)
  case round=>
   obtain ⟨pos,hit,hbw,hok,hfu,hps⟩:=hrel
   have hdec:Lib.decodeL (s.data.toList.drop pos)=Utf8.decode s pos:=Lib.decodeL_drop s pos
   by_cases hlt:pos<s.size
   ·obtain ⟨g',rfl⟩:∃g',gk=g'+1:=⟨gk-1,by omega⟩
    have hnx:∀ty,(Instr.next (.pointer (some ⟨w'.heap.size,0,none⟩)) true ty).run Tryz.prog wr=_:=fun ty=>Lib.run_next_any_at wr w'.heap.size s pos ty hit hlt
    have hne:s.data.toList.drop pos≠[]:=by rw[Ne,List.drop_eq_nil_iff,←Lib.size_eq];omega
    have hwd:=zep hne
    rw[hdec,List.length_drop,←Lib.size_eq]at hwd
    simp only[okN,hne,if_false,hdec,List.drop_drop]at hok
    obtain ⟨R,hR⟩:∃R,(Utf8.decode s pos).1=R:=⟨_,rfl⟩
    obtain ⟨K,hK⟩:∃K,(Utf8.decode s pos).2=K:=⟨_,rfl⟩
    rw[hR,hK]at hnx hok
    rw[hK]at hwd
    have hit2:=Lib.iterAt_heap wr w'.heap.size s pos (pos+K) hit
    have hbw2:=Lib.below_iterAt hbw (k:=w'.heap.size) hb.size s (pos+K)
    by_cases h1:R<32
    ·have hz:(R:Int)<32:=by omega
     have hb1:badC R=true:=zff.2 (.inl h1)
     rw[if_pos hb1]at hok
     go_wp2
     go_ret
     first|exact ⟨rfl,hbw2⟩|exact ⟨z4y false rfl hok,hbw2⟩
    ·have hz:¬(R:Int)<32:=by omega
     by_cases h2:127≤R
     ·have hz2:(127:Int)≤(R:Int):=by omega
      by_cases h3:R≤159
      ·have hz3:(R:Int)≤159:=by omega
       have hb1:badC R=true:=zff.2 (.inr (.inl ⟨h2,h3⟩))
       rw[if_pos hb1]at hok
       go_wp2
       go_ret
       first|exact ⟨rfl,hbw2⟩|exact ⟨z4y false rfl hok,hbw2⟩
      ·have hz3:¬(R:Int)≤159:=by omega
       by_cases h4:65535<R
       ·have hz4:(65535:Int)<(R:Int):=by omega
        have hb1:badC R=true:=zff.2 (.inr (.inr h4))
        rw[if_pos hb1]at hok
        go_wp2
        go_ret
        first|exact ⟨rfl,hbw2⟩|exact ⟨z4y false rfl hok,hbw2⟩
       ·have hz4:¬(65535:Int)<(R:Int):=by omega
        have hb1:¬badC R=true:=fun h=>by rw[zff]at h;omega
        rw[if_neg hb1]at hok
        go_wp2
        go_roundg g'
        case measure=>omega
        case rel=>exact ⟨pos+K,hit2,hbw2,hok,by omega,by omega⟩
     ·have hz2:¬(127:Int)≤(R:Int):=by omega
      have hz4:¬(65535:Int)<(R:Int):=by omega
      have hb1:¬badC R=true:=fun h=>by rw[zff]at h;omega
      rw[if_neg hb1]at hok
      go_wp2
      go_roundg g'
      case measure=>omega
      case rel=>exact ⟨pos+K,hit2,hbw2,hok,by omega,by omega⟩
   ·have:pos=s.size:=by omega
    subst this
    have hnx:∀ty,(Instr.next (.pointer (some ⟨w'.heap.size,0,none⟩)) true ty).run Tryz.prog wr=_:=fun ty=>Lib.run_next_end_at wr w'.heap.size s s.size ty hit hlt
    have hnil:s.data.toList.drop s.size=[]:=by rw[Lib.size_eq];simp
    have hok2:okN s.size s.data.toList=true:=by rw[←hok,hnil];cases gk<;>simp[okN]
    go_wp2
    go_ret
    first|exact ⟨rfl,hbw⟩|exact ⟨z4y true rfl hok2.symm,hbw⟩
set_option maxRecDepth 1000000 in
theorem zv8 (R:Nat) (hR:R≤1114111) (w:World):Calls Tryz.prog 242 #[.int .i32 (R:Int)] w fun e w'=>e=.returned (.bool (blk R))∧∃q,w'=w.drewN q:=by
 by_cases h1:R=32
 ·subst h1
  go_enter Tryz.func242,Tryz.ntmps242
  go_wp2
  go_ret
  exact ⟨rfl,0,rfl⟩
 ·have z1:¬(R:Int)=32:=by omega
  by_cases h2:R=160
  ·subst h2
   go_enter Tryz.func242,Tryz.ntmps242
   go_wp2
   go_ret
   exact ⟨rfl,0,rfl⟩
  ·have z2:¬(R:Int)=160:=by omega
   have hb:blk R=false:=by unfold blk;simp[h1,h2]
   go_enter Tryz.func242,Tryz.ntmps242
   go_wp2
   go_ret
   exact ⟨z4y ((R:Int)==32||(R:Int)==160) rfl (by rw[hb,Bool.or_eq_false_iff];exact ⟨by simp;omega,by simp;omega⟩),0,rfl⟩
set_option maxHeartbeats 4000000 in
set_option maxRecDepth 1000000 in
theorem zwo (s:ByteArray) (w:World) (hs:s.size≤1073741824) (hv:vld s.data.toList=true) :
 Calls Tryz.prog 198 #[.string s] w fun e w'=>e=.returned (.string ⟨(cln s.data.toList).toArray⟩)∧Below w.heap.size w w':=by
 have eg:∀args w,(callFunc 242 args).run Tryz.prog w=.ok (.enter 242 args) w:=enters_of Tryz.func242 (by kernel_rfl) rfl
 have hp:PredAtRunes Tryz.prog 242 #[] blk w:=fun W x hx hb=>by
  exact zv8 x hx W
 have cF:=Tryz.strings_FieldsFunc_runes 242 #[] eg blk s w (by omega) hp
 have hj:=zwp (s:=s) (p:=blk) (fun _=>rfl) hv
 have hlen:(cln s.data.toList).length≤2*s.size:=zais s
 obtain ⟨Fs,hFs⟩:∃Fs,Lib.goFieldsP blk s=Fs:=⟨_,rfl⟩
 have hfl:=zw2 blk s
 rw[hFs]at hj cF hfl
 have cJ:∀A W,Below w.heap.size w W→W.ownsRow w.heap.size 9 1 (.slice (some ⟨A,0,none⟩) Fs.length Fs.length) Fs.length (Fs.map Value.string)→
  Calls Tryz.prog 240 #[.slice (some ⟨A,0,none⟩) Fs.length Fs.length,.string ⟨#[32]⟩] W fun e w'=>e=.returned (.string ⟨(cln s.data.toList).toArray⟩)∧Below w.heap.size w w':=by
  intro A W hb hrow
  by_cases h0:Fs=[]
  ·subst h0
   have:=Tryz.strings_Join_none (some ⟨A,0,none⟩) 0 ⟨#[32]⟩ W
   refine this.mono ?_
   rintro e w' ⟨rfl,rfl⟩
   rw[←hj]
   exact ⟨rfl,hb⟩
  ·obtain ⟨-,h|⟨g,cap,cur,hv2,hbg,hh,hn,hmx,hcs,hct⟩⟩:=hrow
   ·exact absurd (List.length_eq_zero_iff.1 h.2) h0
   ·injection hv2 with e1 e2 e3
    injection e1 with e1
    injection e1 with e1
    subst e1
    have hj2:(Lib.join (Fs.map (·.data.toList)) (⟨#[32]⟩:ByteArray).data.toList)=cln s.data.toList:=hj
    have:=Tryz.strings_Join A 0 Fs.length Fs ⟨#[32]⟩ W (fun j x hx=>by
     rw[Nat.mul_one]at hct
     have hj3:j<Fs.length:=(List.getElem?_eq_some_iff.1 hx).1
     have e4:cur.toList[j]?=some (Value.string x):=by
      rw[←List.getElem?_take_of_lt hj3,hct,List.getElem?_map,hx];rfl
     rw[Array.getElem?_toList]at e4
     rw[Nat.zero_add]
     simp only[World.cell?,hh]
     exact e4) (Array.getElem?_eq_some_iff.1 hh).1 (by omega) (Nat.le_refl _) (by rw[hj2];omega)
    refine this.mono ?_
    rintro e w' ⟨rfl,hb2⟩
    rw[hj2]
    exact ⟨rfl,hb.trans (hb2.mono hb.size)⟩
 clear hj hlen hFs hfl
 go_enter Tryz.func198,Tryz.ntmps198
 go_wp2_with (first|(go_at_call 241;refine cF.mono ?_;rintro e w' ⟨A,rfl,hA,hrow,hb⟩)|(go_at_call 240;refine (cJ A _ hb hrow).mono ?_;rintro e w'' ⟨rfl,hb2⟩))
 go_ret
 exact ⟨rfl,hb2⟩
end Go.Proofs.YtpaidiaknfhclaaGreatDoor
namespace Go.Proofs.YtpaidiaknfhclaaGreatDoor
open Go Ev
theorem zgh:∃i0 z,Tryz.prog.info? 53=some i0∧i0.zero=some z∧z.cells.size=10∧i0.size=10∧i0.bytes≤128:=by
 have h:(match Tryz.prog.info? 53 with|some i=>(match i.zero with|some z=>Nat.beq z.cells.size 10&&Nat.beq i.size 10&&Nat.ble i.bytes 128|none=>false)|none=>false)=true:=by kernel_rfl
 split at h
 ·rename_i i hi
  split at h
  ·rename_i z hz
   simp only[Bool.and_eq_true]at h
   exact ⟨i,z,hi,hz,Nat.eq_of_beq_eq_true h.1.1,Nat.eq_of_beq_eq_true h.1.2,Nat.le_of_ble_eq_true h.2⟩
  ·cases h
 ·cases h
set_option maxHeartbeats 4000000 in
set_option maxRecDepth 100000 in
theorem zj9 {w:World} {b n c i vb vo vc:Nat} {L vs:List Value} {t:TypeId} (hi:i<n) (hroom:n+1≤c) (hlim:n+1≤1073741824) (hvb:vb≠b)
 (hb:w.heap[b]?=some (.cells L.toArray t (0,0))) (hL:L.length=c*10) (hvl:vs.length=10)
 (hvs:∀j v,vs[j]?=some v→w.cell? ⟨vb,vo+j,none⟩=some v) (h1:∀v∈(L.drop (i*10)).take ((n-i)*10),v.oneCell'=true) (h2:∀v∈vs,v.oneCell'=true) :
 Calls Tryz.prog 102 #[.slice (some ⟨b,0,none⟩) n c,.int .i64 i,.slice (some ⟨vb,vo,none⟩) 1 vc] w fun e w'=>
  e=.returned (.slice (some ⟨b,0,none⟩) (n+1) c)∧w'=(w.drew.setRow b (Go.splice L ((i+1)*10) ((L.drop (i*10)).take ((n-i)*10))).toArray).setRow b (Go.splice (Go.splice L ((i+1)*10) ((L.drop (i*10)).take ((n-i)*10))) (i*10) vs).toArray:=by
 obtain ⟨i0,z0,hi0,hz0,hzs,hsz,hby⟩:=zgh
 have hz2:¬((i:Int)=(n:Int)):=by omega
 have hva:∃va ta fa,w.heap[vb]?=some (.cells va ta fa)∧0<va.size:=by
  have h:=hvs 0 _ (List.getElem?_eq_getElem (by omega))
  unfold World.cell? at h
  split at h
  ·rename_i c0 t0 f0 hc0
   exact ⟨c0,t0,f0,hc0,by have:=(Array.getElem?_eq_some_iff.1 h).1;omega⟩
  ·cases h
 obtain ⟨va,ta,fa,hva,hva0⟩:=hva
 have hov:∀lb cb,(callFunc 154 #[.slice (some ⟨vb,vo,none⟩) 1 vc,.slice (some ⟨b,(i+1)*10,none⟩) lb cb]).run Tryz.prog w=.ok (.value (.bool false)) w:=fun lb cb=>by
  rw[run_callFunc_extern Tryz.func154 (by kernel_rfl) (by kernel_rfl) (by kernel_rfl) (e:=Extern.SlicesOverlaps.overlaps #[22,22] #[4]) (by kernel_rfl),
   zc9 Tryz.underlying22 hi0 (a:=⟨vb,vo,none⟩) (b:=⟨b,(i+1)*10,none⟩) hvb hva hva0 hb (by simp only[List.size_toArray];omega)]
  rfl
 have hLn:(n+1)*10≤L.length:=by rw[hL];exact Nat.mul_le_mul_right _ hroom
 obtain ⟨C1,hC1⟩:∃C1,C1=(L.drop (i*10)).take ((n-i)*10):=⟨_,rfl⟩
 have hC1l:C1.length=(n-i)*10:=by rw[hC1];simp;omega
 obtain ⟨M1,hM1⟩:∃M1,M1=Go.splice L ((i+1)*10) C1:=⟨_,rfl⟩
 have hM1l:M1.length=L.length:=by rw[hM1];exact length_splice _ _ _ (by omega)
 rw[←hC1,←hM1]
 have hcp1:∀ty dc sc,(Builtin.copy_ #[22,22] ty #[.slice (some ⟨b,(i+1)*10,none⟩) (n-i) dc,.slice (some ⟨b,i*10,none⟩) (n+1-i) sc]).run Tryz.prog w.drew=.ok (goInt ((n-i:Nat):Int)) (w.drew.setRow b M1.toArray):=fun ty dc sc=>by
  have hmin:Nat.min (n+1-i) (n-i)=n-i:=by show min _ _=_;omega
  have:=zbc (P:=Tryz.prog) (w:=w.drew) (sT:=22) (ty:=ty) (dCap:=dc) (sCap:=sc) (dLen:=n-i) (sLen:=n+1-i) (o:=(i+1)*10) (a:=⟨b,i*10,none⟩) Tryz.underlying22 hi0 hsz hb (cs:=C1) (by rw[hmin];exact hC1l)
   (fun j v hj=>by
    rw[Addr.add_lit]
    show w.cell? _=_
    simp only[World.cell?,hb]
    rw[hC1,List.getElem?_take]at hj
    split at hj
    ·simpa using hj
    ·cases hj) (by omega) (by rw[hC1];exact h1)
  rw[hmin,←hM1]at this
  exact this
 have hcp2:∀(W:World),W=(w.drew.setRow b M1.toArray)→∀ty dc,(Builtin.copy_ #[22,22] ty #[.slice (some ⟨b,i*10,none⟩) (n+1-i) dc,.slice (some ⟨vb,vo,none⟩) 1 vc]).run Tryz.prog W=.ok (goInt 1) (W.setRow b (Go.splice M1 (i*10) vs).toArray):=fun W hW ty dc=>by
  have hmin:Nat.min 1 (n+1-i)=1:=by show min _ _=_;omega
  have:=zbc (P:=Tryz.prog) (w:=W) (sT:=22) (ty:=ty) (dCap:=dc) (sCap:=vc) (dLen:=n+1-i) (sLen:=1) (o:=i*10) (a:=⟨vb,vo,none⟩) Tryz.underlying22 hi0 hsz (g:=b) (t:=t) (L:=M1) (by rw[hW];exact setRow_heap _ _ _ _ _ _ hb) (cs:=vs) (by rw[hmin];omega)
   (fun j v hj=>by
    rw[Addr.add_lit,hW,cell_setRow_other _ _ _ _ hvb]
    exact hvs j v hj) (by omega) h2
  rw[hmin]at this
  exact this
 have hw1:IntKind.i64.wrap ((i:Int)+1)=(i:Int)+1:=by rw[IntKind.wrap_i64];omega
 have hb1:(0:Int)≤(i:Int)+1:=by omega
 have hin:i≤n:=by omega
 have htn:((i:Int)+1).toNat=i+1:=by omega
 have hb2:¬(c=i+1):=by omega
 have hb3:(i:Int)≤(n:Int)+1:=by omega
 have hb4:¬(c=i):=by omega
 have mixed:Tryz.prog.follows .mixedOrders=true:=by kernel_rfl
 clear hC1 hM1 hC1l hM1l h1 h2 hvs hL
 go_enter Tryz.func102,Tryz.ntmps102
 go_wp2_with (simp only[hov])
 go_region_law_o (refine zcu rfl _ _ 22 22 rfl _ _ (by simp[Act.eval,Act.put]) (by simp[Act.eval,Act.put]) (hcp1 _ _ _) ?_)
 go_wp2_with (at_builtin;refine zj4 rfl _ _ 22 22 rfl _ _ rfl rfl (hcp2 _ rfl _ _) ?_)
 go_ret
 exact ⟨rfl,rfl⟩
theorem zkj {i0:TypeInfo} {k c:Nat} (h:c<k) (hk:k≤1073741824) (hby:i0.bytes≤128):Builtin.nextslicecap k c*i0.bytes≤281474976710656:=
 growslice_fits h (Nat.le_trans (Nat.mul_le_mul hk hby) (by decide))
set_option maxHeartbeats 4000000 in
set_option maxRecDepth 100000 in
theorem zmt {w:World} {b n c vb vo vc:Nat} {L vs:List Value} {t:TypeId} (hroom:n+1≤c) (hlim:n+1≤1073741824)
 (hb:w.heap[b]?=some (.cells L.toArray t (0,0))) (hL:L.length=c*10) (hvl:vs.length=10)
 (hvs:∀j v,vs[j]?=some v→w.cell? ⟨vb,vo+j,none⟩=some v) (h2:∀v∈vs,v.oneCell'=true) :
 Calls Tryz.prog 102 #[.slice (some ⟨b,0,none⟩) n c,.int .i64 n,.slice (some ⟨vb,vo,none⟩) 1 vc] w fun e w'=>
  e=.returned (.slice (some ⟨b,0,none⟩) (n+1) c)∧w'=w.setRow b (Go.splice L (n*10) vs).toArray:=by
 obtain ⟨i0,z0,hi0,hz0,hzs,hsz,hby⟩:=zgh
 have hLn:(n+1)*10≤L.length:=by rw[hL];exact Nat.mul_le_mul_right _ hroom
 have hf:=run_firstCells_some (P:=Tryz.prog) w i0.size 1 ⟨vb,vo,none⟩ 1 vc vs (by omega) (fun j v hj=>by rw[Addr.add_lit];exact hvs j v hj)
 have hap:∀ty,(Builtin.append_ #[22,22] ty #[.slice (some ⟨b,0,none⟩) n c,.slice (some ⟨vb,vo,none⟩) 1 vc]).run Tryz.prog w=.ok (.slice (some ⟨b,0,none⟩) (n+1) c) (w.setRow b (Go.splice L (n*10) vs).toArray):=fun ty=>by
  have:=zbv (P:=Tryz.prog) (w:=w) (ty:=ty) (ts:=#[22,22]) rfl rfl Tryz.underlying22 Tryz.underlying22 hi0 hf hroom hb (by simp only[List.size_toArray];rw[hsz];omega) h2
  rw[hsz]at this
  simpa[Go.splice]using this
 go_enter Tryz.func102,Tryz.ntmps102
 go_wp2_with (at_builtin;refine zbd rfl _ _ _ _ rfl _ _ rfl rfl (hap _) ?_)
 all_goals (go_ret;exact ⟨rfl,rfl⟩)
set_option maxHeartbeats 4000000 in
set_option maxRecDepth 100000 in
theorem zor {w:World} {base:Option Addr} {n c vb vo vc:Nat} {olds vs:List Value} (hnc:n≤c) (hroom:c<n+1) (hlim:n+1≤1073741824) (hvl:vs.length=10)
 (hnil:base=none→n=0) (hol:olds.length=n*10) (hos:∀a,base=some a→∀j v,olds[j]?=some v→w.cell? (a.add j)=some v)
 (hvs:∀j v,vs[j]?=some v→w.cell? ⟨vb,vo+j,none⟩=some v) :
 Calls Tryz.prog 102 #[.slice base n c,.int .i64 n,.slice (some ⟨vb,vo,none⟩) 1 vc] w fun e w'=>
  ∃cap zs,e=.returned (.slice (some ⟨w.heap.size,0,none⟩) (n+1) cap)∧w'=w.drew.alloc (.cells (olds++(vs++zs)).toArray 53)∧n+1≤cap∧zs.length=(cap-(n+1))*10:=by
 obtain ⟨i0,z0,hi0,hz0,hzs,hsz,hby⟩:=zgh
 have hf:=run_firstCells_some (P:=Tryz.prog) w.drew i0.size 1 ⟨vb,vo,none⟩ 1 vc vs (by omega) (fun j v hj=>by rw[Addr.add_lit];exact hvs j v hj)
 have hold:(Builtin.firstCells i0.size n (.slice base n c)).run Tryz.prog w.drew=.ok olds.toArray w.drew:=by
  cases base with
  |none=>
   have h0:=hnil rfl
   subst h0
   rw[List.length_eq_zero_iff.1 (by omega:olds.length=0)]
   exact run_firstCells_none w.drew _ 0 0 c
  |some a=>exact run_firstCells_some w.drew _ n a n c olds (by rw[hsz];omega) (fun j v hj=>hos a rfl j v hj)
 have hap:∀ty,(Builtin.append_ #[22,22] ty #[.slice base n c,.slice (some ⟨vb,vo,none⟩) 1 vc]).run Tryz.prog w=_:=fun ty=>
  zb7 (P:=Tryz.prog) (w:=w) (ty:=ty) (ts:=#[22,22]) rfl rfl Tryz.underlying22 Tryz.underlying22 hi0 hz0 hf hold hroom (by omega) (zkj hroom hlim hby)
 have hge:=zbz w (n+1) c 53
 obtain ⟨G,hG⟩:∃G,G=grownCap w (n+1) c 53:=⟨_,rfl⟩
 obtain ⟨zs,hzs'⟩:∃zs,zs=(Builtin.zeroCells z0.cells (G-(n+1))).toList:=⟨_,rfl⟩
 rw[←hG]at hap hge
 rw[←hzs']at hap
 have hzl:zs.length=(G-(n+1))*10:=by rw[hzs',Array.length_toList,size_zeroCells,hzs]
 clear hG hzs'
 go_enter Tryz.func102,Tryz.ntmps102
 cases base with
 |none=>
  have h0:=hnil rfl
  subst h0
  go_wp2_with (at_builtin;refine zbd rfl _ _ _ _ rfl _ _ rfl rfl (hap _) ?_)
  all_goals (go_ret;first|exact ⟨_,_,rfl,rfl,hge,hzl⟩|exact ⟨_,rfl,_,rfl,hge,hzl⟩)
 |some a=>
  obtain ⟨ab,ao,asp⟩:=a
  go_wp2_with (at_builtin;refine zbd rfl _ _ _ _ rfl _ _ rfl rfl (hap _) ?_)
  all_goals (go_ret;first|exact ⟨_,_,rfl,rfl,hge,hzl⟩|exact ⟨_,rfl,_,rfl,hge,hzl⟩)
set_option maxHeartbeats 4000000 in
set_option maxRecDepth 100000 in
theorem zms {w:World} {b n c i vb vo vc:Nat} {L vs:List Value} {t:TypeId} (hi:i<n) (hnc:n≤c) (hroom:c<n+1) (hlim:n+1≤1073741824) (hvb:vb≠b)
 (hb:w.heap[b]?=some (.cells L.toArray t (0,0))) (hL:L.length=c*10) (hvl:vs.length=10)
 (hvs:∀j v,vs[j]?=some v→w.cell? ⟨vb,vo+j,none⟩=some v) (h1:∀v∈(L.drop (i*10)).take ((n-i)*10),v.oneCell'=true) (h2:∀v∈vs,v.oneCell'=true) :
 Calls Tryz.prog 102 #[.slice (some ⟨b,0,none⟩) n c,.int .i64 i,.slice (some ⟨vb,vo,none⟩) 1 vc] w fun e w'=>
  ∃cap row,e=.returned (.slice (some ⟨w.heap.size,0,none⟩) (n+1) cap)∧n+1≤cap∧row.length=cap*10∧row.take (i*10)=L.take (i*10)∧
   w'.heap=(w.heap.push (.cells (Go.splice (Go.splice row (i*10) vs) ((i+1)*10) ((L.drop (i*10)).take ((n-i)*10))).toArray 53))∧w'.os=w.os∧w'.output=w.output∧w'.tape=w.tape:=by
 obtain ⟨i0,z0,hi0,hz0,hzs,hsz,hby⟩:=zgh
 have hz2:¬((i:Int)=(n:Int)):=by omega
 have hz3:(c:Int)<(n:Int)+1:=by omega
 have hLn:n*10≤L.length:=by rw[hL];exact Nat.mul_le_mul_right _ hnc
 have hbw:b<w.heap.size:=(Array.getElem?_eq_some_iff.1 hb).1
 have hvw:vb<w.heap.size:=by
  have h:=hvs 0 _ (List.getElem?_eq_getElem (by omega))
  unfold World.cell? at h
  split at h
  ·rename_i c0 t0 f0 hc0
   exact (Array.getElem?_eq_some_iff.1 hc0).1
  ·cases h
 have hkk:(n:Int)+1-(i:Int)=((n+1-i:Nat):Int):=by omega
 have hik:i+(n+1-i)=n+1:=by omega
 have hTl:(L.take (i*10)).length=i*10:=by simp;omega
 have hold:(Builtin.firstCells i0.size i (.slice (some ⟨b,0,none⟩) i c)).run Tryz.prog w.drew=.ok (L.take (i*10)).toArray w.drew:=by
  refine run_firstCells_some w.drew _ i ⟨b,0,none⟩ i c (L.take (i*10)) (by rw[hsz];exact hTl) (fun j v hj=>?_)
  rw[Addr.add_lit,Nat.zero_add]
  show w.cell? _=_
  simp only[World.cell?,hb]
  rw[List.getElem?_take]at hj
  split at hj
  ·simpa using hj
  ·cases hj
 have hrz:∀ty,(Builtin.append_ #[22,3] ty #[.slice (some ⟨b,0,none⟩) i c,.int .i64 ((n:Int)+1-(i:Int))]).run Tryz.prog w =
  .ok (.slice (some ⟨w.heap.size,0,none⟩) (n+1) (grownCap w (n+1) c 53)) (w.drew.alloc (.cells ((L.take (i*10)).toArray++Builtin.zeroCells z0.cells (n+1-i)++Builtin.zeroCells z0.cells (grownCap w (n+1) c 53-(n+1))) 53)):=fun ty=>by
  have h:=Lib.run_append_grow_zeros w 22 3 ty 53 i0 _ .i64 .i64 Tryz.underlying22 Tryz.underlying3 hi0 hz0 (some ⟨b,0,none⟩) i c _ hold (n+1-i) (by omega) (by omega) (by omega) (by omega)
   (Nat.le_trans (Nat.mul_le_mul (show n+1-i≤1073741824 by omega) hby) (by decide)) (by rw[hik];exact zkj hroom hlim hby)
  rw[hik]at h
  rw[hkk]
  exact h
 have hge:=zbz w (n+1) c 53
 obtain ⟨G,hG⟩:∃G,G=grownCap w (n+1) c 53:=⟨_,rfl⟩
 rw[←hG]at hrz hge
 have hG63:G≤9223372036854775807:=by
  have:=grownCap_le_maxLen w (n+1) c 53 (by unfold maxLen;omega)
  rw[←hG]at this
  unfold maxLen at this
  omega
 obtain ⟨R,hR⟩:∃R:List Value,R=L.take (i*10)++((Builtin.zeroCells z0.cells (n+1-i)).toList++(Builtin.zeroCells z0.cells (G-(n+1))).toList):=⟨_,rfl⟩
 have hRl:R.length=G*10:=by
  rw[hR]
  simp only[List.length_append,Array.length_toList,size_zeroCells,hzs,hTl]
  rw[←Nat.add_mul,←Nat.add_mul]
  congr 1
  omega
 have hRt:R.take (i*10)=L.take (i*10):=by rw[hR,List.take_append_of_le_length (by omega),List.take_of_length_le (by omega)]
 have hRe:(L.take (i*10)).toArray++Builtin.zeroCells z0.cells (n+1-i)++Builtin.zeroCells z0.cells (G-(n+1))=R.toArray:=by
  rw[hR];apply Array.ext';simp
 rw[hRe]at hrz
 obtain ⟨C1,hC1⟩:∃C1,C1=(L.drop (i*10)).take ((n-i)*10):=⟨_,rfl⟩
 have hC1l:C1.length=(n-i)*10:=by rw[hC1];simp;omega
 have hGn:(n+1)*10≤R.length:=by rw[hRl];exact Nat.mul_le_mul_right _ hge
 obtain ⟨M1,hM1⟩:∃M1,M1=Go.splice R (i*10) vs:=⟨_,rfl⟩
 have hM1l:M1.length=R.length:=by rw[hM1];exact length_splice _ _ _ (by omega)
 rw[←hC1]
 obtain ⟨gb,hgb⟩:∃gb,gb=w.heap.size:=⟨_,rfl⟩
 have hnew:∀W:World,W.heap=w.heap.push (.cells R.toArray 53)→W.heap[gb]?=some (.cells R.toArray 53 (0,0)):=fun W hW=>by rw[hW,hgb];simp
 have hpast:∀W:World,W.heap=w.heap.push (.cells R.toArray 53)→∀k,k<w.heap.size→W.heap[k]?=w.heap[k]?:=fun W hW k hk=>by rw[hW,Array.getElem?_push_lt hk];simp[hk]
 have hcpA:∀(W:World),W.heap=w.heap.push (.cells R.toArray 53)→∀ty dc,(Builtin.copy_ #[22,22] ty #[.slice (some ⟨gb,i*10,none⟩) (n+1-i) dc,.slice (some ⟨vb,vo,none⟩) 1 vc]).run Tryz.prog W=.ok (goInt 1) (W.setRow gb M1.toArray):=fun W hW ty dc=>by
  have hmin:Nat.min 1 (n+1-i)=1:=by show min _ _=_;omega
  have:=zbc (P:=Tryz.prog) (w:=W) (sT:=22) (ty:=ty) (dCap:=dc) (sCap:=vc) (dLen:=n+1-i) (sLen:=1) (o:=i*10) (a:=⟨vb,vo,none⟩) Tryz.underlying22 hi0 hsz (g:=gb) (t:=53) (L:=R) (hnew W hW) (cs:=vs) (by rw[hmin];omega)
   (fun j v hj=>by
    rw[Addr.add_lit]
    unfold World.cell?
    rw[show W.heap[(⟨vb,vo+j,none⟩:Addr).block]?=w.heap[vb]? from hpast W hW vb hvw]
    exact hvs j v hj) (by omega) h2
  rw[hmin,←hM1]at this
  exact this
 have hcpB:∀(W W0:World),W0.heap=w.heap.push (.cells R.toArray 53)→W.heap=(W0.setRow gb M1.toArray).heap→∀ty dc sc,(Builtin.copy_ #[22,22] ty #[.slice (some ⟨gb,(i+1)*10,none⟩) (n-i) dc,.slice (some ⟨b,i*10,none⟩) (n-i) sc]).run Tryz.prog W=.ok (goInt ((n-i:Nat):Int)) (W.setRow gb (Go.splice M1 ((i+1)*10) C1).toArray):=fun W W0 hW0 hW ty dc sc=>by
  have hmin:Nat.min (n-i) (n-i)=n-i:=by show min _ _=_;omega
  have:=zbc (P:=Tryz.prog) (w:=W) (sT:=22) (ty:=ty) (dCap:=dc) (sCap:=sc) (dLen:=n-i) (sLen:=n-i) (o:=(i+1)*10) (a:=⟨b,i*10,none⟩) Tryz.underlying22 hi0 hsz (g:=gb) (t:=53) (L:=M1) (by rw[hW];exact setRow_heap _ _ _ _ _ _ (hnew W0 hW0)) (cs:=C1) (by rw[hmin];exact hC1l)
   (fun j v hj=>by
    rw[Addr.add_lit]
    unfold World.cell?
    have e:W.heap[(⟨b,i*10+j,none⟩:Addr).block]?=w.heap[b]?:=by
     show W.heap[b]?=_
     rw[hW,setRow_other _ _ _ _ (by omega),hpast W0 hW0 b hbw]
    rw[e,hb]
    rw[hC1,List.getElem?_take]at hj
    split at hj
    ·simpa using hj
    ·cases hj) (by omega) (by rw[hC1];exact h1)
  rw[hmin]at this
  exact this
 have hw1:IntKind.i64.wrap ((i:Int)+1)=(i:Int)+1:=by rw[IntKind.wrap_i64];omega
 have hb1:(0:Int)≤(i:Int)+1:=by omega
 have hin:i≤n:=by omega
 have htn:((i:Int)+1).toNat=i+1:=by omega
 have hb3:(i:Int)≤(n:Int):=by omega
 have hGi:¬(G=i):=by omega
 have hGim:¬(G=i+1):=by omega
 have hci:¬(c=i):=by omega
 have hmixed:Tryz.prog.follows .mixedOrders=true:=by kernel_rfl
 have mixed:=hmixed
 have hfin:∀W W0:World,W0.heap=w.heap.push (.cells R.toArray 53)→W.heap=(W0.setRow gb M1.toArray).heap→(W.setRow gb (Go.splice M1 ((i+1)*10) C1).toArray).heap=w.heap.push (.cells (Go.splice M1 ((i+1)*10) C1).toArray 53):=fun W W0 hW0 hW=>by
  have h1:W.heap[gb]?=some (.cells M1.toArray 53 (0,0)):=by rw[hW];exact setRow_heap _ _ _ _ _ _ (hnew W0 hW0)
  have hsz0:W.heap.size=w.heap.size+1:=by rw[hW,setRow_size,hW0];simp
  apply Array.ext_getElem?
  intro k
  by_cases hk:k=gb
  ·subst hk
   rw[setRow_heap _ _ _ _ _ _ h1,hgb];simp
  ·rw[setRow_other _ _ _ _ hk]
   by_cases hk2:k<w.heap.size
   ·rw[hW,setRow_other _ _ _ _ hk,hpast W0 hW0 k hk2,Array.getElem?_push_lt hk2];simp[hk2]
   ·rw[Array.getElem?_eq_none (by omega),Array.getElem?_eq_none (by simp;omega)]
 have hMM:Go.splice (Go.splice R (i*10) vs) ((i+1)*10) C1=Go.splice M1 ((i+1)*10) C1:=by rw[hM1]
 subst hgb
 have hcpA':=hcpA ((w.alloc (.cells R.toArray 53)).drew) rfl
 clear hkk hcpA hik hold hG hR hRe hC1 hM1 hC1l hM1l h1 h2 hvs hL hTl
 go_enter Tryz.func102,Tryz.ntmps102
 go_wp2_with (at_builtin;refine zbd rfl _ _ _ _ rfl _ _ rfl rfl (hrz _) ?_)
 go_region_law_o (refine zcu rfl _ _ 22 22 rfl (.slice (some ⟨w.heap.size,(i+1)*10,none⟩) (n-i) (G-(i+1))) (.slice (some ⟨b,i*10,none⟩) (n-i) (c-i)) (by simp[Act.eval,Act.put]) (by simp[Act.eval,Act.put]) (hcpB (((w.alloc (.cells R.toArray 53)).drew.setRow w.heap.size M1.toArray).drew) (w.drew.alloc (.cells R.toArray 53)) rfl rfl 3 (G-(i+1)) (c-i)) ?_)
 go_wp2
 go_ret
 refine ⟨G,R,rfl,hge,hRl,hRt,?_,rfl,rfl,rfl⟩
 rw[hMM]
 exact hfin _ (w.drew.alloc (.cells R.toArray 53)) rfl rfl
end Go.Proofs.YtpaidiaknfhclaaGreatDoor
namespace Go.Proofs.YtpaidiaknfhclaaGreatDoor
open Go Ev
theorem zer:∃i0 z,Tryz.prog.info? 71=some i0∧i0.zero=some z∧z.cells.size=6∧i0.size=6∧i0.bytes≤128:=by
 have h:(match Tryz.prog.info? 71 with|some i=>(match i.zero with|some z=>Nat.beq z.cells.size 6&&Nat.beq i.size 6&&Nat.ble i.bytes 128|none=>false)|none=>false)=true:=by kernel_rfl
 split at h
 ·rename_i i hi
  split at h
  ·rename_i z hz
   simp only[Bool.and_eq_true]at h
   exact ⟨i,z,hi,hz,Nat.eq_of_beq_eq_true h.1.1,Nat.eq_of_beq_eq_true h.1.2,Nat.le_of_ble_eq_true h.2⟩
  ·cases h
 ·cases h
set_option maxHeartbeats 4000000 in
set_option maxRecDepth 100000 in
theorem zhk {w:World} {b n c i vb vo vc:Nat} {L vs:List Value} {t:TypeId} (hi:i<n) (hroom:n+1≤c) (hlim:n+1≤1073741824) (hvb:vb≠b)
 (hb:w.heap[b]?=some (.cells L.toArray t (0,0))) (hL:L.length=c*6) (hvl:vs.length=6)
 (hvs:∀j v,vs[j]?=some v→w.cell? ⟨vb,vo+j,none⟩=some v) (h1:∀v∈(L.drop (i*6)).take ((n-i)*6),v.oneCell'=true) (h2:∀v∈vs,v.oneCell'=true) :
 Calls Tryz.prog 210 #[.slice (some ⟨b,0,none⟩) n c,.int .i64 i,.slice (some ⟨vb,vo,none⟩) 1 vc] w fun e w'=>
  e=.returned (.slice (some ⟨b,0,none⟩) (n+1) c)∧w'=(w.drew.setRow b (Go.splice L ((i+1)*6) ((L.drop (i*6)).take ((n-i)*6))).toArray).setRow b (Go.splice (Go.splice L ((i+1)*6) ((L.drop (i*6)).take ((n-i)*6))) (i*6) vs).toArray:=by
 obtain ⟨i0,z0,hi0,hz0,hzs,hsz,hby⟩:=zer
 have hz2:¬((i:Int)=(n:Int)):=by omega
 have hva:∃va ta fa,w.heap[vb]?=some (.cells va ta fa)∧0<va.size:=by
  have h:=hvs 0 _ (List.getElem?_eq_getElem (by omega))
  unfold World.cell? at h
  split at h
  ·rename_i c0 t0 f0 hc0
   exact ⟨c0,t0,f0,hc0,by have:=(Array.getElem?_eq_some_iff.1 h).1;omega⟩
  ·cases h
 obtain ⟨va,ta,fa,hva,hva0⟩:=hva
 have hov:∀lb cb,(callFunc 243 #[.slice (some ⟨vb,vo,none⟩) 1 vc,.slice (some ⟨b,(i+1)*6,none⟩) lb cb]).run Tryz.prog w=.ok (.value (.bool false)) w:=fun lb cb=>by
  rw[run_callFunc_extern Tryz.func243 (by kernel_rfl) (by kernel_rfl) (by kernel_rfl) (e:=Extern.SlicesOverlaps.overlaps #[23,23] #[4]) (by kernel_rfl),
   zc9 Tryz.underlying23 hi0 (a:=⟨vb,vo,none⟩) (b:=⟨b,(i+1)*6,none⟩) hvb hva hva0 hb (by simp only[List.size_toArray];omega)]
  rfl
 have hLn:(n+1)*6≤L.length:=by rw[hL];exact Nat.mul_le_mul_right _ hroom
 obtain ⟨C1,hC1⟩:∃C1,C1=(L.drop (i*6)).take ((n-i)*6):=⟨_,rfl⟩
 have hC1l:C1.length=(n-i)*6:=by rw[hC1];simp;omega
 obtain ⟨M1,hM1⟩:∃M1,M1=Go.splice L ((i+1)*6) C1:=⟨_,rfl⟩
 have hM1l:M1.length=L.length:=by rw[hM1];exact length_splice _ _ _ (by omega)
 rw[←hC1,←hM1]
 have hcp1:∀ty dc sc,(Builtin.copy_ #[23,23] ty #[.slice (some ⟨b,(i+1)*6,none⟩) (n-i) dc,.slice (some ⟨b,i*6,none⟩) (n+1-i) sc]).run Tryz.prog w.drew=.ok (goInt ((n-i:Nat):Int)) (w.drew.setRow b M1.toArray):=fun ty dc sc=>by
  have hmin:Nat.min (n+1-i) (n-i)=n-i:=by show min _ _=_;omega
  have:=zbc (P:=Tryz.prog) (w:=w.drew) (sT:=23) (ty:=ty) (dCap:=dc) (sCap:=sc) (dLen:=n-i) (sLen:=n+1-i) (o:=(i+1)*6) (a:=⟨b,i*6,none⟩) Tryz.underlying23 hi0 hsz hb (cs:=C1) (by rw[hmin];exact hC1l)
   (fun j v hj=>by
    rw[Addr.add_lit]
    show w.cell? _=_
    simp only[World.cell?,hb]
    rw[hC1,List.getElem?_take]at hj
    split at hj
    ·simpa using hj
    ·cases hj) (by omega) (by rw[hC1];exact h1)
  rw[hmin,←hM1]at this
  exact this
 have hcp2:∀(W:World),W=(w.drew.setRow b M1.toArray)→∀ty dc,(Builtin.copy_ #[23,23] ty #[.slice (some ⟨b,i*6,none⟩) (n+1-i) dc,.slice (some ⟨vb,vo,none⟩) 1 vc]).run Tryz.prog W=.ok (goInt 1) (W.setRow b (Go.splice M1 (i*6) vs).toArray):=fun W hW ty dc=>by
  have hmin:Nat.min 1 (n+1-i)=1:=by show min _ _=_;omega
  have:=zbc (P:=Tryz.prog) (w:=W) (sT:=23) (ty:=ty) (dCap:=dc) (sCap:=vc) (dLen:=n+1-i) (sLen:=1) (o:=i*6) (a:=⟨vb,vo,none⟩) Tryz.underlying23 hi0 hsz (g:=b) (t:=t) (L:=M1) (by rw[hW];exact setRow_heap _ _ _ _ _ _ hb) (cs:=vs) (by rw[hmin];omega)
   (fun j v hj=>by
    rw[Addr.add_lit,hW,cell_setRow_other _ _ _ _ hvb]
    exact hvs j v hj) (by omega) h2
  rw[hmin]at this
  exact this
 have hw1:IntKind.i64.wrap ((i:Int)+1)=(i:Int)+1:=by rw[IntKind.wrap_i64];omega
 have hb1:(0:Int)≤(i:Int)+1:=by omega
 have hin:i≤n:=by omega
 have htn:((i:Int)+1).toNat=i+1:=by omega
 have hb2:¬(c=i+1):=by omega
 have hb3:(i:Int)≤(n:Int)+1:=by omega
 have hb4:¬(c=i):=by omega
 have mixed:Tryz.prog.follows .mixedOrders=true:=by kernel_rfl
 clear hC1 hM1 hC1l hM1l h1 h2 hvs hL
 go_enter Tryz.func210,Tryz.ntmps210
 go_wp2_with (simp only[hov])
 go_region_law_o (refine zcu rfl _ _ 23 23 rfl _ _ (by simp[Act.eval,Act.put]) (by simp[Act.eval,Act.put]) (hcp1 _ _ _) ?_)
 go_wp2_with (at_builtin;refine zj4 rfl _ _ 23 23 rfl _ _ rfl rfl (hcp2 _ rfl _ _) ?_)
 go_ret
 exact ⟨rfl,rfl⟩
theorem zha {i0:TypeInfo} {k c:Nat} (h:c<k) (hk:k≤1073741824) (hby:i0.bytes≤128):Builtin.nextslicecap k c*i0.bytes≤281474976710656:=
 growslice_fits h (Nat.le_trans (Nat.mul_le_mul hk hby) (by decide))
set_option maxHeartbeats 4000000 in
set_option maxRecDepth 100000 in
theorem zin {w:World} {b n c vb vo vc:Nat} {L vs:List Value} {t:TypeId} (hroom:n+1≤c) (hlim:n+1≤1073741824)
 (hb:w.heap[b]?=some (.cells L.toArray t (0,0))) (hL:L.length=c*6) (hvl:vs.length=6)
 (hvs:∀j v,vs[j]?=some v→w.cell? ⟨vb,vo+j,none⟩=some v) (h2:∀v∈vs,v.oneCell'=true) :
 Calls Tryz.prog 210 #[.slice (some ⟨b,0,none⟩) n c,.int .i64 n,.slice (some ⟨vb,vo,none⟩) 1 vc] w fun e w'=>
  e=.returned (.slice (some ⟨b,0,none⟩) (n+1) c)∧w'=w.setRow b (Go.splice L (n*6) vs).toArray:=by
 obtain ⟨i0,z0,hi0,hz0,hzs,hsz,hby⟩:=zer
 have hLn:(n+1)*6≤L.length:=by rw[hL];exact Nat.mul_le_mul_right _ hroom
 have hf:=run_firstCells_some (P:=Tryz.prog) w i0.size 1 ⟨vb,vo,none⟩ 1 vc vs (by omega) (fun j v hj=>by rw[Addr.add_lit];exact hvs j v hj)
 have hap:∀ty,(Builtin.append_ #[23,23] ty #[.slice (some ⟨b,0,none⟩) n c,.slice (some ⟨vb,vo,none⟩) 1 vc]).run Tryz.prog w=.ok (.slice (some ⟨b,0,none⟩) (n+1) c) (w.setRow b (Go.splice L (n*6) vs).toArray):=fun ty=>by
  have:=zbv (P:=Tryz.prog) (w:=w) (ty:=ty) (ts:=#[23,23]) rfl rfl Tryz.underlying23 Tryz.underlying23 hi0 hf hroom hb (by simp only[List.size_toArray];rw[hsz];omega) h2
  rw[hsz]at this
  simpa[Go.splice]using this
 go_enter Tryz.func210,Tryz.ntmps210
 go_wp2_with (at_builtin;refine zbd rfl _ _ _ _ rfl _ _ rfl rfl (hap _) ?_)
 all_goals (go_ret;exact ⟨rfl,rfl⟩)
set_option maxHeartbeats 4000000 in
set_option maxRecDepth 100000 in
theorem zkb {w:World} {base:Option Addr} {n c vb vo vc:Nat} {olds vs:List Value} (hnc:n≤c) (hroom:c<n+1) (hlim:n+1≤1073741824) (hvl:vs.length=6)
 (hnil:base=none→n=0) (hol:olds.length=n*6) (hos:∀a,base=some a→∀j v,olds[j]?=some v→w.cell? (a.add j)=some v)
 (hvs:∀j v,vs[j]?=some v→w.cell? ⟨vb,vo+j,none⟩=some v) :
 Calls Tryz.prog 210 #[.slice base n c,.int .i64 n,.slice (some ⟨vb,vo,none⟩) 1 vc] w fun e w'=>
  ∃cap zs,e=.returned (.slice (some ⟨w.heap.size,0,none⟩) (n+1) cap)∧w'=w.drew.alloc (.cells (olds++(vs++zs)).toArray 71)∧n+1≤cap∧zs.length=(cap-(n+1))*6:=by
 obtain ⟨i0,z0,hi0,hz0,hzs,hsz,hby⟩:=zer
 have hf:=run_firstCells_some (P:=Tryz.prog) w.drew i0.size 1 ⟨vb,vo,none⟩ 1 vc vs (by omega) (fun j v hj=>by rw[Addr.add_lit];exact hvs j v hj)
 have hold:(Builtin.firstCells i0.size n (.slice base n c)).run Tryz.prog w.drew=.ok olds.toArray w.drew:=by
  cases base with
  |none=>
   have h0:=hnil rfl
   subst h0
   rw[List.length_eq_zero_iff.1 (by omega:olds.length=0)]
   exact run_firstCells_none w.drew _ 0 0 c
  |some a=>exact run_firstCells_some w.drew _ n a n c olds (by rw[hsz];omega) (fun j v hj=>hos a rfl j v hj)
 have hap:∀ty,(Builtin.append_ #[23,23] ty #[.slice base n c,.slice (some ⟨vb,vo,none⟩) 1 vc]).run Tryz.prog w=_:=fun ty=>
  zb7 (P:=Tryz.prog) (w:=w) (ty:=ty) (ts:=#[23,23]) rfl rfl Tryz.underlying23 Tryz.underlying23 hi0 hz0 hf hold hroom (by omega) (zha hroom hlim hby)
 have hge:=zbz w (n+1) c 71
 obtain ⟨G,hG⟩:∃G,G=grownCap w (n+1) c 71:=⟨_,rfl⟩
 obtain ⟨zs,hzs'⟩:∃zs,zs=(Builtin.zeroCells z0.cells (G-(n+1))).toList:=⟨_,rfl⟩
 rw[←hG]at hap hge
 rw[←hzs']at hap
 have hzl:zs.length=(G-(n+1))*6:=by rw[hzs',Array.length_toList,size_zeroCells,hzs]
 clear hG hzs'
 go_enter Tryz.func210,Tryz.ntmps210
 cases base with
 |none=>
  have h0:=hnil rfl
  subst h0
  go_wp2_with (at_builtin;refine zbd rfl _ _ _ _ rfl _ _ rfl rfl (hap _) ?_)
  all_goals (go_ret;first|exact ⟨_,_,rfl,rfl,hge,hzl⟩|exact ⟨_,rfl,_,rfl,hge,hzl⟩)
 |some a=>
  obtain ⟨ab,ao,asp⟩:=a
  go_wp2_with (at_builtin;refine zbd rfl _ _ _ _ rfl _ _ rfl rfl (hap _) ?_)
  all_goals (go_ret;first|exact ⟨_,_,rfl,rfl,hge,hzl⟩|exact ⟨_,rfl,_,rfl,hge,hzl⟩)
set_option maxHeartbeats 4000000 in
set_option maxRecDepth 100000 in
theorem zim {w:World} {b n c i vb vo vc:Nat} {L vs:List Value} {t:TypeId} (hi:i<n) (hnc:n≤c) (hroom:c<n+1) (hlim:n+1≤1073741824) (hvb:vb≠b)
 (hb:w.heap[b]?=some (.cells L.toArray t (0,0))) (hL:L.length=c*6) (hvl:vs.length=6)
 (hvs:∀j v,vs[j]?=some v→w.cell? ⟨vb,vo+j,none⟩=some v) (h1:∀v∈(L.drop (i*6)).take ((n-i)*6),v.oneCell'=true) (h2:∀v∈vs,v.oneCell'=true) :
 Calls Tryz.prog 210 #[.slice (some ⟨b,0,none⟩) n c,.int .i64 i,.slice (some ⟨vb,vo,none⟩) 1 vc] w fun e w'=>
  ∃cap row,e=.returned (.slice (some ⟨w.heap.size,0,none⟩) (n+1) cap)∧n+1≤cap∧row.length=cap*6∧row.take (i*6)=L.take (i*6)∧
   w'.heap=(w.heap.push (.cells (Go.splice (Go.splice row (i*6) vs) ((i+1)*6) ((L.drop (i*6)).take ((n-i)*6))).toArray 71))∧w'.os=w.os∧w'.output=w.output∧w'.tape=w.tape:=by
 obtain ⟨i0,z0,hi0,hz0,hzs,hsz,hby⟩:=zer
 have hz2:¬((i:Int)=(n:Int)):=by omega
 have hz3:(c:Int)<(n:Int)+1:=by omega
 have hLn:n*6≤L.length:=by rw[hL];exact Nat.mul_le_mul_right _ hnc
 have hbw:b<w.heap.size:=(Array.getElem?_eq_some_iff.1 hb).1
 have hvw:vb<w.heap.size:=by
  have h:=hvs 0 _ (List.getElem?_eq_getElem (by omega))
  unfold World.cell? at h
  split at h
  ·rename_i c0 t0 f0 hc0
   exact (Array.getElem?_eq_some_iff.1 hc0).1
  ·cases h
 have hkk:(n:Int)+1-(i:Int)=((n+1-i:Nat):Int):=by omega
 have hik:i+(n+1-i)=n+1:=by omega
 have hTl:(L.take (i*6)).length=i*6:=by simp;omega
 have hold:(Builtin.firstCells i0.size i (.slice (some ⟨b,0,none⟩) i c)).run Tryz.prog w.drew=.ok (L.take (i*6)).toArray w.drew:=by
  refine run_firstCells_some w.drew _ i ⟨b,0,none⟩ i c (L.take (i*6)) (by rw[hsz];exact hTl) (fun j v hj=>?_)
  rw[Addr.add_lit,Nat.zero_add]
  show w.cell? _=_
  simp only[World.cell?,hb]
  rw[List.getElem?_take]at hj
  split at hj
  ·simpa using hj
  ·cases hj
 have hrz:∀ty,(Builtin.append_ #[23,3] ty #[.slice (some ⟨b,0,none⟩) i c,.int .i64 ((n:Int)+1-(i:Int))]).run Tryz.prog w =
  .ok (.slice (some ⟨w.heap.size,0,none⟩) (n+1) (grownCap w (n+1) c 71)) (w.drew.alloc (.cells ((L.take (i*6)).toArray++Builtin.zeroCells z0.cells (n+1-i)++Builtin.zeroCells z0.cells (grownCap w (n+1) c 71-(n+1))) 71)):=fun ty=>by
  have h:=Lib.run_append_grow_zeros w 23 3 ty 71 i0 _ .i64 .i64 Tryz.underlying23 Tryz.underlying3 hi0 hz0 (some ⟨b,0,none⟩) i c _ hold (n+1-i) (by omega) (by omega) (by omega) (by omega)
   (Nat.le_trans (Nat.mul_le_mul (show n+1-i≤1073741824 by omega) hby) (by decide)) (by rw[hik];exact zha hroom hlim hby)
  rw[hik]at h
  rw[hkk]
  exact h
 have hge:=zbz w (n+1) c 71
 obtain ⟨G,hG⟩:∃G,G=grownCap w (n+1) c 71:=⟨_,rfl⟩
 rw[←hG]at hrz hge
 have hG63:G≤9223372036854775807:=by
  have:=grownCap_le_maxLen w (n+1) c 71 (by unfold maxLen;omega)
  rw[←hG]at this
  unfold maxLen at this
  omega
 obtain ⟨R,hR⟩:∃R:List Value,R=L.take (i*6)++((Builtin.zeroCells z0.cells (n+1-i)).toList++(Builtin.zeroCells z0.cells (G-(n+1))).toList):=⟨_,rfl⟩
 have hRl:R.length=G*6:=by
  rw[hR]
  simp only[List.length_append,Array.length_toList,size_zeroCells,hzs,hTl]
  rw[←Nat.add_mul,←Nat.add_mul]
  congr 1
  omega
 have hRt:R.take (i*6)=L.take (i*6):=by rw[hR,List.take_append_of_le_length (by omega),List.take_of_length_le (by omega)]
 have hRe:(L.take (i*6)).toArray++Builtin.zeroCells z0.cells (n+1-i)++Builtin.zeroCells z0.cells (G-(n+1))=R.toArray:=by
  rw[hR];apply Array.ext';simp
 rw[hRe]at hrz
 obtain ⟨C1,hC1⟩:∃C1,C1=(L.drop (i*6)).take ((n-i)*6):=⟨_,rfl⟩
 have hC1l:C1.length=(n-i)*6:=by rw[hC1];simp;omega
 have hGn:(n+1)*6≤R.length:=by rw[hRl];exact Nat.mul_le_mul_right _ hge
 obtain ⟨M1,hM1⟩:∃M1,M1=Go.splice R (i*6) vs:=⟨_,rfl⟩
 have hM1l:M1.length=R.length:=by rw[hM1];exact length_splice _ _ _ (by omega)
 rw[←hC1]
 obtain ⟨gb,hgb⟩:∃gb,gb=w.heap.size:=⟨_,rfl⟩
 have hnew:∀W:World,W.heap=w.heap.push (.cells R.toArray 71)→W.heap[gb]?=some (.cells R.toArray 71 (0,0)):=fun W hW=>by rw[hW,hgb];simp
 have hpast:∀W:World,W.heap=w.heap.push (.cells R.toArray 71)→∀k,k<w.heap.size→W.heap[k]?=w.heap[k]?:=fun W hW k hk=>by rw[hW,Array.getElem?_push_lt hk];simp[hk]
 have hcpA:∀(W:World),W.heap=w.heap.push (.cells R.toArray 71)→∀ty dc,(Builtin.copy_ #[23,23] ty #[.slice (some ⟨gb,i*6,none⟩) (n+1-i) dc,.slice (some ⟨vb,vo,none⟩) 1 vc]).run Tryz.prog W=.ok (goInt 1) (W.setRow gb M1.toArray):=fun W hW ty dc=>by
  have hmin:Nat.min 1 (n+1-i)=1:=by show min _ _=_;omega
  have:=zbc (P:=Tryz.prog) (w:=W) (sT:=23) (ty:=ty) (dCap:=dc) (sCap:=vc) (dLen:=n+1-i) (sLen:=1) (o:=i*6) (a:=⟨vb,vo,none⟩) Tryz.underlying23 hi0 hsz (g:=gb) (t:=71) (L:=R) (hnew W hW) (cs:=vs) (by rw[hmin];omega)
   (fun j v hj=>by
    rw[Addr.add_lit]
    unfold World.cell?
    rw[show W.heap[(⟨vb,vo+j,none⟩:Addr).block]?=w.heap[vb]? from hpast W hW vb hvw]
    exact hvs j v hj) (by omega) h2
  rw[hmin,←hM1]at this
  exact this
 have hcpB:∀(W W0:World),W0.heap=w.heap.push (.cells R.toArray 71)→W.heap=(W0.setRow gb M1.toArray).heap→∀ty dc sc,(Builtin.copy_ #[23,23] ty #[.slice (some ⟨gb,(i+1)*6,none⟩) (n-i) dc,.slice (some ⟨b,i*6,none⟩) (n-i) sc]).run Tryz.prog W=.ok (goInt ((n-i:Nat):Int)) (W.setRow gb (Go.splice M1 ((i+1)*6) C1).toArray):=fun W W0 hW0 hW ty dc sc=>by
  have hmin:Nat.min (n-i) (n-i)=n-i:=by show min _ _=_;omega
  have:=zbc (P:=Tryz.prog) (w:=W) (sT:=23) (ty:=ty) (dCap:=dc) (sCap:=sc) (dLen:=n-i) (sLen:=n-i) (o:=(i+1)*6) (a:=⟨b,i*6,none⟩) Tryz.underlying23 hi0 hsz (g:=gb) (t:=71) (L:=M1) (by rw[hW];exact setRow_heap _ _ _ _ _ _ (hnew W0 hW0)) (cs:=C1) (by rw[hmin];exact hC1l)
   (fun j v hj=>by
    rw[Addr.add_lit]
    unfold World.cell?
    have e:W.heap[(⟨b,i*6+j,none⟩:Addr).block]?=w.heap[b]?:=by
     show W.heap[b]?=_
     rw[hW,setRow_other _ _ _ _ (by omega),hpast W0 hW0 b hbw]
    rw[e,hb]
    rw[hC1,List.getElem?_take]at hj
    split at hj
    ·simpa using hj
    ·cases hj) (by omega) (by rw[hC1];exact h1)
  rw[hmin]at this
  exact this
 have hw1:IntKind.i64.wrap ((i:Int)+1)=(i:Int)+1:=by rw[IntKind.wrap_i64];omega
 have hb1:(0:Int)≤(i:Int)+1:=by omega
 have hin:i≤n:=by omega
 have htn:((i:Int)+1).toNat=i+1:=by omega
 have hb3:(i:Int)≤(n:Int):=by omega
 have hGi:¬(G=i):=by omega
 have hGim:¬(G=i+1):=by omega
 have hci:¬(c=i):=by omega
 have hmixed:Tryz.prog.follows .mixedOrders=true:=by kernel_rfl
 have mixed:=hmixed
 have hfin:∀W W0:World,W0.heap=w.heap.push (.cells R.toArray 71)→W.heap=(W0.setRow gb M1.toArray).heap→(W.setRow gb (Go.splice M1 ((i+1)*6) C1).toArray).heap=w.heap.push (.cells (Go.splice M1 ((i+1)*6) C1).toArray 71):=fun W W0 hW0 hW=>by
  have h1:W.heap[gb]?=some (.cells M1.toArray 71 (0,0)):=by rw[hW];exact setRow_heap _ _ _ _ _ _ (hnew W0 hW0)
  have hsz0:W.heap.size=w.heap.size+1:=by rw[hW,setRow_size,hW0];simp
  apply Array.ext_getElem?
  intro k
  by_cases hk:k=gb
  ·subst hk
   rw[setRow_heap _ _ _ _ _ _ h1,hgb];simp
  ·rw[setRow_other _ _ _ _ hk]
   by_cases hk2:k<w.heap.size
   ·rw[hW,setRow_other _ _ _ _ hk,hpast W0 hW0 k hk2,Array.getElem?_push_lt hk2];simp[hk2]
   ·rw[Array.getElem?_eq_none (by omega),Array.getElem?_eq_none (by simp;omega)]
 have hMM:Go.splice (Go.splice R (i*6) vs) ((i+1)*6) C1=Go.splice M1 ((i+1)*6) C1:=by rw[hM1]
 subst hgb
 have hcpA':=hcpA ((w.alloc (.cells R.toArray 71)).drew) rfl
 clear hkk hcpA hik hold hG hR hRe hC1 hM1 hC1l hM1l h1 h2 hvs hL hTl
 go_enter Tryz.func210,Tryz.ntmps210
 go_wp2_with (at_builtin;refine zbd rfl _ _ _ _ rfl _ _ rfl rfl (hrz _) ?_)
 go_region_law_o (refine zcu rfl _ _ 23 23 rfl (.slice (some ⟨w.heap.size,(i+1)*6,none⟩) (n-i) (G-(i+1))) (.slice (some ⟨b,i*6,none⟩) (n-i) (c-i)) (by simp[Act.eval,Act.put]) (by simp[Act.eval,Act.put]) (hcpB (((w.alloc (.cells R.toArray 71)).drew.setRow w.heap.size M1.toArray).drew) (w.drew.alloc (.cells R.toArray 71)) rfl rfl 3 (G-(i+1)) (c-i)) ?_)
 go_wp2
 go_ret
 refine ⟨G,R,rfl,hge,hRl,hRt,?_,rfl,rfl,rfl⟩
 rw[hMM]
 exact hfin _ (w.drew.alloc (.cells R.toArray 71)) rfl rfl
end Go.Proofs.YtpaidiaknfhclaaGreatDoor
namespace Go.Proofs.YtpaidiaknfhclaaGreatDoor
open Go Ev
theorem zgi:∃i0 z,Tryz.prog.info? 73=some i0∧i0.zero=some z∧z.cells.size=6∧i0.size=6∧i0.bytes≤128:=by
 have h:(match Tryz.prog.info? 73 with|some i=>(match i.zero with|some z=>Nat.beq z.cells.size 6&&Nat.beq i.size 6&&Nat.ble i.bytes 128|none=>false)|none=>false)=true:=by kernel_rfl
 split at h
 ·rename_i i hi
  split at h
  ·rename_i z hz
   simp only[Bool.and_eq_true]at h
   exact ⟨i,z,hi,hz,Nat.eq_of_beq_eq_true h.1.1,Nat.eq_of_beq_eq_true h.1.2,Nat.le_of_ble_eq_true h.2⟩
  ·cases h
 ·cases h
set_option maxHeartbeats 4000000 in
set_option maxRecDepth 100000 in
theorem zka {w:World} {b n c i vb vo vc:Nat} {L vs:List Value} {t:TypeId} (hi:i<n) (hroom:n+1≤c) (hlim:n+1≤1073741824) (hvb:vb≠b)
 (hb:w.heap[b]?=some (.cells L.toArray t (0,0))) (hL:L.length=c*6) (hvl:vs.length=6)
 (hvs:∀j v,vs[j]?=some v→w.cell? ⟨vb,vo+j,none⟩=some v) (h1:∀v∈(L.drop (i*6)).take ((n-i)*6),v.oneCell'=true) (h2:∀v∈vs,v.oneCell'=true) :
 Calls Tryz.prog 168 #[.slice (some ⟨b,0,none⟩) n c,.int .i64 i,.slice (some ⟨vb,vo,none⟩) 1 vc] w fun e w'=>
  e=.returned (.slice (some ⟨b,0,none⟩) (n+1) c)∧w'=(w.drew.setRow b (Go.splice L ((i+1)*6) ((L.drop (i*6)).take ((n-i)*6))).toArray).setRow b (Go.splice (Go.splice L ((i+1)*6) ((L.drop (i*6)).take ((n-i)*6))) (i*6) vs).toArray:=by
 obtain ⟨i0,z0,hi0,hz0,hzs,hsz,hby⟩:=zgi
 have hz2:¬((i:Int)=(n:Int)):=by omega
 have hva:∃va ta fa,w.heap[vb]?=some (.cells va ta fa)∧0<va.size:=by
  have h:=hvs 0 _ (List.getElem?_eq_getElem (by omega))
  unfold World.cell? at h
  split at h
  ·rename_i c0 t0 f0 hc0
   exact ⟨c0,t0,f0,hc0,by have:=(Array.getElem?_eq_some_iff.1 h).1;omega⟩
  ·cases h
 obtain ⟨va,ta,fa,hva,hva0⟩:=hva
 have hov:∀lb cb,(callFunc 223 #[.slice (some ⟨vb,vo,none⟩) 1 vc,.slice (some ⟨b,(i+1)*6,none⟩) lb cb]).run Tryz.prog w=.ok (.value (.bool false)) w:=fun lb cb=>by
  rw[run_callFunc_extern Tryz.func223 (by kernel_rfl) (by kernel_rfl) (by kernel_rfl) (e:=Extern.SlicesOverlaps.overlaps #[24,24] #[4]) (by kernel_rfl),
   zc9 Tryz.underlying24 hi0 (a:=⟨vb,vo,none⟩) (b:=⟨b,(i+1)*6,none⟩) hvb hva hva0 hb (by simp only[List.size_toArray];omega)]
  rfl
 have hLn:(n+1)*6≤L.length:=by rw[hL];exact Nat.mul_le_mul_right _ hroom
 obtain ⟨C1,hC1⟩:∃C1,C1=(L.drop (i*6)).take ((n-i)*6):=⟨_,rfl⟩
 have hC1l:C1.length=(n-i)*6:=by rw[hC1];simp;omega
 obtain ⟨M1,hM1⟩:∃M1,M1=Go.splice L ((i+1)*6) C1:=⟨_,rfl⟩
 have hM1l:M1.length=L.length:=by rw[hM1];exact length_splice _ _ _ (by omega)
 rw[←hC1,←hM1]
 have hcp1:∀ty dc sc,(Builtin.copy_ #[24,24] ty #[.slice (some ⟨b,(i+1)*6,none⟩) (n-i) dc,.slice (some ⟨b,i*6,none⟩) (n+1-i) sc]).run Tryz.prog w.drew=.ok (goInt ((n-i:Nat):Int)) (w.drew.setRow b M1.toArray):=fun ty dc sc=>by
  have hmin:Nat.min (n+1-i) (n-i)=n-i:=by show min _ _=_;omega
  have:=zbc (P:=Tryz.prog) (w:=w.drew) (sT:=24) (ty:=ty) (dCap:=dc) (sCap:=sc) (dLen:=n-i) (sLen:=n+1-i) (o:=(i+1)*6) (a:=⟨b,i*6,none⟩) Tryz.underlying24 hi0 hsz hb (cs:=C1) (by rw[hmin];exact hC1l)
   (fun j v hj=>by
    rw[Addr.add_lit]
    show w.cell? _=_
    simp only[World.cell?,hb]
    rw[hC1,List.getElem?_take]at hj
    split at hj
    ·simpa using hj
    ·cases hj) (by omega) (by rw[hC1];exact h1)
  rw[hmin,←hM1]at this
  exact this
 have hcp2:∀(W:World),W=(w.drew.setRow b M1.toArray)→∀ty dc,(Builtin.copy_ #[24,24] ty #[.slice (some ⟨b,i*6,none⟩) (n+1-i) dc,.slice (some ⟨vb,vo,none⟩) 1 vc]).run Tryz.prog W=.ok (goInt 1) (W.setRow b (Go.splice M1 (i*6) vs).toArray):=fun W hW ty dc=>by
  have hmin:Nat.min 1 (n+1-i)=1:=by show min _ _=_;omega
  have:=zbc (P:=Tryz.prog) (w:=W) (sT:=24) (ty:=ty) (dCap:=dc) (sCap:=vc) (dLen:=n+1-i) (sLen:=1) (o:=i*6) (a:=⟨vb,vo,none⟩) Tryz.underlying24 hi0 hsz (g:=b) (t:=t) (L:=M1) (by rw[hW];exact setRow_heap _ _ _ _ _ _ hb) (cs:=vs) (by rw[hmin];omega)
   (fun j v hj=>by
    rw[Addr.add_lit,hW,cell_setRow_other _ _ _ _ hvb]
    exact hvs j v hj) (by omega) h2
  rw[hmin]at this
  exact this
 have hw1:IntKind.i64.wrap ((i:Int)+1)=(i:Int)+1:=by rw[IntKind.wrap_i64];omega
 have hb1:(0:Int)≤(i:Int)+1:=by omega
 have hin:i≤n:=by omega
 have htn:((i:Int)+1).toNat=i+1:=by omega
 have hb2:¬(c=i+1):=by omega
 have hb3:(i:Int)≤(n:Int)+1:=by omega
 have hb4:¬(c=i):=by omega
 have mixed:Tryz.prog.follows .mixedOrders=true:=by kernel_rfl
 clear hC1 hM1 hC1l hM1l h1 h2 hvs hL
 go_enter Tryz.func168,Tryz.ntmps168
 go_wp2_with (simp only[hov])
 go_region_law_o (refine zcu rfl _ _ 24 24 rfl _ _ (by simp[Act.eval,Act.put]) (by simp[Act.eval,Act.put]) (hcp1 _ _ _) ?_)
 go_wp2_with (at_builtin;refine zj4 rfl _ _ 24 24 rfl _ _ rfl rfl (hcp2 _ rfl _ _) ?_)
 go_ret
 exact ⟨rfl,rfl⟩
theorem zkl {i0:TypeInfo} {k c:Nat} (h:c<k) (hk:k≤1073741824) (hby:i0.bytes≤128):Builtin.nextslicecap k c*i0.bytes≤281474976710656:=
 growslice_fits h (Nat.le_trans (Nat.mul_le_mul hk hby) (by decide))
set_option maxHeartbeats 4000000 in
set_option maxRecDepth 100000 in
theorem zmv {w:World} {b n c vb vo vc:Nat} {L vs:List Value} {t:TypeId} (hroom:n+1≤c) (hlim:n+1≤1073741824)
 (hb:w.heap[b]?=some (.cells L.toArray t (0,0))) (hL:L.length=c*6) (hvl:vs.length=6)
 (hvs:∀j v,vs[j]?=some v→w.cell? ⟨vb,vo+j,none⟩=some v) (h2:∀v∈vs,v.oneCell'=true) :
 Calls Tryz.prog 168 #[.slice (some ⟨b,0,none⟩) n c,.int .i64 n,.slice (some ⟨vb,vo,none⟩) 1 vc] w fun e w'=>
  e=.returned (.slice (some ⟨b,0,none⟩) (n+1) c)∧w'=w.setRow b (Go.splice L (n*6) vs).toArray:=by
 obtain ⟨i0,z0,hi0,hz0,hzs,hsz,hby⟩:=zgi
 have hLn:(n+1)*6≤L.length:=by rw[hL];exact Nat.mul_le_mul_right _ hroom
 have hf:=run_firstCells_some (P:=Tryz.prog) w i0.size 1 ⟨vb,vo,none⟩ 1 vc vs (by omega) (fun j v hj=>by rw[Addr.add_lit];exact hvs j v hj)
 have hap:∀ty,(Builtin.append_ #[24,24] ty #[.slice (some ⟨b,0,none⟩) n c,.slice (some ⟨vb,vo,none⟩) 1 vc]).run Tryz.prog w=.ok (.slice (some ⟨b,0,none⟩) (n+1) c) (w.setRow b (Go.splice L (n*6) vs).toArray):=fun ty=>by
  have:=zbv (P:=Tryz.prog) (w:=w) (ty:=ty) (ts:=#[24,24]) rfl rfl Tryz.underlying24 Tryz.underlying24 hi0 hf hroom hb (by simp only[List.size_toArray];rw[hsz];omega) h2
  rw[hsz]at this
  simpa[Go.splice]using this
 go_enter Tryz.func168,Tryz.ntmps168
 go_wp2_with (at_builtin;refine zbd rfl _ _ _ _ rfl _ _ rfl rfl (hap _) ?_)
 all_goals (go_ret;exact ⟨rfl,rfl⟩)
set_option maxHeartbeats 4000000 in
set_option maxRecDepth 100000 in
theorem zos {w:World} {base:Option Addr} {n c vb vo vc:Nat} {olds vs:List Value} (hnc:n≤c) (hroom:c<n+1) (hlim:n+1≤1073741824) (hvl:vs.length=6)
 (hnil:base=none→n=0) (hol:olds.length=n*6) (hos:∀a,base=some a→∀j v,olds[j]?=some v→w.cell? (a.add j)=some v)
 (hvs:∀j v,vs[j]?=some v→w.cell? ⟨vb,vo+j,none⟩=some v) :
 Calls Tryz.prog 168 #[.slice base n c,.int .i64 n,.slice (some ⟨vb,vo,none⟩) 1 vc] w fun e w'=>
  ∃cap zs,e=.returned (.slice (some ⟨w.heap.size,0,none⟩) (n+1) cap)∧w'=w.drew.alloc (.cells (olds++(vs++zs)).toArray 73)∧n+1≤cap∧zs.length=(cap-(n+1))*6:=by
 obtain ⟨i0,z0,hi0,hz0,hzs,hsz,hby⟩:=zgi
 have hf:=run_firstCells_some (P:=Tryz.prog) w.drew i0.size 1 ⟨vb,vo,none⟩ 1 vc vs (by omega) (fun j v hj=>by rw[Addr.add_lit];exact hvs j v hj)
 have hold:(Builtin.firstCells i0.size n (.slice base n c)).run Tryz.prog w.drew=.ok olds.toArray w.drew:=by
  cases base with
  |none=>
   have h0:=hnil rfl
   subst h0
   rw[List.length_eq_zero_iff.1 (by omega:olds.length=0)]
   exact run_firstCells_none w.drew _ 0 0 c
  |some a=>exact run_firstCells_some w.drew _ n a n c olds (by rw[hsz];omega) (fun j v hj=>hos a rfl j v hj)
 have hap:∀ty,(Builtin.append_ #[24,24] ty #[.slice base n c,.slice (some ⟨vb,vo,none⟩) 1 vc]).run Tryz.prog w=_:=fun ty=>
  zb7 (P:=Tryz.prog) (w:=w) (ty:=ty) (ts:=#[24,24]) rfl rfl Tryz.underlying24 Tryz.underlying24 hi0 hz0 hf hold hroom (by omega) (zkl hroom hlim hby)
 have hge:=zbz w (n+1) c 73
 obtain ⟨G,hG⟩:∃G,G=grownCap w (n+1) c 73:=⟨_,rfl⟩
 obtain ⟨zs,hzs'⟩:∃zs,zs=(Builtin.zeroCells z0.cells (G-(n+1))).toList:=⟨_,rfl⟩
 rw[←hG]at hap hge
 rw[←hzs']at hap
 have hzl:zs.length=(G-(n+1))*6:=by rw[hzs',Array.length_toList,size_zeroCells,hzs]
 clear hG hzs'
 go_enter Tryz.func168,Tryz.ntmps168
 cases base with
 |none=>
  have h0:=hnil rfl
  subst h0
  go_wp2_with (at_builtin;refine zbd rfl _ _ _ _ rfl _ _ rfl rfl (hap _) ?_)
  all_goals (go_ret;first|exact ⟨_,_,rfl,rfl,hge,hzl⟩|exact ⟨_,rfl,_,rfl,hge,hzl⟩)
 |some a=>
  obtain ⟨ab,ao,asp⟩:=a
  go_wp2_with (at_builtin;refine zbd rfl _ _ _ _ rfl _ _ rfl rfl (hap _) ?_)
  all_goals (go_ret;first|exact ⟨_,_,rfl,rfl,hge,hzl⟩|exact ⟨_,rfl,_,rfl,hge,hzl⟩)
set_option maxHeartbeats 4000000 in
set_option maxRecDepth 100000 in
theorem zmu {w:World} {b n c i vb vo vc:Nat} {L vs:List Value} {t:TypeId} (hi:i<n) (hnc:n≤c) (hroom:c<n+1) (hlim:n+1≤1073741824) (hvb:vb≠b)
 (hb:w.heap[b]?=some (.cells L.toArray t (0,0))) (hL:L.length=c*6) (hvl:vs.length=6)
 (hvs:∀j v,vs[j]?=some v→w.cell? ⟨vb,vo+j,none⟩=some v) (h1:∀v∈(L.drop (i*6)).take ((n-i)*6),v.oneCell'=true) (h2:∀v∈vs,v.oneCell'=true) :
 Calls Tryz.prog 168 #[.slice (some ⟨b,0,none⟩) n c,.int .i64 i,.slice (some ⟨vb,vo,none⟩) 1 vc] w fun e w'=>
  ∃cap row,e=.returned (.slice (some ⟨w.heap.size,0,none⟩) (n+1) cap)∧n+1≤cap∧row.length=cap*6∧row.take (i*6)=L.take (i*6)∧
   w'.heap=(w.heap.push (.cells (Go.splice (Go.splice row (i*6) vs) ((i+1)*6) ((L.drop (i*6)).take ((n-i)*6))).toArray 73))∧w'.os=w.os∧w'.output=w.output∧w'.tape=w.tape:=by
 obtain ⟨i0,z0,hi0,hz0,hzs,hsz,hby⟩:=zgi
 have hz2:¬((i:Int)=(n:Int)):=by omega
 have hz3:(c:Int)<(n:Int)+1:=by omega
 have hLn:n*6≤L.length:=by rw[hL];exact Nat.mul_le_mul_right _ hnc
 have hbw:b<w.heap.size:=(Array.getElem?_eq_some_iff.1 hb).1
 have hvw:vb<w.heap.size:=by
  have h:=hvs 0 _ (List.getElem?_eq_getElem (by omega))
  unfold World.cell? at h
  split at h
  ·rename_i c0 t0 f0 hc0
   exact (Array.getElem?_eq_some_iff.1 hc0).1
  ·cases h
 have hkk:(n:Int)+1-(i:Int)=((n+1-i:Nat):Int):=by omega
 have hik:i+(n+1-i)=n+1:=by omega
 have hTl:(L.take (i*6)).length=i*6:=by simp;omega
 have hold:(Builtin.firstCells i0.size i (.slice (some ⟨b,0,none⟩) i c)).run Tryz.prog w.drew=.ok (L.take (i*6)).toArray w.drew:=by
  refine run_firstCells_some w.drew _ i ⟨b,0,none⟩ i c (L.take (i*6)) (by rw[hsz];exact hTl) (fun j v hj=>?_)
  rw[Addr.add_lit,Nat.zero_add]
  show w.cell? _=_
  simp only[World.cell?,hb]
  rw[List.getElem?_take]at hj
  split at hj
  ·simpa using hj
  ·cases hj
 have hrz:∀ty,(Builtin.append_ #[24,3] ty #[.slice (some ⟨b,0,none⟩) i c,.int .i64 ((n:Int)+1-(i:Int))]).run Tryz.prog w =
  .ok (.slice (some ⟨w.heap.size,0,none⟩) (n+1) (grownCap w (n+1) c 73)) (w.drew.alloc (.cells ((L.take (i*6)).toArray++Builtin.zeroCells z0.cells (n+1-i)++Builtin.zeroCells z0.cells (grownCap w (n+1) c 73-(n+1))) 73)):=fun ty=>by
  have h:=Lib.run_append_grow_zeros w 24 3 ty 73 i0 _ .i64 .i64 Tryz.underlying24 Tryz.underlying3 hi0 hz0 (some ⟨b,0,none⟩) i c _ hold (n+1-i) (by omega) (by omega) (by omega) (by omega)
   (Nat.le_trans (Nat.mul_le_mul (show n+1-i≤1073741824 by omega) hby) (by decide)) (by rw[hik];exact zkl hroom hlim hby)
  rw[hik]at h
  rw[hkk]
  exact h
 have hge:=zbz w (n+1) c 73
 obtain ⟨G,hG⟩:∃G,G=grownCap w (n+1) c 73:=⟨_,rfl⟩
 rw[←hG]at hrz hge
 have hG63:G≤9223372036854775807:=by
  have:=grownCap_le_maxLen w (n+1) c 73 (by unfold maxLen;omega)
  rw[←hG]at this
  unfold maxLen at this
  omega
 obtain ⟨R,hR⟩:∃R:List Value,R=L.take (i*6)++((Builtin.zeroCells z0.cells (n+1-i)).toList++(Builtin.zeroCells z0.cells (G-(n+1))).toList):=⟨_,rfl⟩
 have hRl:R.length=G*6:=by
  rw[hR]
  simp only[List.length_append,Array.length_toList,size_zeroCells,hzs,hTl]
  rw[←Nat.add_mul,←Nat.add_mul]
  congr 1
  omega
 have hRt:R.take (i*6)=L.take (i*6):=by rw[hR,List.take_append_of_le_length (by omega),List.take_of_length_le (by omega)]
 have hRe:(L.take (i*6)).toArray++Builtin.zeroCells z0.cells (n+1-i)++Builtin.zeroCells z0.cells (G-(n+1))=R.toArray:=by
  rw[hR];apply Array.ext';simp
 rw[hRe]at hrz
 obtain ⟨C1,hC1⟩:∃C1,C1=(L.drop (i*6)).take ((n-i)*6):=⟨_,rfl⟩
 have hC1l:C1.length=(n-i)*6:=by rw[hC1];simp;omega
 have hGn:(n+1)*6≤R.length:=by rw[hRl];exact Nat.mul_le_mul_right _ hge
 obtain ⟨M1,hM1⟩:∃M1,M1=Go.splice R (i*6) vs:=⟨_,rfl⟩
 have hM1l:M1.length=R.length:=by rw[hM1];exact length_splice _ _ _ (by omega)
 rw[←hC1]
 obtain ⟨gb,hgb⟩:∃gb,gb=w.heap.size:=⟨_,rfl⟩
 have hnew:∀W:World,W.heap=w.heap.push (.cells R.toArray 73)→W.heap[gb]?=some (.cells R.toArray 73 (0,0)):=fun W hW=>by rw[hW,hgb];simp
 have hpast:∀W:World,W.heap=w.heap.push (.cells R.toArray 73)→∀k,k<w.heap.size→W.heap[k]?=w.heap[k]?:=fun W hW k hk=>by rw[hW,Array.getElem?_push_lt hk];simp[hk]
 have hcpA:∀(W:World),W.heap=w.heap.push (.cells R.toArray 73)→∀ty dc,(Builtin.copy_ #[24,24] ty #[.slice (some ⟨gb,i*6,none⟩) (n+1-i) dc,.slice (some ⟨vb,vo,none⟩) 1 vc]).run Tryz.prog W=.ok (goInt 1) (W.setRow gb M1.toArray):=fun W hW ty dc=>by
  have hmin:Nat.min 1 (n+1-i)=1:=by show min _ _=_;omega
  have:=zbc (P:=Tryz.prog) (w:=W) (sT:=24) (ty:=ty) (dCap:=dc) (sCap:=vc) (dLen:=n+1-i) (sLen:=1) (o:=i*6) (a:=⟨vb,vo,none⟩) Tryz.underlying24 hi0 hsz (g:=gb) (t:=73) (L:=R) (hnew W hW) (cs:=vs) (by rw[hmin];omega)
   (fun j v hj=>by
    rw[Addr.add_lit]
    unfold World.cell?
    rw[show W.heap[(⟨vb,vo+j,none⟩:Addr).block]?=w.heap[vb]? from hpast W hW vb hvw]
    exact hvs j v hj) (by omega) h2
  rw[hmin,←hM1]at this
  exact this
 have hcpB:∀(W W0:World),W0.heap=w.heap.push (.cells R.toArray 73)→W.heap=(W0.setRow gb M1.toArray).heap→∀ty dc sc,(Builtin.copy_ #[24,24] ty #[.slice (some ⟨gb,(i+1)*6,none⟩) (n-i) dc,.slice (some ⟨b,i*6,none⟩) (n-i) sc]).run Tryz.prog W=.ok (goInt ((n-i:Nat):Int)) (W.setRow gb (Go.splice M1 ((i+1)*6) C1).toArray):=fun W W0 hW0 hW ty dc sc=>by
  have hmin:Nat.min (n-i) (n-i)=n-i:=by show min _ _=_;omega
  have:=zbc (P:=Tryz.prog) (w:=W) (sT:=24) (ty:=ty) (dCap:=dc) (sCap:=sc) (dLen:=n-i) (sLen:=n-i) (o:=(i+1)*6) (a:=⟨b,i*6,none⟩) Tryz.underlying24 hi0 hsz (g:=gb) (t:=73) (L:=M1) (by rw[hW];exact setRow_heap _ _ _ _ _ _ (hnew W0 hW0)) (cs:=C1) (by rw[hmin];exact hC1l)
   (fun j v hj=>by
    rw[Addr.add_lit]
    unfold World.cell?
    have e:W.heap[(⟨b,i*6+j,none⟩:Addr).block]?=w.heap[b]?:=by
     show W.heap[b]?=_
     rw[hW,setRow_other _ _ _ _ (by omega),hpast W0 hW0 b hbw]
    rw[e,hb]
    rw[hC1,List.getElem?_take]at hj
    split at hj
    ·simpa using hj
    ·cases hj) (by omega) (by rw[hC1];exact h1)
  rw[hmin]at this
  exact this
 have hw1:IntKind.i64.wrap ((i:Int)+1)=(i:Int)+1:=by rw[IntKind.wrap_i64];omega
 have hb1:(0:Int)≤(i:Int)+1:=by omega
 have hin:i≤n:=by omega
 have htn:((i:Int)+1).toNat=i+1:=by omega
 have hb3:(i:Int)≤(n:Int):=by omega
 have hGi:¬(G=i):=by omega
 have hGim:¬(G=i+1):=by omega
 have hci:¬(c=i):=by omega
 have hmixed:Tryz.prog.follows .mixedOrders=true:=by kernel_rfl
 have mixed:=hmixed
 have hfin:∀W W0:World,W0.heap=w.heap.push (.cells R.toArray 73)→W.heap=(W0.setRow gb M1.toArray).heap→(W.setRow gb (Go.splice M1 ((i+1)*6) C1).toArray).heap=w.heap.push (.cells (Go.splice M1 ((i+1)*6) C1).toArray 73):=fun W W0 hW0 hW=>by
  have h1:W.heap[gb]?=some (.cells M1.toArray 73 (0,0)):=by rw[hW];exact setRow_heap _ _ _ _ _ _ (hnew W0 hW0)
  have hsz0:W.heap.size=w.heap.size+1:=by rw[hW,setRow_size,hW0];simp
  apply Array.ext_getElem?
  intro k
  by_cases hk:k=gb
  ·subst hk
   rw[setRow_heap _ _ _ _ _ _ h1,hgb];simp
  ·rw[setRow_other _ _ _ _ hk]
   by_cases hk2:k<w.heap.size
   ·rw[hW,setRow_other _ _ _ _ hk,hpast W0 hW0 k hk2,Array.getElem?_push_lt hk2];simp[hk2]
   ·rw[Array.getElem?_eq_none (by omega),Array.getElem?_eq_none (by simp;omega)]
 have hMM:Go.splice (Go.splice R (i*6) vs) ((i+1)*6) C1=Go.splice M1 ((i+1)*6) C1:=by rw[hM1]
 subst hgb
 have hcpA':=hcpA ((w.alloc (.cells R.toArray 73)).drew) rfl
 clear hkk hcpA hik hold hG hR hRe hC1 hM1 hC1l hM1l h1 h2 hvs hL hTl
 go_enter Tryz.func168,Tryz.ntmps168
 go_wp2_with (at_builtin;refine zbd rfl _ _ _ _ rfl _ _ rfl rfl (hrz _) ?_)
 go_region_law_o (refine zcu rfl _ _ 24 24 rfl (.slice (some ⟨w.heap.size,(i+1)*6,none⟩) (n-i) (G-(i+1))) (.slice (some ⟨b,i*6,none⟩) (n-i) (c-i)) (by simp[Act.eval,Act.put]) (by simp[Act.eval,Act.put]) (hcpB (((w.alloc (.cells R.toArray 73)).drew.setRow w.heap.size M1.toArray).drew) (w.drew.alloc (.cells R.toArray 73)) rfl rfl 3 (G-(i+1)) (c-i)) ?_)
 go_wp2
 go_ret
 refine ⟨G,R,rfl,hge,hRl,hRt,?_,rfl,rfl,rfl⟩
 rw[hMM]
 exact hfin _ (w.drew.alloc (.cells R.toArray 73)) rfl rfl
end Go.Proofs.YtpaidiaknfhclaaGreatDoor
namespace Go.Proofs.YtpaidiaknfhclaaGreatDoor
open Go Ev
theorem zwy:∃i0 z,Tryz.prog.info? 75=some i0∧i0.zero=some z∧z.cells.size=11∧i0.size=11∧∀v∈z.cells,v.oneCell'=true:=by
 have h:(match Tryz.prog.info? 75 with|some i=>(match i.zero with|some z=>Nat.beq z.cells.size 11&&Nat.beq i.size 11&&z.cells.toList.all (·.oneCell')|none=>false)|none=>false)=true:=by kernel_rfl
 split at h
 ·rename_i i hi
  split at h
  ·rename_i z hz
   simp only[Bool.and_eq_true]at h
   exact ⟨i,z,hi,hz,Nat.eq_of_beq_eq_true h.1.1,Nat.eq_of_beq_eq_true h.1.2,fun v hv=>List.all_eq_true.1 h.2 v (by simpa using hv)⟩
  ·cases h
 ·cases h
set_option maxHeartbeats 4000000 in
set_option maxRecDepth 100000 in
theorem zmk {w:World} {base:Option Addr} {n c i:Nat} (hnc:n≤c) (hi:i≤n) :
 Calls Tryz.prog 225 #[.slice base n c,.int .i64 i,.int .i64 i] w fun e w'=>e=.returned (.slice base n c)∧w'=w:=by
 cases base with
 |none=>
  go_enter Tryz.func225,Tryz.ntmps225
  go_wp2
  all_goals (go_ret;exact ⟨rfl,rfl⟩)
 |some a=>
  obtain ⟨ab,ao,asp⟩:=a
  go_enter Tryz.func225,Tryz.ntmps225
  go_wp2
  all_goals (go_ret;exact ⟨rfl,rfl⟩)
set_option maxHeartbeats 4000000 in
set_option maxRecDepth 100000 in
theorem zml {w:World} {b n c i j:Nat} {L:List Value} {t:TypeId} (hij:i<j) (hj:j≤n) (hnc:n≤c)
 (hb:w.heap[b]?=some (.cells L.toArray t (0,0))) (hL:L.length=c*11) (h1:∀v∈(L.drop (j*11)).take ((n-j)*11),v.oneCell'=true) :
 Calls Tryz.prog 225 #[.slice (some ⟨b,0,none⟩) n c,.int .i64 i,.int .i64 j] w fun e w'=>
  e=.returned (.slice (some ⟨b,0,none⟩) (i+(n-j)) c)∧∃(M0:Array Value) (zs:List Value),zs.length=(j-i)*11∧w'=(w.drew.setRow b M0).setRow b (Go.splice (Go.splice L (i*11) ((L.drop (j*11)).take ((n-j)*11))) ((i+(n-j))*11) zs).toArray:=by
 obtain ⟨i0,z0,hi0,hz0,hzs,hsz,hz1⟩:=zwy
 have hLn:n*11≤L.length:=by rw[hL];exact Nat.mul_le_mul_right _ hnc
 obtain ⟨C1,hC1⟩:∃C1,C1=(L.drop (j*11)).take ((n-j)*11):=⟨_,rfl⟩
 have hC1l:C1.length=(n-j)*11:=by rw[hC1];simp;omega
 obtain ⟨M1,hM1⟩:∃M1,M1=Go.splice L (i*11) C1:=⟨_,rfl⟩
 have hM1l:M1.length=L.length:=by rw[hM1];exact length_splice _ _ _ (by omega)
 rw[←hC1,←hM1]
 obtain ⟨A,hA,hsrc⟩:∃A:Addr,(if c=j then some (⟨b,0,none⟩:Addr) else some ⟨b,j*11,none⟩)=some A∧∀q v,C1[q]?=some v→w.drew.cell? (A.add q)=some v:=by
  by_cases h:c=j
  ·refine ⟨⟨b,0,none⟩,by simp[h],fun q v hq=>?_⟩
   have:=(List.getElem?_eq_some_iff.1 hq).1
   omega
  ·refine ⟨⟨b,j*11,none⟩,by simp[h],fun q v hq=>?_⟩
   rw[Addr.add_lit]
   show w.cell? _=_
   simp only[World.cell?,hb]
   rw[hC1,List.getElem?_take]at hq
   split at hq
   ·simpa using hq
   ·cases hq
 have hf:∀xc,(Builtin.firstCells i0.size (n-j) (.slice (some A) (n-j) xc)).run Tryz.prog w.drew=.ok C1.toArray w.drew:=fun xc=>run_firstCells_some (P:=Tryz.prog) w.drew i0.size (n-j) A (n-j) xc C1 (by rw[hsz];exact hC1l) hsrc
 have hone:∀v∈C1,v.oneCell'=true:=by rw[hC1];exact h1
 have hap:∀ty xc,(Builtin.append_ #[25,25] ty #[.slice (some ⟨b,0,none⟩) i c,.slice (some A) (n-j) xc]).run Tryz.prog w.drew=.ok (.slice (some ⟨b,0,none⟩) (i+(n-j)) c) (w.drew.setRow b M1.toArray):=fun ty xc=>by
  have:=zbv (P:=Tryz.prog) (w:=w.drew) (ty:=ty) (ts:=#[25,25]) rfl rfl Tryz.underlying25 Tryz.underlying25 hi0 (hf xc) (sLen:=i) (sCap:=c) (by omega) hb (by simp only[List.size_toArray];rw[hsz];omega) hone
  rw[hsz]at this
  rw[hM1]
  simpa[Go.splice]using this
 obtain ⟨zs,hzs'⟩:∃zs,zs=(Builtin.zeroCells z0.cells (j-i)).toList:=⟨_,rfl⟩
 have hzl:zs.length=(j-i)*11:=by rw[hzs',Array.length_toList,Go.size_zeroCells,hzs]
 have hcl:∀ty cc,(Builtin.clear_ #[25] ty #[.slice (some ⟨b,(i+(n-j))*11,none⟩) (n-(i+(n-j))) cc]).run Tryz.prog (w.drew.setRow b M1.toArray)=.ok (.tuple #[]) ((w.drew.setRow b M1.toArray).setRow b (Go.splice M1 ((i+(n-j))*11) zs).toArray):=fun ty cc=>by
  have e:n-(i+(n-j))=j-i:=by omega
  rw[e,hzs']
  exact zjr (P:=Tryz.prog) (w:=w.drew.setRow b M1.toArray) Tryz.underlying25 hi0 hz0 (by omega) (setRow_heap _ _ _ _ _ _ hb) (by rw[hzs];omega) hz1
 have hic:i≤c:=by omega
 have hjc:j≤c:=by omega
 have mixed:Tryz.prog.follows .mixedOrders=true:=by kernel_rfl
 clear hC1 hM1 hC1l hM1l h1 hL hf hone hzs'
 go_enter Tryz.func225,Tryz.ntmps225
 go_wp2_with fail
 go_region_law_o (refine zly rfl (.tmp 22) (.tmp 25) 25 25 rfl (.slice (some ⟨b,0,none⟩) i c) (.slice (some A) (n-j) (c-j)) (by simp[Act.eval,Act.put]) (by simp[Act.eval,Act.put]) (hap _ _) ?_)
 go_wp2
 go_ret
 exact ⟨rfl,_,zs,hzl,rfl⟩
end Go.Proofs.YtpaidiaknfhclaaGreatDoor
namespace Go.Proofs.YtpaidiaknfhclaaGreatDoor
open Go Ev
theorem zwz:∃i0 z,Tryz.prog.info? 73=some i0∧i0.zero=some z∧z.cells.size=6∧i0.size=6∧∀v∈z.cells,v.oneCell'=true:=by
 have h:(match Tryz.prog.info? 73 with|some i=>(match i.zero with|some z=>Nat.beq z.cells.size 6&&Nat.beq i.size 6&&z.cells.toList.all (·.oneCell')|none=>false)|none=>false)=true:=by kernel_rfl
 split at h
 ·rename_i i hi
  split at h
  ·rename_i z hz
   simp only[Bool.and_eq_true]at h
   exact ⟨i,z,hi,hz,Nat.eq_of_beq_eq_true h.1.1,Nat.eq_of_beq_eq_true h.1.2,fun v hv=>List.all_eq_true.1 h.2 v (by simpa using hv)⟩
  ·cases h
 ·cases h
set_option maxHeartbeats 4000000 in
set_option maxRecDepth 100000 in
theorem zmm {w:World} {base:Option Addr} {n c i:Nat} (hnc:n≤c) (hi:i≤n) :
 Calls Tryz.prog 187 #[.slice base n c,.int .i64 i,.int .i64 i] w fun e w'=>e=.returned (.slice base n c)∧w'=w:=by
 cases base with
 |none=>
  go_enter Tryz.func187,Tryz.ntmps187
  go_wp2
  all_goals (go_ret;exact ⟨rfl,rfl⟩)
 |some a=>
  obtain ⟨ab,ao,asp⟩:=a
  go_enter Tryz.func187,Tryz.ntmps187
  go_wp2
  all_goals (go_ret;exact ⟨rfl,rfl⟩)
set_option maxHeartbeats 4000000 in
set_option maxRecDepth 100000 in
theorem zmn {w:World} {b n c i j:Nat} {L:List Value} {t:TypeId} (hij:i<j) (hj:j≤n) (hnc:n≤c)
 (hb:w.heap[b]?=some (.cells L.toArray t (0,0))) (hL:L.length=c*6) (h1:∀v∈(L.drop (j*6)).take ((n-j)*6),v.oneCell'=true) :
 Calls Tryz.prog 187 #[.slice (some ⟨b,0,none⟩) n c,.int .i64 i,.int .i64 j] w fun e w'=>
  e=.returned (.slice (some ⟨b,0,none⟩) (i+(n-j)) c)∧∃(M0:Array Value) (zs:List Value),zs.length=(j-i)*6∧w'=(w.drew.setRow b M0).setRow b (Go.splice (Go.splice L (i*6) ((L.drop (j*6)).take ((n-j)*6))) ((i+(n-j))*6) zs).toArray:=by
 obtain ⟨i0,z0,hi0,hz0,hzs,hsz,hz1⟩:=zwz
 have hLn:n*6≤L.length:=by rw[hL];exact Nat.mul_le_mul_right _ hnc
 obtain ⟨C1,hC1⟩:∃C1,C1=(L.drop (j*6)).take ((n-j)*6):=⟨_,rfl⟩
 have hC1l:C1.length=(n-j)*6:=by rw[hC1];simp;omega
 obtain ⟨M1,hM1⟩:∃M1,M1=Go.splice L (i*6) C1:=⟨_,rfl⟩
 have hM1l:M1.length=L.length:=by rw[hM1];exact length_splice _ _ _ (by omega)
 rw[←hC1,←hM1]
 obtain ⟨A,hA,hsrc⟩:∃A:Addr,(if c=j then some (⟨b,0,none⟩:Addr) else some ⟨b,j*6,none⟩)=some A∧∀q v,C1[q]?=some v→w.drew.cell? (A.add q)=some v:=by
  by_cases h:c=j
  ·refine ⟨⟨b,0,none⟩,by simp[h],fun q v hq=>?_⟩
   have:=(List.getElem?_eq_some_iff.1 hq).1
   omega
  ·refine ⟨⟨b,j*6,none⟩,by simp[h],fun q v hq=>?_⟩
   rw[Addr.add_lit]
   show w.cell? _=_
   simp only[World.cell?,hb]
   rw[hC1,List.getElem?_take]at hq
   split at hq
   ·simpa using hq
   ·cases hq
 have hf:∀xc,(Builtin.firstCells i0.size (n-j) (.slice (some A) (n-j) xc)).run Tryz.prog w.drew=.ok C1.toArray w.drew:=fun xc=>run_firstCells_some (P:=Tryz.prog) w.drew i0.size (n-j) A (n-j) xc C1 (by rw[hsz];exact hC1l) hsrc
 have hone:∀v∈C1,v.oneCell'=true:=by rw[hC1];exact h1
 have hap:∀ty xc,(Builtin.append_ #[24,24] ty #[.slice (some ⟨b,0,none⟩) i c,.slice (some A) (n-j) xc]).run Tryz.prog w.drew=.ok (.slice (some ⟨b,0,none⟩) (i+(n-j)) c) (w.drew.setRow b M1.toArray):=fun ty xc=>by
  have:=zbv (P:=Tryz.prog) (w:=w.drew) (ty:=ty) (ts:=#[24,24]) rfl rfl Tryz.underlying24 Tryz.underlying24 hi0 (hf xc) (sLen:=i) (sCap:=c) (by omega) hb (by simp only[List.size_toArray];rw[hsz];omega) hone
  rw[hsz]at this
  rw[hM1]
  simpa[Go.splice]using this
 obtain ⟨zs,hzs'⟩:∃zs,zs=(Builtin.zeroCells z0.cells (j-i)).toList:=⟨_,rfl⟩
 have hzl:zs.length=(j-i)*6:=by rw[hzs',Array.length_toList,Go.size_zeroCells,hzs]
 have hcl:∀ty cc,(Builtin.clear_ #[24] ty #[.slice (some ⟨b,(i+(n-j))*6,none⟩) (n-(i+(n-j))) cc]).run Tryz.prog (w.drew.setRow b M1.toArray)=.ok (.tuple #[]) ((w.drew.setRow b M1.toArray).setRow b (Go.splice M1 ((i+(n-j))*6) zs).toArray):=fun ty cc=>by
  have e:n-(i+(n-j))=j-i:=by omega
  rw[e,hzs']
  exact zjr (P:=Tryz.prog) (w:=w.drew.setRow b M1.toArray) Tryz.underlying24 hi0 hz0 (by omega) (setRow_heap _ _ _ _ _ _ hb) (by rw[hzs];omega) hz1
 have hic:i≤c:=by omega
 have hjc:j≤c:=by omega
 have mixed:Tryz.prog.follows .mixedOrders=true:=by kernel_rfl
 clear hC1 hM1 hC1l hM1l h1 hL hf hone hzs'
 go_enter Tryz.func187,Tryz.ntmps187
 go_wp2_with fail
 go_region_law_o (refine zly rfl (.tmp 22) (.tmp 25) 24 24 rfl (.slice (some ⟨b,0,none⟩) i c) (.slice (some A) (n-j) (c-j)) (by simp[Act.eval,Act.put]) (by simp[Act.eval,Act.put]) (hap _ _) ?_)
 go_wp2
 go_ret
 exact ⟨rfl,_,zs,hzl,rfl⟩
end Go.Proofs.YtpaidiaknfhclaaGreatDoor
namespace Go.Proofs.YtpaidiaknfhclaaGreatDoor
open Go Ev
open Go.Lib Go.RowKit
theorem zax0 {X:Ending} (a:Int) {b:Int} (h:X=.returned (.int .i64 a)) (e:a=b):X=.returned (.int .i64 b):=e▸h
theorem zan8 (b cap:Nat) (x y z:Int) (w:World) (h0:w.cell? ⟨b,0,none⟩=some (.int .i64 x)) (h1:w.cell? ⟨b,1,none⟩=some (.int .i64 y)) (h2:w.cell? ⟨b,2,none⟩=some (.int .i64 z)) :
 Calls Tryz.prog 61 #[.slice (some ⟨b,0,none⟩) 3 cap] w fun e w'=>e=.returned (.int .i64 (zf5 x (zf5 y z)))∧w'=w:=by
 obtain ⟨R,hR⟩:∃R,R=zf5 x (zf5 y z):=⟨_,rfl⟩
 have r0:x≠0→x=R:=fun h=>by rw[hR];unfold zf5;rw[if_neg h]
 have r1:x=0→y≠0→y=R:=fun h h'=>by rw[hR];unfold zf5;rw[if_pos h,if_neg h']
 have r2:x=0→y=0→z=R:=fun h h'=>by rw[hR];unfold zf5;rw[if_pos h,if_pos h']
 rw[←hR]
 clear hR
 go_enter Tryz.func61,Tryz.ntmps61
 go_wp2
 go_loop [2,8] (fun r i=>∃k:Nat,k≤3∧i=.int .i64 k∧r=.int .i64 0∧(1≤k→x=0)∧(2≤k→y=0)∧(3≤k→z=0)) (fun _ i=>3-(intOf i).toNat)
 case atStart=>exact ⟨0,by omega,rfl,rfl,by omega,by omega,by omega⟩
 case round=>
  obtain ⟨k,hk,rfl,rfl,k1,k2,k3⟩:=hrel
  rcases (by omega:k=0∨k=1∨k=2∨k=3) with rfl|rfl|rfl|rfl
  ·clear k1 k2 k3
   have H1:Hid ((x != 0)=true→x=R):=fun h=>r0 (by simpa using h)
   clear r0 r1 r2
   go_wp2
   all_goals first
    |(rw[←H1.out (by assumption)];go_ret;exact ⟨rfl,rfl⟩)
    |(go_round;(case rel=>exact ⟨1,by omega,by go_num,rfl,fun _=>by simp_all,by omega,by omega⟩);(case measure=>simp[intOf]))
  ·have H1:Hid ((y != 0)=true→y=R):=fun h=>r1 (k1 (by omega)) (by simpa using h)
   have H0:Hid (x=0):=k1 (by omega)
   clear k1 k2 k3 r0 r1 r2
   go_wp2
   all_goals first
    |(rw[←H1.out (by assumption)];go_ret;exact ⟨rfl,rfl⟩)
    |(go_round;(case rel=>exact ⟨2,by omega,by go_num,rfl,fun _=>H0.out,fun _=>by simp_all,by omega⟩);(case measure=>simp[intOf]))
  ·have H1:Hid (z=R):=r2 (k1 (by omega)) (k2 (by omega))
   have H0:Hid (x=0∧y=0):=⟨k1 (by omega),k2 (by omega)⟩
   clear k1 k2 k3 r0 r1 r2
   go_wp2
   all_goals first
    |(rw[←H1.out];go_ret;exact ⟨rfl,rfl⟩)
    |(go_round;(case rel=>exact ⟨3,by omega,by go_num,rfl,fun _=>H0.out.1,fun _=>H0.out.2,fun _=>by simp_all⟩);(case measure=>simp[intOf]))
  ·have H1:Hid (0=R):=(k3 (by omega)).symm.trans (r2 (k1 (by omega)) (k2 (by omega)))
   clear k1 k2 k3 r0 r1 r2
   go_wp2
   rw[←H1.out]
   go_ret
   exact ⟨rfl,rfl⟩
def encC (x:Weed_candidate):List Value:=[.int .i64 x.id_,.int .i64 x.record,.int .i64 x.loans,.int .i64 x.last]
def cfC (a b:Weed_candidate):Int:=zf5 (Go.Lib.compareInt a.loans b.loans) (zf5 (Go.Lib.compareInt a.last b.last) (Go.Lib.compareInt a.id_ b.id_))
set_option maxHeartbeats 4000000 in
theorem z9t (a b:Weed_candidate) (W:World):Calls Tryz.prog 60 #[.agg (encC a).toArray,.agg (encC b).toArray] W fun e w'=>e=.returned (.int .i64 (cfC a b))∧∃q os',w'=Go.Sort.grow (W.drewN q) os':=by
 obtain ⟨i1,c1,l1,s1⟩:=a
 obtain ⟨i2,c2,l2,s2⟩:=b
 have hcon:∀(x y:Int) (W':World),Calls Tryz.prog 62 #[.int .i64 x,.int .i64 y] W' fun e w'=>e=.returned (.int .i64 (Go.Lib.compareInt x y))∧w'=W':=fun x y W'=>AnyG.cmp_Compare_int Tryz.laysCmp x y W'
 show Calls Tryz.prog 60 #[.agg #[.int .i64 i1,.int .i64 c1,.int .i64 l1,.int .i64 s1],.agg #[.int .i64 i2,.int .i64 c2,.int .i64 l2,.int .i64 s2]] W fun e w'=>e=.returned (.int .i64 (zf5 (Go.Lib.compareInt l1 l2) (zf5 (Go.Lib.compareInt s1 s2) (Go.Lib.compareInt i1 i2))))∧∃q os',w'=Go.Sort.grow (W.drewN q) os'
 have k1:=hcon l1 l2
 have k2:=hcon s1 s2
 have k3:=hcon i1 i2
 clear hcon
 generalize Go.Lib.compareInt l1 l2=r1 at *
 generalize Go.Lib.compareInt s1 s2=r2 at *
 generalize Go.Lib.compareInt i1 i2=r3 at *
 go_enter Tryz.func60,Tryz.ntmps60
 go_wp2
 go_region_held3 (fun w'=>w'.cell? ⟨W.heap.size,0,none⟩=some (.int .i64 i1)∧w'.cell? ⟨W.heap.size,2,none⟩=some (.int .i64 l1)∧w'.cell? ⟨W.heap.size,3,none⟩=some (.int .i64 s1)∧w'.cell? ⟨W.heap.size+1,0,none⟩=some (.int .i64 i2)∧w'.cell? ⟨W.heap.size+1,2,none⟩=some (.int .i64 l2)∧w'.cell? ⟨W.heap.size+1,3,none⟩=some (.int .i64 s2)) (go_keep)
  (first
   |(go_at_call_of 62 (Value.int .i64 l1);refine (k1 _).mono ?_;rintro e w' ⟨rfl,rfl⟩)
   |(go_at_call_of 62 (Value.int .i64 s1);refine (k2 _).mono ?_;rintro e w' ⟨rfl,rfl⟩)
   |(go_at_call_of 62 (Value.int .i64 i1);refine (k3 _).mono ?_;rintro e w' ⟨rfl,rfl⟩)
   |(go_at_call 61;refine (zan8 _ _ r1 r2 r3 _ (by go_simp) (by go_simp) (by go_simp)).mono ?_;rintro e w' ⟨rfl,rfl⟩))
 all_goals go_wp2
 all_goals go_ret
 exact ⟨rfl,1,_,by rw[Go.Sort.alloc_eq_grow,Go.Sort.alloc_eq_grow,Go.Sort.alloc_eq_grow,Go.Sort.grow_grow,Go.Sort.grow_grow];rfl⟩
end Go.Proofs.YtpaidiaknfhclaaGreatDoor
namespace Go.Proofs.YtpaidiaknfhclaaGreatDoor
open Go Ev
open Go.Sort
set_option maxRecDepth 100000
theorem ztm (a b:Weed_candidate):cfC a b<0↔a.loans<b.loans∨(a.loans=b.loans∧(a.last<b.last∨(a.last=b.last∧a.id_<b.id_))):=by
 unfold cfC zf5 Go.Lib.compareInt
 by_cases h1:a.loans<b.loans
 ·simp[h1]
 ·by_cases h2:a.loans>b.loans
  ·have:¬a.loans=b.loans:=by omega
   simp[h1,h2,this]
  ·have h3:a.loans=b.loans:=by omega
   by_cases h4:a.last<b.last
   ·simp[h3,h4]
   ·by_cases h5:a.last>b.last
    ·have:¬a.last=b.last:=by omega
     simp[h3,h4,h5,this]
    ·have h6:a.last=b.last:=by omega
     by_cases h7:a.id_<b.id_
     ·simp[h3,h6,h7]
     ·by_cases h8:a.id_>b.id_
      ·simp[h3,h6,h7,h8]
      ·simp[h3,h6,h7,h8]
theorem zqw:SWO (ltOf cfC) where
 irrefl x:=by
  have h:=ztm x x
  unfold ltOf
  rw[decide_eq_false_iff_not,h];omega
 trans x y z h1 h2:=by
  unfold ltOf at *
  simp only[decide_eq_true_eq,ztm]at *
  omega
 ntrans x y z h1 h2:=by
  unfold ltOf at *
  simp only[decide_eq_false_iff_not,ztm]at *
  omega
theorem zair {w:World} {I J:Nat→Nat→Prop} {xs:List Weed_candidate} {vals:Array Value}
 (hc:∀i (hi:i<xs.length) j d,(sg.enc Kd.kWeed_candidate xs[i])[j]?=some d→∃v,vals[i*sg.sz Kd.kWeed_candidate+j]?=some v∧DR sg w I J v d) :
 ∀i (hi:i<xs.length) j v,(encC xs[i])[j]?=some v→vals[i*4+j]?=some v:=by
 intro i hi j v hv
 have key:∀n,(sg.enc Kd.kWeed_candidate xs[i])[j]?=some (.int .i64 n)→v=.int .i64 n→vals[i*4+j]?=some v:=by
  intro n h1 h2
  obtain ⟨u,h3,h4⟩:=hc i hi j _ h1
  rw[h2,←h4.int_inv];exact h3
 match j,hv with
 |0,hv=>exact key _ rfl (Option.some.inj hv).symm
 |1,hv=>exact key _ rfl (Option.some.inj hv).symm
 |2,hv=>exact key _ rfl (Option.some.inj hv).symm
 |3,hv=>exact key _ rfl (Option.some.inj hv).symm
 |j+4,hv=>simp[encC]at hv
theorem z1z {xs:List Weed_candidate} {i j:Nat} (hi:i<xs.length) (hj:j<4):(encC xs[i])[j]?=some (flatK encC 4 xs.toArray)[i*4+j]!:=by
 have h:i*4+j<xs.toArray.size*4:=by simp;omega
 rw[get_flatK _ _ _ _ h]
 have e1:(i*4+j) / 4=i:=by omega
 have e2:(i*4+j) % 4=j:=by omega
 rw[e1,e2]
 have e3:xs.toArray[i]! = xs[i]:=by simp[hi]
 rw[e3]
 have:j<(encC xs[i]).length:=hj
 rw[List.getElem?_eq_getElem this,List.getElem!_eq_getElem?_getD,List.getElem?_eq_getElem this]
 rfl
theorem zamq {w:World} {xs:List Weed_candidate} {blk:Nat} {vals:Array Value} {t:TypeId} (hb:w.heap[blk]?=some (.cells vals t (0,0)))
 (hc:∀i (hi:i<xs.length) j v,(encC xs[i])[j]?=some v→vals[i*4+j]?=some v):HoldsK encC 4 w blk 0 xs.toArray:=by
 intro t ht
 have ht:t<xs.length*4:=by simpa using ht
 have e:t=t / 4*4+t % 4:=by omega
 have h1:=z1z (xs:=xs) (i:=t / 4) (j:=t % 4) (by omega) (by omega)
 rw[←e]at h1
 have h2:=hc (t / 4) (by omega) (t % 4) _ h1
 rw[←e]at h2
 refine ⟨?_,?_⟩
 ·simp only[World.cell?,hb,Nat.zero_add,h2]
  rfl
 ·simp[World.frozen?,hb]
theorem zaaf {w:World} {I J:Nat→Nat→Prop} {F:Array Value} {blk q:Nat} {vals:Array Value} {t:TypeId} {os:Array Obj} (hp:Pre sg w I J [blk]) (hb:w.heap[blk]?=some (.cells vals t (0,0))) (hy:F.size≤vals.size) :
 GrowM [blk] w (grow (putRow id (Sort.ahead w q) blk 0 F) os) I I∧
 ∃vals',(grow (putRow id (Sort.ahead w q) blk 0 F) os).heap[blk]?=some (.cells vals' t (0,0))∧vals'.size=vals.size∧∀i,i<F.size→vals'[i]?=some F[i]!:=by
 have hlt:blk<w.heap.size:=(Array.getElem?_eq_some_iff.1 hb).1
 have hh:(grow (putRow id (Sort.ahead w q) blk 0 F) os).heap=w.heap.modify blk (onCells (putCells id 0 F))++os:=rfl
 have hsz:(w.heap.modify blk (onCells (putCells id 0 F))).size=w.heap.size:=by simp
 have hget:∀b,b<w.heap.size→(grow (putRow id (Sort.ahead w q) blk 0 F) os).heap[b]?=if blk=b then (w.heap[b]?).map (onCells (putCells id 0 F)) else w.heap[b]?:=by
  intro b hb
  rw[hh,Array.getElem?_append_left (by rw[hsz];exact hb),Array.getElem?_modify]
 refine ⟨⟨?_,rfl,rfl,rfl,fun b h1 h2=>?_,fun _ _ h=>h,fun _ _ h=>.inl h,fun b o h=>?_⟩,putCells id 0 F vals,?_,?_,?_⟩
 ·rw[hh,Array.size_append,hsz];omega
 ·rw[hget b h1,if_neg (fun e=>h2 (by simp[e]))]
 ·have:=hp.ib b o h
  rw[hh,Array.size_append,hsz];omega
 ·rw[hget blk hlt,if_pos rfl,hb]
  rfl
 ·simp[putCells]
 ·intro i hi
  unfold putCells
  rw[Array.getElem?_mapIdx,Array.getElem?_eq_getElem (by omega)]
  simp[hi]
theorem zw5 {mb:List Nat} {w:World} {I:Nat→Nat→Prop} (h:∀b o,I b o→b<w.heap.size):GrowM mb w w I I:=⟨Nat.le_refl _,rfl,rfl,rfl,fun _ _ _=>rfl,fun _ _ h=>h,fun _ _ h=>.inl h,h⟩
theorem zahr {w:World} {I J:Nat→Nat→Prop} {vs:Array Value} (h:Args sg w I J vs [.fn 60 [] []]):vs = #[.func (.func 60) #[] #[]]:=by
 obtain ⟨h1,h2⟩:=h
 have h1:vs.size=1:=h1
 obtain ⟨v,hv⟩:∃v,vs[0]?=some v:=⟨vs[0],by simp[h1]⟩
 have h3:=h2 0 v _ hv rfl
 cases h3 with
 |fn f p c ps cs hp hc k1 k2=>
  have hp:p = #[]:=Array.eq_empty_of_size_eq_zero hp
  have hc:c = #[]:=Array.eq_empty_of_size_eq_zero hc
  subst hp
  subst hc
  refine Array.ext (by simp[h1]) (fun i hi _=>?_)
  have:i=0:=by omega
  subst this
  have:=(Array.getElem?_eq_some_iff.1 hv).2
  simpa using this
theorem zzz (blk off size:Nat) (w:World):CmpLays Tryz.prog 60 #[] encC 4 cfC blk off size w:=fun m os dk _ x y=>z9t x y (sortWorldK encC 4 w blk off m dk os)
theorem zacg (xs:List Weed_candidate):(pdqL cfC xs).length=xs.length:=by
 have h:=(pdq_sorts (ltOf cfC) zqw xs.toArray 0 xs.toArray.size (Lib.bitLen xs.toArray.size) true true (Nat.zero_le _) (Nat.le_refl _) (Or.inl rfl)).1.1
 show (pdq (ltOf cfC) xs.toArray 0 xs.length (Go.Lib.bitLen xs.length) true true).toList.length=_
 simpa using h
theorem zaxa:fnB Tryz.prog 59 Tryz.f59 []=true:=by kernel_rfl
theorem z1t:∀args w,(callFunc 60 args).run Tryz.prog w=.ok (.enter 60 args) w:=enters_of Tryz.func60 (by kernel_rfl) rfl
theorem zakn:∀ds a r,zyz.dec ds=some a→zafa a=some r→Con Tryz.prog sg 59 ds [] (zagp.enc r) []:=by
 intro ds a r hd hf
 obtain ⟨code,fok,-,-⟩:=zbe Tryz.func59 zaxa
 have hac:CCOk zyz:=CCOk.cons (zai.lst _) (CCOk.cons (zai.fnc _ CCOk.nil CCOk.nil) CCOk.nil)
 have hds:=hac ds a hd
 have hmd:sg.md 59=.inpl:=by kernel_rfl
 unfold Con
 rw[hmd]
 obtain ⟨zs,u⟩:=a
 have hds:WL ds [.lst .kWeed_candidate zs,.fn 60 [] []]:=hds
 have hf:(bif decide (zs.length≤LIM) then some (pdqL cfC zs) else none)=some r:=hf
 intro _ k xs ds0 he xs' hr w I J mb v0 vs hp ho hargs
 subst he
 have hr:(D.lst Kd.kWeed_candidate r:DD)=D.lst k xs':=hr
 cases hr
 have hw0:=hds.2 0 _ _ rfl rfl
 cases hw0 with
 |leaf _ _ hw0=>
 cases hw0
 have hargs:=WL.args (cs':=[.fn 60 [] []]) ⟨by simpa using hds.1,fun q d d' h1 h2=>hds.2 (q+1) d d' h1 h2⟩ hargs
 have:=zahr hargs
 subst this
 cases hlim:decide (zs.length≤LIM) with
 |false=>rw[hlim]at hf;cases hf
 |true=>
  rw[hlim]at hf
  have hl:=of_decide_eq_true hlim
  unfold LIM at hl
  have hf:some (pdqL cfC zs)=some r:=hf
  cases hf
  have hlen:=zacg zs
  unfold zcg
  rw[show (#[v0]++#[Value.func (.func 60) #[] #[]]) = #[v0,Value.func (.func 60) #[] #[]] from rfl,MuLone.run_callFunc_enter fok.at_ fok.name fok.body _ w]
  simp only
  obtain ⟨base,cap,rfl,hcap,ho⟩:=ho
  rcases ho with ⟨rfl,rfl⟩|⟨blk,vals,t,rfl,rfl,hb,hv,hc⟩
  ·have hz:zs=[]:=List.length_eq_zero_iff.1 (by omega)
   subst hz
   have h:=AnyF.slices_SortFunc_none Tryz.laysSort base 0 (.func (.func 60) #[] #[]) w
   refine h.mono (fun e w' he=>?_)
   obtain ⟨rfl,rfl⟩:=he
   exact ⟨rfl,hlen,I,zw5 hp.ib,base,0,by rw[List.length_eq_zero_iff.1 hlen],by rw[hlen];simp,.inl ⟨rfl,rfl⟩⟩
  ·have hc2:=zair hc
   have hv:vals.size=cap*4:=hv
   have h:=AnyQ.slices_SortFunc_eq Tryz.laysSort 4 Tryz.isAgg63 Tryz.sizeOf63 encC (fun _=>rfl) (fun x v hv=>by simp[encC]at hv;rcases hv with rfl|rfl|rfl|rfl<;>rfl) cfC zqw 60 #[] blk 0 cap zs.toArray w z1t (zzz blk 0 zs.toArray.size w) (zamq hb hc2) (Array.getElem?_eq_some_iff.1 hb).1 (by simp;omega)
   refine h.mono (fun e w' he=>?_)
   obtain ⟨rfl,n,os,rfl⟩:=he
   obtain ⟨g,vals',h1,h2,h3⟩:=zaaf (q:=n) (os:=os) (F:=flatK encC 4 (pdqL cfC zs).toArray) hp hb (by simp;omega)
   refine ⟨rfl,hlen,I,g,some ⟨blk,0,none⟩,cap,by rw[hlen],by omega,.inr ⟨blk,vals',t,rfl,rfl,h1,by rw[h2];exact hv,?_⟩⟩
   intro i hi j d hd
   have key:∀n,j<4→(encC (pdqL cfC zs)[i])[j]?=some (.int .i64 n)→d=.int .i64 n→∃v,vals'[i*4+j]?=some v∧∀W,DR sg W I I v d:=by
    intro n hj e1 e2
    have h4:=z1z (xs:=pdqL cfC zs) hi hj
    have h5:=h3 (i*4+j) (by simp;omega)
    rw[←h4,e1]at h5
    exact ⟨_,h5,fun W=>by rw[e2];exact .int _ _⟩
   match j,hd with
   |0,hd=>obtain ⟨v,q1,q2⟩:=key _ (by omega) rfl (Option.some.inj hd).symm;exact ⟨v,q1,q2 _⟩
   |1,hd=>obtain ⟨v,q1,q2⟩:=key _ (by omega) rfl (Option.some.inj hd).symm;exact ⟨v,q1,q2 _⟩
   |2,hd=>obtain ⟨v,q1,q2⟩:=key _ (by omega) rfl (Option.some.inj hd).symm;exact ⟨v,q1,q2 _⟩
   |3,hd=>obtain ⟨v,q1,q2⟩:=key _ (by omega) rfl (Option.some.inj hd).symm;exact ⟨v,q1,q2 _⟩
   |j+4,hd=>exact absurd (show (none:Option DD)=some d from hd) (by simp)
end Go.Proofs.YtpaidiaknfhclaaGreatDoor
namespace Go.Proofs.YtpaidiaknfhclaaGreatDoor
set_option maxRecDepth 100000
open Ev
open Go
theorem zat0:fnB Tryz.prog 102 Tryz.f102 []=true:=by kernel_rfl
theorem zw9:InsOk Tryz.prog 102 (sg.sz Kd.kItem) 53:=⟨zj9,zmt,zor,zms⟩
theorem zakz:∀ds a r,zy3.dec ds=some a→zafd a=some r→Con Tryz.prog sg 102 ds [] (zagv.enc r) []:=by
 intro ds a r hd hf
 obtain ⟨code,fok,-,-⟩:=zbe Tryz.func102 zat0
 have hac:CCOk zy3:=CCOk.cons (zai.lst _) (CCOk.cons (zai.int _) (CCOk.cons (zai.lst _) CCOk.nil))
 exact zme good.sgk fok (by kernel_rfl) zw9 (hac ds a hd) hf
theorem zaua:fnB Tryz.prog 210 Tryz.f210 []=true:=by kernel_rfl
theorem zoo:InsOk Tryz.prog 210 (sg.sz Kd.kPatron) 71:=⟨zhk,zin,zkb,zim⟩
theorem zakw:∀ds a r,zy1.dec ds=some a→zafb a=some r→Con Tryz.prog sg 210 ds [] (zags.enc r) []:=by
 intro ds a r hd hf
 obtain ⟨code,fok,-,-⟩:=zbe Tryz.func210 zaua
 have hac:CCOk zy1:=CCOk.cons (zai.lst _) (CCOk.cons (zai.int _) (CCOk.cons (zai.lst _) CCOk.nil))
 exact zme good.sgk fok (by kernel_rfl) zoo (hac ds a hd) hf
theorem zat6:fnB Tryz.prog 168 Tryz.f168 []=true:=by kernel_rfl
theorem zxa:InsOk Tryz.prog 168 (sg.sz Kd.kLoan) 73:=⟨zka,zmv,zos,zmu⟩
theorem zaky:∀ds a r,zy2.dec ds=some a→zafc a=some r→Con Tryz.prog sg 168 ds [] (zagu.enc r) []:=by
 intro ds a r hd hf
 obtain ⟨code,fok,-,-⟩:=zbe Tryz.func168 zat6
 have hac:CCOk zy2:=CCOk.cons (zai.lst _) (CCOk.cons (zai.int _) (CCOk.cons (zai.lst _) CCOk.nil))
 exact zme good.sgk fok (by kernel_rfl) zxa (hac ds a hd) hf
theorem zaub:fnB Tryz.prog 225 Tryz.f225 []=true:=by kernel_rfl
theorem zww:DelOk Tryz.prog 225 (sg.sz Kd.kHold):=⟨zmk,zml⟩
theorem zak1:∀ds a r,zy5.dec ds=some a→zaff a=some r→Con Tryz.prog sg 225 ds [] (zagx.enc r) []:=by
 intro ds a r hd hf
 obtain ⟨code,fok,-,-⟩:=zbe Tryz.func225 zaub
 have hac:CCOk zy5:=CCOk.cons (zai.lst _) (CCOk.cons (zai.int _) (CCOk.cons (zai.int _) CCOk.nil))
 exact ztn good.sgk fok (by kernel_rfl) zww (hac ds a hd) hf
theorem zat8:fnB Tryz.prog 187 Tryz.f187 []=true:=by kernel_rfl
theorem zwx:DelOk Tryz.prog 187 (sg.sz Kd.kLoan):=⟨zmm,zmn⟩
theorem zak0:∀ds a r,zy4.dec ds=some a→zafe a=some r→Con Tryz.prog sg 187 ds [] (zagw.enc r) []:=by
 intro ds a r hd hf
 obtain ⟨code,fok,-,-⟩:=zbe Tryz.func187 zat8
 have hac:CCOk zy4:=CCOk.cons (zai.lst _) (CCOk.cons (zai.int _) (CCOk.cons (zai.int _) CCOk.nil))
 exact ztn good.sgk fok (by kernel_rfl) zwx (hac ds a hd) hf
end Go.Proofs.YtpaidiaknfhclaaGreatDoor
namespace Go.Proofs.YtpaidiaknfhclaaGreatDoor
open Go Ev
open Go.Lib Go.RowKit
set_option maxRecDepth 100000
theorem znm {w:World} {I:Nat→Nat→Prop} (h:zl0 sg w I):Lib.Utf8Tabs 0 1 w:=by
 constructor
 ·intro c hc
  have hl:c<zay.length:=by simp[zay];exact hc
  obtain ⟨v,h1,-,h3⟩:=h 0 .ku8 zay (by kernel_rfl) c hl 0 (.int .u8 zay[c]) rfl
  rw[h3.int_inv]at h1
  have e:zay[c]=(Lib.firstT c:Int):=by simp[zay]
  rw[e]at h1
  have h1:w.cell? ⟨0,c*1+0,none⟩=_:=h1
  rw[Nat.mul_one,Nat.add_zero]at h1
  exact h1
 ·intro i hi
  have hl:i<zao.length:=by simp[zao];exact hi
  obtain ⟨v,h1,-,h3⟩:=h 1 .kUtf8_acceptRange zao (by kernel_rfl) i hl 0 (.int .u8 zao[i].lo) rfl
  obtain ⟨v',k1,-,k3⟩:=h 1 .kUtf8_acceptRange zao (by kernel_rfl) i hl 1 (.int .u8 zao[i].hi) rfl
  rw[h3.int_inv]at h1
  rw[k3.int_inv]at k1
  have e:zao[i]=⟨(Lib.accLo i:Int),(Lib.accHi i:Int)⟩:=by simp[zao]
  rw[e]at h1 k1
  have h1:w.cell? ⟨1,i*2+0,none⟩=_:=h1
  have k1:w.cell? ⟨1,i*2+1,none⟩=_:=k1
  rw[Nat.mul_comm,Nat.add_zero]at h1
  rw[Nat.mul_comm]at k1
  exact ⟨h1,k1⟩
theorem zkv {w w':World} {I:Nat→Nat→Prop} (hi:∀b o,I b o→b<w.heap.size) (h:Below w.heap.size w w'):Grow w w' I I:=
 ⟨h.size,h.os,h.output,h.tape,h.block,fun _ _ h=>h,fun _ _ h=>.inl h,fun b o hb=>Nat.lt_of_lt_of_le (hi b o hb) h.size⟩
theorem z7s {w:World} {I J:Nat→Nat→Prop} {vs:Array Value} {l:List UInt8} (ha:Args sg w I J vs [.str l]):∃b:ByteArray,vs = #[.string b]∧l=b.data.toList:=by
 obtain ⟨h1,h2⟩:=ha
 have h1:vs.size=1:=h1
 have h0:=h2 0 vs[0] (.str l) (Array.getElem?_eq_getElem (by omega)) rfl
 generalize hv:vs[0]=v at h0
 cases h0 with
 |str b=>
  refine ⟨b,?_,rfl⟩
  apply Array.ext
  ·simp[h1]
  ·intro i hi1 hi2
   have:i=0:=by omega
   subst this
   simpa using hv
theorem zat2:fnB Tryz.prog 126 Tryz.f126 [4]=true:=by kernel_rfl
theorem z0p:∀ds a r,zyw.dec ds=some a→zae7 a=some r→Con Tryz.prog sg 126 ds [] (zagj.enc r) []:=by
 intro ds a r hd hf
 obtain ⟨code,fok,-,-⟩:=zbe Tryz.func126 zat2
 have hac:CCOk zyw:=CCOk.cons zai.str CCOk.nil
 have hw:=hac ds a hd
 obtain ⟨l,⟨⟩⟩:=a
 unfold Con
 rw[show sg.md 126=.data by kernel_rfl]
 intro _ w I J vs hp ha
 obtain ⟨b,rfl,rfl⟩:=z7s (l:=l) (hw.args ha)
 replace hf:(bif decide (b.data.toList.length≤LIM) then some (vld b.data.toList) else none)=some r:=hf
 rw[zad]at hf
 split at hf
 ·rename_i hle
  cases hf
  rw[decide_eq_true_eq,←Lib.size_eq]at hle
  unfold zcg
  rw[MuLone.run_callFunc_enter fok.at_ fok.name fok.body _ w]
  refine (zyn b w hle (znm hp.gl)).mono ?_
  rintro e w' ⟨rfl,hb⟩
  exact ⟨I,zkv hp.ib hb,.bool _⟩
 ·cases hf
theorem zat9:fnB Tryz.prog 198 Tryz.f198 []=true:=by kernel_rfl
theorem zakj:∀ds a r,zyy.dec ds=some a→zae9 a=some r→Con Tryz.prog sg 198 ds [] (zagn.enc r) []:=by
 intro ds a r hd hf
 obtain ⟨code,fok,-,-⟩:=zbe Tryz.func198 zat9
 have hac:CCOk zyy:=CCOk.cons zai.str CCOk.nil
 have hw:=hac ds a hd
 obtain ⟨l,⟨⟩⟩:=a
 unfold Con
 rw[show sg.md 198=.data by kernel_rfl]
 intro _ w I J vs hp ha
 obtain ⟨b,rfl,rfl⟩:=z7s (l:=l) (hw.args ha)
 replace hf:(bif decide (b.data.toList.length≤LIM)&&vld b.data.toList then some (cln b.data.toList) else none)=some r:=hf
 rw[zad]at hf
 split at hf
 ·rename_i hle
  cases hf
  rw[Bool.and_eq_true,decide_eq_true_eq,←Lib.size_eq]at hle
  unfold zcg
  rw[MuLone.run_callFunc_enter fok.at_ fok.name fok.body _ w]
  refine (zwo b w hle.1 hle.2).mono ?_
  rintro e w' ⟨rfl,hb⟩
  exact ⟨I,zkv hp.ib hb,.str ⟨(cln b.data.toList).toArray⟩⟩
 ·cases hf
theorem zakg:∀ds a r,zadb.dec ds=some a→zae8 a=some r→Con Tryz.prog sg 276 ds [] (zagm.enc r) []:=fun ds a r hd hf=>by cases hf
end Go.Proofs.YtpaidiaknfhclaaGreatDoor

namespace Go.Proofs.YtpaidiaknfhclaaGreatDoor
set_option maxRecDepth 100000
open Ev
open Go (IntKind)
open Go
noncomputable abbrev ZP:=Tryz.prog
theorem z98:fnB ZP 24 Tryz.f24 [4,9,14]=true:=by kernel_rfl
theorem z9m:CG ZP sg @zahv:=cg0
theorem zamz:zae ZP sg 0 Tryz.f24 @zhq 4:=zar z2g good Tryz.func24 z98 z9m zaa (fun a=>by kernel_rfl) (by kernel_rfl) (fun _ _=>rfl)
theorem zam0:zae ZP sg 0 Tryz.f24 @zhq 9:=zar z2h good Tryz.func24 z98 z9m zaa (fun a=>by kernel_rfl) (by kernel_rfl) (fun _ _=>rfl)
theorem zaav:zae ZP sg 0 Tryz.f24 @zhq 14:=zar zt2 good Tryz.func24 z98 z9m zaa (fun a=>by kernel_rfl) (by kernel_rfl) (fun _ _=>rfl)
theorem zata:SG ZP sg 24 @zawm:=conD (loops:=zhq) good Tryz.func24 z98 (by kernel_rfl) z9m (all_cons zamz (all_cons zam0 (all_cons zaav zaa))) (fun a=>by kernel_rfl)
theorem zq2:SG ZP sg 146 @zsk:=conE good Tryz.func146 (by kernel_rfl) (by kernel_rfl) cg0 (fun a=>by kernel_rfl)
theorem zaur:fnB ZP 88 Tryz.f88 [2]=true:=by kernel_rfl
theorem zado:CG ZP sg @z8t:=(cgc zq2 cg0)
theorem zaaz:zae ZP sg 0 Tryz.f88 @zpb 2:=zar zt6 good Tryz.func88 zaur zado zaa (fun a=>by kernel_rfl) (by kernel_rfl) (fun _ _=>rfl)
theorem zz6:SG ZP sg 88 @zsi:=conD (loops:=zpb) good Tryz.func88 zaur (by kernel_rfl) zado (all_cons zaaz zaa) (fun a=>by kernel_rfl)
theorem zate:SG ZP sg 147 @zag4:=conE good Tryz.func147 (by kernel_rfl) (by kernel_rfl) (cgc zq2 cg0) (fun a=>by kernel_rfl)
theorem zai4:SG ZP sg 148 @z5b:=conE good Tryz.func148 (by kernel_rfl) (by kernel_rfl) cg0 (fun a=>by kernel_rfl)
theorem zaus:fnB ZP 89 Tryz.f89 [4]=true:=by kernel_rfl
theorem zad5:CG ZP sg @z9a:=(cgc zq2 (cgc zate (cgc zai4 cg0)))
theorem zabg:zae ZP sg 0 Tryz.f89 @zps 4:=zar zun good Tryz.func89 zaus zad5 zaa (fun a=>by kernel_rfl) (by kernel_rfl) (fun _ _=>rfl)
theorem zajg:SG ZP sg 89 @z5l:=conD (loops:=zps) good Tryz.func89 zaus (by kernel_rfl) zad5 (all_cons zabg zaa) (fun a=>by kernel_rfl)
theorem zauf:fnB ZP 42 Tryz.f42 [4]=true:=by kernel_rfl
theorem zadw:CG ZP sg @z81:=(cgc zz6 (cgc zajg cg0))
theorem zaa7:zae ZP sg 0 Tryz.f42 @zpj 4:=zar zue good Tryz.func42 zauf zadw zaa (fun a=>by kernel_rfl) (by kernel_rfl) (fun _ _=>rfl)
theorem zaja:SG ZP sg 42 @z5f:=conD (loops:=zpj) good Tryz.func42 zauf (by kernel_rfl) zadw (all_cons zaa7 zaa) (fun a=>by kernel_rfl)
theorem zaug:fnB ZP 43 Tryz.f43 [4]=true:=by kernel_rfl
theorem zadv:CG ZP sg @z80:=cg0
theorem zaa6:zae ZP sg 0 Tryz.f43 @zpi 4:=zar zud good Tryz.func43 zaug zadv zaa (fun a=>by kernel_rfl) (by kernel_rfl) (fun _ _=>rfl)
theorem zai9:SG ZP sg 43 @z5e:=conD (loops:=zpi) good Tryz.func43 zaug (by kernel_rfl) zadv (all_cons zaa6 zaa) (fun a=>by kernel_rfl)
theorem zakm:SG ZP sg 149 @zap4:=conE good Tryz.func149 (by kernel_rfl) (by kernel_rfl) cg0 (fun a=>by kernel_rfl)
theorem zalt:SG ZP sg 150 @zaq3:=conE good Tryz.func150 (by kernel_rfl) (by kernel_rfl) cg0 (fun a=>by kernel_rfl)
theorem zakr:SG ZP sg 90 @z60:=conE good Tryz.func90 (by kernel_rfl) (by kernel_rfl) (cgc zakm (cgc zalt cg0)) (fun a=>by kernel_rfl)
theorem zaac:fnB ZP 44 Tryz.f44 [4,12,15]=true:=by kernel_rfl
theorem z9o:CG ZP sg @zah7:=(cgc zakr cg0)
theorem zane:zae ZP sg 0 Tryz.f44 @zhs 4:=zar z2x good Tryz.func44 zaac z9o zaa (fun a=>by kernel_rfl) (by kernel_rfl) (fun _ _=>rfl)
theorem zvd:zae ZP sg 0 Tryz.f44 @zhs 15:=zar zu4 good Tryz.func44 zaac z9o zaa (fun a=>by kernel_rfl) (by kernel_rfl) (fun _ _=>rfl)
theorem zabu:zae ZP sg 0 Tryz.f44 @zhs 12:=zar zu3 good Tryz.func44 zaac z9o (all_cons zvd zaa) (fun a=>by kernel_rfl) (by kernel_rfl) (fun _ _=>rfl)
theorem zatm:SG ZP sg 44 @zag8:=conD (loops:=zhs) good Tryz.func44 zaac (by kernel_rfl) z9o (all_cons zane (all_cons zabu (all_cons zvd zaa))) (fun a=>by kernel_rfl)
theorem zak8:SG ZP sg 91 @z7a:=conE good Tryz.func91 (by kernel_rfl) (by kernel_rfl) cg0 (fun a=>by kernel_rfl)
theorem zauh:fnB ZP 45 Tryz.f45 [4]=true:=by kernel_rfl
theorem zad4:CG ZP sg @z89:=(cgc zak8 cg0)
theorem zabf:zae ZP sg 0 Tryz.f45 @zpr 4:=zar zum good Tryz.func45 zauh zad4 zaa (fun a=>by kernel_rfl) (by kernel_rfl) (fun _ _=>rfl)
theorem zajf:SG ZP sg 45 @z5k:=conD (loops:=zpr) good Tryz.func45 zauh (by kernel_rfl) zad4 (all_cons zabf zaa) (fun a=>by kernel_rfl)
theorem zajp:SG ZP sg 151 @zapb:=conE good Tryz.func151 (by kernel_rfl) (by kernel_rfl) cg0 (fun a=>by kernel_rfl)
theorem zaj2:SG ZP sg 92 @z57:=conE good Tryz.func92 (by kernel_rfl) (by kernel_rfl) (cgc zajp cg0) (fun a=>by kernel_rfl)
theorem zami:fnB ZP 46 Tryz.f46 [4,9]=true:=by kernel_rfl
theorem zaim:CG ZP sg @zah6:=(cgc zaj2 cg0)
theorem z3l:zae ZP sg 0 Tryz.f46 @zm6 9:=zar z2w good Tryz.func46 zami zaim zaa (fun a=>by kernel_rfl) (by kernel_rfl) (fun _ _=>rfl)
theorem zand:zae ZP sg 0 Tryz.f46 @zm6 4:=zar z2v good Tryz.func46 zami zaim (all_cons z3l zaa) (fun a=>by kernel_rfl) (by kernel_rfl) (fun _ _=>rfl)
theorem zatl:SG ZP sg 46 @zag7:=conD (loops:=zm6) good Tryz.func46 zami (by kernel_rfl) zaim (all_cons zand (all_cons z3l zaa)) (fun a=>by kernel_rfl)
theorem zamj:fnB ZP 47 Tryz.f47 [6,11]=true:=by kernel_rfl
theorem zaio:CG ZP sg @zaig:=cg0
theorem zano:zae ZP sg 0 Tryz.f47 @zm8 6:=zar z3d good Tryz.func47 zamj zaio zaa (fun a=>by kernel_rfl) (by kernel_rfl) (fun _ _=>rfl)
theorem zabz:zae ZP sg 0 Tryz.f47 @zm8 11:=zar zu9 good Tryz.func47 zamj zaio zaa (fun a=>by kernel_rfl) (by kernel_rfl) (fun _ _=>rfl)
theorem zatt:SG ZP sg 47 @zahc:=conD (loops:=zm8) good Tryz.func47 zamj (by kernel_rfl) zaio (all_cons zano (all_cons zabz zaa)) (fun a=>by kernel_rfl)
theorem zaut:fnB ZP 93 Tryz.f93 [2]=true:=by kernel_rfl
theorem zadz:CG ZP sg @z84:=cg0
theorem zaba:zae ZP sg 0 Tryz.f93 @zpm 2:=zar zuh good Tryz.func93 zaut zadz zaa (fun a=>by kernel_rfl) (by kernel_rfl) (fun _ _=>rfl)
theorem zajc:SG ZP sg 93 @zao1:=conD (loops:=zpm) good Tryz.func93 zaut (by kernel_rfl) zadz (all_cons zaba zaa) (fun a=>by kernel_rfl)
theorem zq0:SG ZP sg 48 @znk:=conE good Tryz.func48 (by kernel_rfl) (by kernel_rfl) (cgc zajc cg0) (fun a=>by kernel_rfl)
theorem zaks:SG ZP sg 152 @z61:=conE good Tryz.func152 (by kernel_rfl) (by kernel_rfl) cg0 (fun a=>by kernel_rfl)
theorem zalf:SG ZP sg 237 @zaqr:=conE good Tryz.func237 (by kernel_rfl) (by kernel_rfl) cg0 (fun a=>by kernel_rfl)
theorem zakt:SG ZP sg 188 @zaqf:=conE good Tryz.func188 (by kernel_rfl) (by kernel_rfl) (cgc zalf cg0) (fun a=>by kernel_rfl)
theorem zalo:SG ZP sg 189 @zaqx:=conE good Tryz.func189 (by kernel_rfl) (by kernel_rfl) cg0 (fun a=>by kernel_rfl)
theorem zake:SG ZP sg 238 @z6r:=conE good Tryz.func238 (by kernel_rfl) (by kernel_rfl) cg0 (fun a=>by kernel_rfl)
theorem zaer:fnB ZP 190 Tryz.f190 [3]=true:=by kernel_rfl
theorem zadr:CG ZP sg @z8w:=(cgc zake cg0)
theorem zaa2:zae ZP sg 0 Tryz.f190 @zpe 3:=zar zt9 good Tryz.func190 zaer zadr zaa (fun a=>by kernel_rfl) (by kernel_rfl) (fun _ _=>rfl)
theorem zai5:SG ZP sg 190 @zaox:=conD (loops:=zpe) good Tryz.func190 zaer (by kernel_rfl) zadr (all_cons zaa2 zaa) (fun a=>by kernel_rfl)
theorem zaj7:SG ZP sg 191 @zapp:=conE good Tryz.func191 (by kernel_rfl) (by kernel_rfl) cg0 (fun a=>by kernel_rfl)
theorem zal7:SG ZP sg 192 @zara:=conE good Tryz.func192 (by kernel_rfl) (by kernel_rfl) cg0 (fun a=>by kernel_rfl)
theorem zakf:SG ZP sg 124 @z6s:=conE good Tryz.func124 (by kernel_rfl) (by kernel_rfl) (cgc zakt (cgc zalo (cgc zai5 (cgc zaj7 (cgc zal7 cg0))))) (fun a=>by kernel_rfl)
theorem zauu:fnB ZP 94 Tryz.f94 [5]=true:=by kernel_rfl
theorem zads:CG ZP sg @z8x:=(cgc zakf (cgc zaks cg0))
theorem zaa3:zae ZP sg 0 Tryz.f94 @zpf 5:=zar zua good Tryz.func94 zauu zads zaa (fun a=>by kernel_rfl) (by kernel_rfl) (fun _ _=>rfl)
theorem zai6:SG ZP sg 94 @z5d:=conD (loops:=zpf) good Tryz.func94 zauu (by kernel_rfl) zads (all_cons zaa3 zaa) (fun a=>by kernel_rfl)
theorem zauj:fnB ZP 73 Tryz.f73 [2]=true:=by kernel_rfl
theorem zas3:CG ZP sg @zaid:=cg0
theorem zanl:zae ZP sg 0 Tryz.f73 @zvn 2:=zar z3a good Tryz.func73 zauj zas3 zaa (fun a=>by kernel_rfl) (by kernel_rfl) (fun _ _=>rfl)
theorem z1j:SG ZP sg 73 @zvx:=conD (loops:=zvn) good Tryz.func73 zauj (by kernel_rfl) zas3 (all_cons zanl zaa) (fun a=>by kernel_rfl)
theorem zamk:fnB ZP 49 Tryz.f49 [4,15]=true:=by kernel_rfl
theorem zaiq:CG ZP sg @zaii:=(cgc z1j (cgc zz6 (cgc zai6 cg0)))
theorem zanq:zae ZP sg 0 Tryz.f49 @zna 4:=zar z3f good Tryz.func49 zamk zaiq zaa (fun a=>by kernel_rfl) (by kernel_rfl) (fun _ _=>rfl)
theorem zab1:zae ZP sg 0 Tryz.f49 @zna 15:=zar zvb good Tryz.func49 zamk zaiq zaa (fun a=>by kernel_rfl) (by kernel_rfl) (fun _ _=>rfl)
theorem zatv:SG ZP sg 49 @zahe:=conD (loops:=zna) good Tryz.func49 zamk (by kernel_rfl) zaiq (all_cons zanq (all_cons zab1 zaa)) (fun a=>by kernel_rfl)
theorem zali:SG ZP sg 95 @z7c:=conE good Tryz.func95 (by kernel_rfl) (by kernel_rfl) cg0 (fun a=>by kernel_rfl)
theorem zaep:fnB ZP 125 Tryz.f125 [2]=true:=by kernel_rfl
theorem zadt:CG ZP sg @z8y:=cg0
theorem zaa4:zae ZP sg 0 Tryz.f125 @zpg 2:=zar zub good Tryz.func125 zaep zadt zaa (fun a=>by kernel_rfl) (by kernel_rfl) (fun _ _=>rfl)
theorem zai7:SG ZP sg 125 @zaoy:=conD (loops:=zpg) good Tryz.func125 zaep (by kernel_rfl) zadt (all_cons zaa4 zaa) (fun a=>by kernel_rfl)
theorem zaku:SG ZP sg 96 @z62:=conE good Tryz.func96 (by kernel_rfl) (by kernel_rfl) (cgc zai7 cg0) (fun a=>by kernel_rfl)
theorem zaml:fnB ZP 50 Tryz.f50 [2,10]=true:=by kernel_rfl
theorem zaip:CG ZP sg @zaih:=(cgc zq0 (cgc z1j (cgc zali (cgc zaku cg0))))
theorem zanp:zae ZP sg 0 Tryz.f50 @zm9 2:=zar z3e good Tryz.func50 zaml zaip zaa (fun a=>by kernel_rfl) (by kernel_rfl) (fun _ _=>rfl)
theorem zab0:zae ZP sg 0 Tryz.f50 @zm9 10:=zar zva good Tryz.func50 zaml zaip zaa (fun a=>by kernel_rfl) (by kernel_rfl) (fun _ _=>rfl)
theorem zatu:SG ZP sg 50 @zahd:=conD (loops:=zm9) good Tryz.func50 zaml (by kernel_rfl) zaip (all_cons zanp (all_cons zab0 zaa)) (fun a=>by kernel_rfl)
theorem zauv:fnB ZP 97 Tryz.f97 [2]=true:=by kernel_rfl
theorem zady:CG ZP sg @z83:=cg0
theorem zaa9:zae ZP sg 0 Tryz.f97 @zpl 2:=zar zug good Tryz.func97 zauv zady zaa (fun a=>by kernel_rfl) (by kernel_rfl) (fun _ _=>rfl)
theorem zajb:SG ZP sg 97 @z5h:=conD (loops:=zpl) good Tryz.func97 zauv (by kernel_rfl) zady (all_cons zaa9 zaa) (fun a=>by kernel_rfl)
theorem zamm:fnB ZP 51 Tryz.f51 [2,18]=true:=by kernel_rfl
theorem zaij:CG ZP sg @zahu:=(cgc zq0 (cgc z1j (cgc zajb cg0)))
theorem zamy:zae ZP sg 0 Tryz.f51 @zm3 2:=zar z2f good Tryz.func51 zamm zaij zaa (fun a=>by kernel_rfl) (by kernel_rfl) (fun _ _=>rfl)
theorem zaam:zae ZP sg 0 Tryz.f51 @zm3 18:=zar ztt good Tryz.func51 zamm zaij zaa (fun a=>by kernel_rfl) (by kernel_rfl) (fun _ _=>rfl)
theorem zas9:SG ZP sg 51 @zag1:=conD (loops:=zm3) good Tryz.func51 zamm (by kernel_rfl) zaij (all_cons zamy (all_cons zaam zaa)) (fun a=>by kernel_rfl)
theorem zamg:fnB ZP 25 Tryz.f25 [6,11]=true:=by kernel_rfl
theorem zzu:CG ZP sg @z8s:=(cgc zaja (cgc zai9 (cgc zatm (cgc zajf (cgc zatl (cgc zatt (cgc zq0 (cgc zatv (cgc zatu (cgc zas9 cg0))))))))))
theorem zaay:zae ZP sg 0 Tryz.f25 @zix 6:=zar zt5 good Tryz.func25 zamg zzu zaa (fun a=>by kernel_rfl) (by kernel_rfl) (fun _ _=>rfl)
theorem z3j:zae ZP sg 0 Tryz.f25 @zix 11:=zar zoy good Tryz.func25 zamg zzu zaa (fun a=>by kernel_rfl) (by kernel_rfl) (fun _ _=>rfl)
theorem zai3:SG ZP sg 25 @zaow:=conD (loops:=zix) good Tryz.func25 zamg (by kernel_rfl) zzu (all_cons zaay (all_cons z3j zaa)) (fun a=>by kernel_rfl)
theorem zak6:SG ZP sg 9 @z68:=conE good Tryz.func9 (by kernel_rfl) (by kernel_rfl) (cgc zata (cgc zai3 cg0)) (fun a=>by kernel_rfl)
theorem zakl:SG ZP sg 98 @zap3:=conE good Tryz.func98 (by kernel_rfl) (by kernel_rfl) cg0 (fun a=>by kernel_rfl)
theorem zakd:SG ZP sg 127 @z6q:=conE good Tryz.func127 (by kernel_rfl) (by kernel_rfl) cg0 (fun a=>by kernel_rfl)
theorem zog:fnB ZP 63 Tryz.f63 [2]=true:=by kernel_rfl
theorem zasx:CG ZP sg @zahx:=(cgc zakd cg0)
theorem zam2:zae ZP sg 0 Tryz.f63 @zvh 2:=zar z2j good Tryz.func63 zog zasx zaa (fun a=>by kernel_rfl) (by kernel_rfl) (fun _ _=>rfl)
theorem zatc:SG ZP sg 63 @zawo:=conD (loops:=zvh) good Tryz.func63 zog (by kernel_rfl) zasx (all_cons zam2 zaa) (fun a=>by kernel_rfl)
theorem zia:SG ZP sg 77 @znj:=conE good Tryz.func77 (by kernel_rfl) (by kernel_rfl) (cgc zatc cg0) (fun a=>by kernel_rfl)
theorem z1c:SG ZP sg 100 @z65:=conE good Tryz.func100 (by kernel_rfl) (by kernel_rfl) cg0 (fun a=>by kernel_rfl)
theorem zaka:SG ZP sg 101 @z6n:=conE good Tryz.func101 (by kernel_rfl) (by kernel_rfl) cg0 (fun a=>by kernel_rfl)
theorem zth:CG ZP sg @zwi:=(cgc zaka cg0)
theorem zxi:zae ZP sg 0 Tryz.f63 @zi3 2:=zar zk3 good Tryz.func63 zog zth zaa (fun a=>by kernel_rfl) (by kernel_rfl) (fun _ _=>rfl)
theorem z0q:SG ZP sg 63 @z6e:=conD (loops:=zi3) good Tryz.func63 zog (by kernel_rfl) zth (all_cons zxi zaa) (fun a=>by kernel_rfl)
theorem z0u:SG ZP sg 103 @zaps:=conS (loops:=l0) (ids:=[]) good Tryz.func103 (by kernel_rfl) (by kernel_rfl) cg0 zaa (fun a=>by kernel_rfl) (by kernel_rfl)
theorem zmf:SG ZP sg 36 @z5n:=conE good Tryz.func36 (by kernel_rfl) (by kernel_rfl) cg0 (fun a=>by kernel_rfl)
theorem zak3:SG ZP sg 76 @z64:=conE good Tryz.func76 (by kernel_rfl) (by kernel_rfl) (cgc zmf (cgc (sgP z0p) cg0)) (fun a=>by kernel_rfl)
theorem zmg:SG ZP sg 128 @z52:=conE good Tryz.func128 (by kernel_rfl) (by kernel_rfl) cg0 (fun a=>by kernel_rfl)
theorem zale:SG ZP sg 194 @zaqq:=conE good Tryz.func194 (by kernel_rfl) (by kernel_rfl) (cgc zmg cg0) (fun a=>by kernel_rfl)
theorem zalc:SG ZP sg 195 @zaqo:=conE good Tryz.func195 (by kernel_rfl) (by kernel_rfl) (cgc zmg cg0) (fun a=>by kernel_rfl)
theorem z0z:SG ZP sg 197 @zapt:=conE good Tryz.func197 (by kernel_rfl) (by kernel_rfl) cg0 (fun a=>by kernel_rfl)
theorem zal3:SG ZP sg 196 @zaq6:=conE good Tryz.func196 (by kernel_rfl) (by kernel_rfl) (cgc z0z cg0) (fun a=>by kernel_rfl)
theorem z1d:SG ZP sg 129 @z67:=conE good Tryz.func129 (by kernel_rfl) (by kernel_rfl) (cgc zmg (cgc zale (cgc zalc (cgc zal3 (cgc z0z cg0))))) (fun a=>by kernel_rfl)
theorem zauk:fnB ZP 78 Tryz.f78 [5]=true:=by kernel_rfl
theorem zaee:CG ZP sg @z9j:=(cgc z1c (cgc zmg (cgc z1d cg0)))
theorem zabp:zae ZP sg 0 Tryz.f78 @zp1 5:=zar zuw good Tryz.func78 zauk zaee zaa (fun a=>by kernel_rfl) (by kernel_rfl) (fun _ _=>rfl)
theorem zajt:SG ZP sg 78 @z5z:=conD (loops:=zp1) good Tryz.func78 zauk (by kernel_rfl) zaee (all_cons zabp zaa) (fun a=>by kernel_rfl)
theorem z99:fnB ZP 37 Tryz.f37 [4,10,16]=true:=by kernel_rfl
theorem z9r:CG ZP sg @zaic:=(cgc zak3 (cgc zia (cgc zajt cg0)))
theorem zank:zae ZP sg 0 Tryz.f37 @zhv 4:=zar z29 good Tryz.func37 z99 z9r zaa (fun a=>by kernel_rfl) (by kernel_rfl) (fun _ _=>rfl)
theorem zabx:zae ZP sg 0 Tryz.f37 @zhv 10:=zar zu7 good Tryz.func37 z99 z9r zaa (fun a=>by kernel_rfl) (by kernel_rfl) (fun _ _=>rfl)
theorem zaby:zae ZP sg 0 Tryz.f37 @zhv 16:=zar zu8 good Tryz.func37 z99 z9r zaa (fun a=>by kernel_rfl) (by kernel_rfl) (fun _ _=>rfl)
theorem zatr:SG ZP sg 37 @zaww:=conD (loops:=zhv) good Tryz.func37 z99 (by kernel_rfl) z9r (all_cons zank (all_cons zabx (all_cons zaby zaa))) (fun a=>by kernel_rfl)
theorem zaj1:SG ZP sg 130 @z56:=conE good Tryz.func130 (by kernel_rfl) (by kernel_rfl) (cgc (sgP z0p) (cgc (sgP zakj) cg0)) (fun a=>by kernel_rfl)
theorem zaul:fnB ZP 79 Tryz.f79 [5]=true:=by kernel_rfl
theorem zadj:CG ZP sg @z8l:=(cgc zaj1 cg0)
theorem zaaq:zae ZP sg 0 Tryz.f79 @zo6 5:=zar ztx good Tryz.func79 zaul zadj zaa (fun a=>by kernel_rfl) (by kernel_rfl) (fun _ _=>rfl)
theorem zz2:SG ZP sg 79 @z43:=conD (loops:=zo6) good Tryz.func79 zaul (by kernel_rfl) zadj (all_cons zaaq zaa) (fun a=>by kernel_rfl)
theorem zalu:SG ZP sg 131 @z7g:=conE good Tryz.func131 (by kernel_rfl) (by kernel_rfl) cg0 (fun a=>by kernel_rfl)
theorem zalr:SG ZP sg 132 @z7f:=conE good Tryz.func132 (by kernel_rfl) (by kernel_rfl) cg0 (fun a=>by kernel_rfl)
theorem zaum:fnB ZP 80 Tryz.f80 [4]=true:=by kernel_rfl
theorem zadl:CG ZP sg @z8n:=(cgc zalu (cgc zalr cg0))
theorem zaas:zae ZP sg 0 Tryz.f80 @zo8 4:=zar ztz good Tryz.func80 zaum zadl zaa (fun a=>by kernel_rfl) (by kernel_rfl) (fun _ _=>rfl)
theorem zz3:SG ZP sg 80 @z47:=conD (loops:=zo8) good Tryz.func80 zaum (by kernel_rfl) zadl (all_cons zaas zaa) (fun a=>by kernel_rfl)
theorem zqz:SG ZP sg 199 @zao5:=conE good Tryz.func199 (by kernel_rfl) (by kernel_rfl) cg0 (fun a=>by kernel_rfl)
theorem zalp:SG ZP sg 200 @zaqy:=conE good Tryz.func200 (by kernel_rfl) (by kernel_rfl) (cgc zqz cg0) (fun a=>by kernel_rfl)
theorem zal2:SG ZP sg 133 @z7m:=conE good Tryz.func133 (by kernel_rfl) (by kernel_rfl) (cgc zqz (cgc zalp cg0)) (fun a=>by kernel_rfl)
theorem zajk:SG ZP sg 135 @z5r:=conE good Tryz.func135 (by kernel_rfl) (by kernel_rfl) cg0 (fun a=>by kernel_rfl)
theorem zku:fnB ZP 134 Tryz.f134 [2,5]=true:=by kernel_rfl
theorem zaik:CG ZP sg @zahy:=(cgc zajk cg0)
theorem z3k:zae ZP sg 0 Tryz.f134 @zm4 5:=zar z2l good Tryz.func134 zku zaik zaa (fun a=>by kernel_rfl) (by kernel_rfl) (fun _ _=>rfl)
theorem zam3:zae ZP sg 0 Tryz.f134 @zm4 2:=zar z2k good Tryz.func134 zku zaik (all_cons z3k zaa) (fun a=>by kernel_rfl) (by kernel_rfl) (fun _ _=>rfl)
theorem zatd:SG ZP sg 134 @zag3:=conD (loops:=zm4) good Tryz.func134 zku (by kernel_rfl) zaik (all_cons zam3 (all_cons z3k zaa)) (fun a=>by kernel_rfl)
theorem zakq:SG ZP sg 136 @z6z:=conE good Tryz.func136 (by kernel_rfl) (by kernel_rfl) cg0 (fun a=>by kernel_rfl)
theorem zmc:CG ZP sg @zwl:=(cgc zakq cg0)
theorem zlb:zae ZP sg 0 Tryz.f134 @zft 5:=zar zk7 good Tryz.func134 zku zmc zaa (fun a=>by kernel_rfl) (by kernel_rfl) (fun _ _=>rfl)
theorem zxl:zae ZP sg 0 Tryz.f134 @zft 2:=zar zk6 good Tryz.func134 zku zmc (all_cons zlb zaa) (fun a=>by kernel_rfl) (by kernel_rfl) (fun _ _=>rfl)
theorem z07:SG ZP sg 134 @zqf:=conD (loops:=zft) good Tryz.func134 zku (by kernel_rfl) zmc (all_cons zxl (all_cons zlb zaa)) (fun a=>by kernel_rfl)
theorem zaun:fnB ZP 81 Tryz.f81 [4]=true:=by kernel_rfl
theorem zas1:CG ZP sg @zah5:=(cgc zal2 (cgc (sgi zatd (sgi z07 sg0)) cg0))
theorem zanc:zae ZP sg 0 Tryz.f81 @zvl 4:=zar z2u good Tryz.func81 zaun zas1 zaa (fun a=>by kernel_rfl) (by kernel_rfl) (fun _ _=>rfl)
theorem zatk:SG ZP sg 81 @zag6:=conD (loops:=zvl) good Tryz.func81 zaun (by kernel_rfl) zas1 (all_cons zanc zaa) (fun a=>by kernel_rfl)
theorem zal0:SG ZP sg 201 @zaq5:=conE good Tryz.func201 (by kernel_rfl) (by kernel_rfl) cg0 (fun a=>by kernel_rfl)
theorem z03:SG ZP sg 202 @zap2:=conE good Tryz.func202 (by kernel_rfl) (by kernel_rfl) cg0 (fun a=>by kernel_rfl)
theorem zaji:SG ZP sg 137 @z5o:=conE good Tryz.func137 (by kernel_rfl) (by kernel_rfl) (cgc zal0 (cgc z03 cg0)) (fun a=>by kernel_rfl)
theorem zauo:fnB ZP 82 Tryz.f82 [4]=true:=by kernel_rfl
theorem zadm:CG ZP sg @z8o:=(cgc zaji cg0)
theorem zaat:zae ZP sg 0 Tryz.f82 @zo9 4:=zar zt0 good Tryz.func82 zauo zadm zaa (fun a=>by kernel_rfl) (by kernel_rfl) (fun _ _=>rfl)
theorem zz4:SG ZP sg 82 @z48:=conD (loops:=zo9) good Tryz.func82 zauo (by kernel_rfl) zadm (all_cons zaat zaa) (fun a=>by kernel_rfl)
theorem z0m:SG ZP sg 203 @zapj:=conE good Tryz.func203 (by kernel_rfl) (by kernel_rfl) cg0 (fun a=>by kernel_rfl)
theorem zaly:SG ZP sg 138 @z7j:=conE good Tryz.func138 (by kernel_rfl) (by kernel_rfl) (cgc z0m cg0) (fun a=>by kernel_rfl)
theorem z0v:SG ZP sg 139 @z6j:=conE good Tryz.func139 (by kernel_rfl) (by kernel_rfl) cg0 (fun a=>by kernel_rfl)
theorem zaes:fnB ZP 204 Tryz.f204 [2]=true:=by kernel_rfl
theorem zadg:CG ZP sg @z8i:=(cgc z0v cg0)
theorem zaan:zae ZP sg 0 Tryz.f204 @zo3 2:=zar ztu good Tryz.func204 zaes zadg zaa (fun a=>by kernel_rfl) (by kernel_rfl) (fun _ _=>rfl)
theorem zaiw:SG ZP sg 204 @zaoo:=conD (loops:=zo3) good Tryz.func204 zaes (by kernel_rfl) zadg (all_cons zaan zaa) (fun a=>by kernel_rfl)
theorem zalv:SG ZP sg 140 @z7h:=conE good Tryz.func140 (by kernel_rfl) (by kernel_rfl) (cgc z0v (cgc zaiw cg0)) (fun a=>by kernel_rfl)
theorem zaup:fnB ZP 83 Tryz.f83 [4]=true:=by kernel_rfl
theorem zas5:CG ZP sg @zaif:=(cgc zaly (cgc zalv cg0))
theorem zann:zae ZP sg 0 Tryz.f83 @zvp 4:=zar z3c good Tryz.func83 zaup zas5 zaa (fun a=>by kernel_rfl) (by kernel_rfl) (fun _ _=>rfl)
theorem zats:SG ZP sg 83 @zahb:=conD (loops:=zvp) good Tryz.func83 zaup (by kernel_rfl) zas5 (all_cons zann zaa) (fun a=>by kernel_rfl)
theorem zra:SG ZP sg 143 @z6w:=conE good Tryz.func143 (by kernel_rfl) (by kernel_rfl) cg0 (fun a=>by kernel_rfl)
theorem z01:SG ZP sg 142 @z6t:=conE good Tryz.func142 (by kernel_rfl) (by kernel_rfl) (cgc zra cg0) (fun a=>by kernel_rfl)
theorem zaet:fnB ZP 205 Tryz.f205 [2]=true:=by kernel_rfl
theorem zadh:CG ZP sg @z8j:=(cgc z01 cg0)
theorem zaao:zae ZP sg 0 Tryz.f205 @zo4 2:=zar ztv good Tryz.func205 zaet zadh zaa (fun a=>by kernel_rfl) (by kernel_rfl) (fun _ _=>rfl)
theorem zaix:SG ZP sg 205 @zaop:=conD (loops:=zo4) good Tryz.func205 zaet (by kernel_rfl) zadh (all_cons zaao zaa) (fun a=>by kernel_rfl)
theorem zalw:SG ZP sg 141 @z7i:=conE good Tryz.func141 (by kernel_rfl) (by kernel_rfl) (cgc z01 (cgc zaix cg0)) (fun a=>by kernel_rfl)
theorem zauq:fnB ZP 84 Tryz.f84 [8]=true:=by kernel_rfl
theorem zas4:CG ZP sg @zaie:=(cgc zalw cg0)
theorem zanm:zae ZP sg 0 Tryz.f84 @zvo 8:=zar z3b good Tryz.func84 zauq zas4 zaa (fun a=>by kernel_rfl) (by kernel_rfl) (fun _ _=>rfl)
theorem zaek:SG ZP sg 84 @zaha:=conD (loops:=zvo) good Tryz.func84 zauq (by kernel_rfl) zas4 (all_cons zanm zaa) (fun a=>by kernel_rfl)
theorem zaaa:fnB ZP 38 Tryz.f38 [4,12,18]=true:=by kernel_rfl
theorem z9q:CG ZP sg @zaib:=(cgc zmf (cgc zz2 (cgc zz3 (cgc zatk (cgc zz4 (cgc zats (cgc zaek cg0)))))))
theorem zanj:zae ZP sg 0 Tryz.f38 @zhu 4:=zar z28 good Tryz.func38 zaaa z9q zaa (fun a=>by kernel_rfl) (by kernel_rfl) (fun _ _=>rfl)
theorem zabv:zae ZP sg 0 Tryz.f38 @zhu 12:=zar zu5 good Tryz.func38 zaaa z9q zaa (fun a=>by kernel_rfl) (by kernel_rfl) (fun _ _=>rfl)
theorem zabw:zae ZP sg 0 Tryz.f38 @zhu 18:=zar zu6 good Tryz.func38 zaaa z9q zaa (fun a=>by kernel_rfl) (by kernel_rfl) (fun _ _=>rfl)
theorem zatq:SG ZP sg 38 @zawv:=conD (loops:=zhu) good Tryz.func38 zaaa (by kernel_rfl) z9q (all_cons zanj (all_cons zabv (all_cons zabw zaa))) (fun a=>by kernel_rfl)
theorem zakh:SG ZP sg 207 @z6v:=conE good Tryz.func207 (by kernel_rfl) (by kernel_rfl) cg0 (fun a=>by kernel_rfl)
theorem ztr:fnB ZP 206 Tryz.f206 [2]=true:=by kernel_rfl
theorem zas2:CG ZP sg @zah8:=(cgc zakh cg0)
theorem zanf:zae ZP sg 0 Tryz.f206 @zvm 2:=zar z2y good Tryz.func206 ztr zas2 zaa (fun a=>by kernel_rfl) (by kernel_rfl) (fun _ _=>rfl)
theorem zatn:SG ZP sg 206 @zawt:=conD (loops:=zvm) good Tryz.func206 ztr (by kernel_rfl) zas2 (all_cons zanf zaa) (fun a=>by kernel_rfl)
theorem z0n:SG ZP sg 144 @zapk:=conE good Tryz.func144 (by kernel_rfl) (by kernel_rfl) (cgc zatn cg0) (fun a=>by kernel_rfl)
theorem zrb:SG ZP sg 86 @zaqe:=conE good Tryz.func86 (by kernel_rfl) (by kernel_rfl) (cgc z0n cg0) (fun a=>by kernel_rfl)
theorem zajj:SG ZP sg 85 @z5p:=conE good Tryz.func85 (by kernel_rfl) (by kernel_rfl) (cgc zrb cg0) (fun a=>by kernel_rfl)
theorem zaab:fnB ZP 39 Tryz.f39 [3,9,15]=true:=by kernel_rfl
theorem z9n:CG ZP sg @zah0:=(cgc zia (cgc zajj cg0))
theorem zam5:zae ZP sg 0 Tryz.f39 @zhr 3:=zar z2n good Tryz.func39 zaab z9n zaa (fun a=>by kernel_rfl) (by kernel_rfl) (fun _ _=>rfl)
theorem zam6:zae ZP sg 0 Tryz.f39 @zhr 9:=zar z2o good Tryz.func39 zaab z9n zaa (fun a=>by kernel_rfl) (by kernel_rfl) (fun _ _=>rfl)
theorem zabt:zae ZP sg 0 Tryz.f39 @zhr 15:=zar zu2 good Tryz.func39 zaab z9n zaa (fun a=>by kernel_rfl) (by kernel_rfl) (fun _ _=>rfl)
theorem zatg:SG ZP sg 39 @zawq:=conD (loops:=zhr) good Tryz.func39 zaab (by kernel_rfl) z9n (all_cons zam5 (all_cons zam6 (all_cons zabt zaa))) (fun a=>by kernel_rfl)
theorem zqy:SG ZP sg 122 @zao0:=conE good Tryz.func122 (by kernel_rfl) (by kernel_rfl) cg0 (fun a=>by kernel_rfl)
theorem z0d:SG ZP sg 186 @z5q:=conE good Tryz.func186 (by kernel_rfl) (by kernel_rfl) cg0 (fun a=>by kernel_rfl)
theorem ztq:fnB ZP 185 Tryz.f185 [2]=true:=by kernel_rfl
theorem zas0:CG ZP sg @zah3:=(cgc z0d cg0)
theorem zam9:zae ZP sg 0 Tryz.f185 @zvk 2:=zar z2r good Tryz.func185 ztq zas0 zaa (fun a=>by kernel_rfl) (by kernel_rfl) (fun _ _=>rfl)
theorem zati:SG ZP sg 185 @zawr:=conD (loops:=zvk) good Tryz.func185 ztq (by kernel_rfl) zas0 (all_cons zam9 zaa) (fun a=>by kernel_rfl)
theorem zq3:SG ZP sg 121 @zapo:=conE good Tryz.func121 (by kernel_rfl) (by kernel_rfl) (cgc zati (cgc z0d cg0)) (fun a=>by kernel_rfl)
theorem z04:SG ZP sg 69 @z6y:=conE good Tryz.func69 (by kernel_rfl) (by kernel_rfl) (cgc zq3 (cgc zqy cg0)) (fun a=>by kernel_rfl)
theorem zaue:fnB ZP 40 Tryz.f40 [2]=true:=by kernel_rfl
theorem zaef:CG ZP sg @z9k:=(cgc z04 cg0)
theorem zabq:zae ZP sg 0 Tryz.f40 @zp2 2:=zar zux good Tryz.func40 zaue zaef zaa (fun a=>by kernel_rfl) (by kernel_rfl) (fun _ _=>rfl)
theorem zaju:SG ZP sg 40 @zapg:=conD (loops:=zp2) good Tryz.func40 zaue (by kernel_rfl) zaef (all_cons zabq zaa) (fun a=>by kernel_rfl)
theorem zakb:SG ZP sg 145 @z6o:=conE good Tryz.func145 (by kernel_rfl) (by kernel_rfl) cg0 (fun a=>by kernel_rfl)
theorem zev:fnB ZP 110 Tryz.f110 [2]=true:=by kernel_rfl
theorem zasw:CG ZP sg @zahw:=(cgc zakb cg0)
theorem zam1:zae ZP sg 0 Tryz.f110 @zvg 2:=zar z2i good Tryz.func110 zev zasw zaa (fun a=>by kernel_rfl) (by kernel_rfl) (fun _ _=>rfl)
theorem zatb:SG ZP sg 110 @zawn:=conD (loops:=zvg) good Tryz.func110 zev (by kernel_rfl) zasw (all_cons zam1 zaa) (fun a=>by kernel_rfl)
theorem zqx:SG ZP sg 87 @z44:=conE good Tryz.func87 (by kernel_rfl) (by kernel_rfl) (cgc zatb cg0) (fun a=>by kernel_rfl)
theorem zamh:fnB ZP 41 Tryz.f41 [2,16]=true:=by kernel_rfl
theorem zzs:CG ZP sg @z8q:=(cgc zia (cgc zqx cg0))
theorem zaaw:zae ZP sg 0 Tryz.f41 @ziv 2:=zar zt3 good Tryz.func41 zamh zzs zaa (fun a=>by kernel_rfl) (by kernel_rfl) (fun _ _=>rfl)
theorem z3h:zae ZP sg 0 Tryz.f41 @ziv 16:=zar zow good Tryz.func41 zamh zzs zaa (fun a=>by kernel_rfl) (by kernel_rfl) (fun _ _=>rfl)
theorem zai0:SG ZP sg 41 @zaot:=conD (loops:=ziv) good Tryz.func41 zamh (by kernel_rfl) zzs (all_cons zaaw (all_cons z3h zaa)) (fun a=>by kernel_rfl)
theorem zal6:SG ZP sg 23 @zaq9:=conE good Tryz.func23 (by kernel_rfl) (by kernel_rfl) (cgc zmf (cgc zatr (cgc zatq (cgc zatg (cgc zaju (cgc zai0 cg0)))))) (fun a=>by kernel_rfl)
theorem zaei:SG ZP sg 53 @zag2:=conE good Tryz.func53 (by kernel_rfl) (by kernel_rfl) (cgc zal6 (cgc z0q (cgc zia (cgc z1c (cgc (sgP zakz) (cgc z0u cg0)))))) (fun a=>by kernel_rfl)
theorem zaj4:SG ZP sg 208 @z59:=conE good Tryz.func208 (by kernel_rfl) (by kernel_rfl) cg0 (fun a=>by kernel_rfl)
theorem ztl:CG ZP sg @zwn:=(cgc zaj4 cg0)
theorem zxn:zae ZP sg 0 Tryz.f206 @zi7 2:=zar zk9 good Tryz.func206 ztr ztl zaa (fun a=>by kernel_rfl) (by kernel_rfl) (fun _ _=>rfl)
theorem z1i:SG ZP sg 206 @z7p:=conD (loops:=zi7) good Tryz.func206 ztr (by kernel_rfl) ztl (all_cons zxn zaa) (fun a=>by kernel_rfl)
theorem zakx:SG ZP sg 211 @zaqh:=conS (loops:=l0) (ids:=[]) good Tryz.func211 (by kernel_rfl) (by kernel_rfl) cg0 zaa (fun a=>by kernel_rfl) (by kernel_rfl)
theorem zak2:SG ZP sg 209 @zaqi:=conE good Tryz.func209 (by kernel_rfl) (by kernel_rfl) (cgc zz2 cg0) (fun a=>by kernel_rfl)
theorem zajz:SG ZP sg 153 @zapm:=conE good Tryz.func153 (by kernel_rfl) (by kernel_rfl) (cgc z0n (cgc z1i (cgc zak2 (cgc (sgP zakw) (cgc zakx cg0))))) (fun a=>by kernel_rfl)
theorem zakp:SG ZP sg 99 @zaqb:=conE good Tryz.func99 (by kernel_rfl) (by kernel_rfl) (cgc zajz cg0) (fun a=>by kernel_rfl)
theorem zaj5:SG ZP sg 52 @z6a:=conE good Tryz.func52 (by kernel_rfl) (by kernel_rfl) (cgc zaei (cgc zakl (cgc zakp cg0))) (fun a=>by kernel_rfl)
theorem zmh:SG ZP sg 64 @zapr:=conN (loops:=l0) (ids:=[]) good Tryz.func64 (by kernel_rfl) (by kernel_rfl) cg0 zaa (fun a=>by kernel_rfl)
theorem zf6:SG ZP sg 67 @zawx:=conM (loops:=l0) (ids:=[]) good Tryz.func67 (by kernel_rfl) (by kernel_rfl) cg0 zaa (fun a b=>by kernel_rfl)
theorem zmi:SG ZP sg 65 @zapw:=conM (loops:=l0) (ids:=[]) good Tryz.func65 (by kernel_rfl) (by kernel_rfl) (cgc zf6 (cgc zia cg0)) zaa (fun a b=>by kernel_rfl)
theorem zako:SG ZP sg 156 @zap9:=conS (loops:=l0) (ids:=[]) good Tryz.func156 (by kernel_rfl) (by kernel_rfl) cg0 zaa (fun a=>by kernel_rfl) (by kernel_rfl)
theorem zfr:SG ZP sg 104 @zao9:=conM (loops:=l0) (ids:=[]) good Tryz.func104 (by kernel_rfl) (by kernel_rfl) (cgc zf6 (cgc z0u (cgc z1d (cgc zako cg0)))) zaa (fun a b=>by kernel_rfl)
theorem zq4:SG ZP sg 260 @zsl:=conE good Tryz.func260 (by kernel_rfl) (by kernel_rfl) cg0 (fun a=>by kernel_rfl)
theorem z1v:fnB ZP 275 Tryz.f275 [1,4]=true:=by kernel_rfl
theorem zain:CG ZP sg @zaia:=(cgc zq4 cg0)
theorem z3n:zae ZP sg MA Tryz.f275 @zm7 4:=zar z27 good Tryz.func275 z1v zain zaa (fun a=>by kernel_rfl) (by kernel_rfl) (fun _ _=>rfl)
theorem zani:zae ZP sg MA Tryz.f275 @zm7 1:=zar z26 good Tryz.func275 z1v zain (all_cons z3n zaa) (fun a=>by kernel_rfl) (by kernel_rfl) (fun _ _=>rfl)
theorem zatp:SG ZP sg 275 @zag9:=conI (loops:=zm7) good Tryz.func275 z1v (by kernel_rfl) zain (all_cons zani (all_cons z3n zaa)) (fun a=>by kernel_rfl)
theorem zts:fnB ZP 269 Tryz.f269 [2,7,9]=true:=by kernel_rfl
theorem z9p:CG ZP sg @zah9:=(cgc zq4 (cgc zatp (cgc (sgP zakg) cg0)))
theorem zang:zae ZP sg MA Tryz.f269 @zht 2:=zar z2z good Tryz.func269 zts z9p zaa (fun a=>by kernel_rfl) (by kernel_rfl) (fun _ _=>rfl)
theorem z3m:zae ZP sg MA Tryz.f269 @zht 9:=zar z24 good Tryz.func269 zts z9p zaa (fun a=>by kernel_rfl) (by kernel_rfl) (fun _ _=>rfl)
theorem zanh:zae ZP sg MA Tryz.f269 @zht 7:=zar z23 good Tryz.func269 zts z9p (all_cons z3m zaa) (fun a=>by kernel_rfl) (by kernel_rfl) (fun _ _=>rfl)
theorem zato:SG ZP sg 269 @zawu:=conI (loops:=zht) good Tryz.func269 zts (by kernel_rfl) z9p (all_cons zang (all_cons zanh (all_cons z3m zaa))) (fun a=>by kernel_rfl)
theorem zakv:SG ZP sg 259 @z63:=conI (loops:=l0) (ids:=[]) good Tryz.func259 (by kernel_rfl) (by kernel_rfl) (cgc zq4 (cgc zato cg0)) zaa (fun a=>by kernel_rfl)
theorem zae2:fnB ZP 246 Tryz.f246 [3]=true:=by kernel_rfl
theorem zasz:CG ZP sg @zah2:=(cgc zakv cg0)
theorem zam8:zae ZP sg 0 Tryz.f246 @zvj 3:=zar z2q good Tryz.func246 zae2 zasz zaa (fun a=>by kernel_rfl) (by kernel_rfl) (fun _ _=>rfl)
theorem zath:SG ZP sg 246 @zag5:=conD (loops:=zvj) good Tryz.func246 zae2 (by kernel_rfl) zasz (all_cons zam8 zaa) (fun a=>by kernel_rfl)
theorem zaeu:fnB ZP 213 Tryz.f213 [3]=true:=by kernel_rfl
theorem zaec:CG ZP sg @z9h:=(cgc zath cg0)
theorem zabn:zae ZP sg 0 Tryz.f213 @zpz 3:=zar zuu good Tryz.func213 zaeu zaec zaa (fun a=>by kernel_rfl) (by kernel_rfl) (fun _ _=>rfl)
theorem zajr:SG ZP sg 213 @zape:=conD (loops:=zpz) good Tryz.func213 zaeu (by kernel_rfl) zaec (all_cons zabn zaa) (fun a=>by kernel_rfl)
theorem z1f:SG ZP sg 157 @zaqz:=conE good Tryz.func157 (by kernel_rfl) (by kernel_rfl) (cgc zajr cg0) (fun a=>by kernel_rfl)
theorem zaki:SG ZP sg 247 @z6x:=conE good Tryz.func247 (by kernel_rfl) (by kernel_rfl) cg0 (fun a=>by kernel_rfl)
theorem ztc:CG ZP sg @zwd:=(cgc zaki cg0)
theorem zxd:zae ZP sg 0 Tryz.f110 @ziy 2:=zar zky good Tryz.func110 zev ztc zaa (fun a=>by kernel_rfl) (by kernel_rfl) (fun _ _=>rfl)
theorem z0g:SG ZP sg 110 @z5s:=conD (loops:=ziy) good Tryz.func110 zev (by kernel_rfl) ztc (all_cons zxd zaa) (fun a=>by kernel_rfl)
theorem zq1:SG ZP sg 214 @zapd:=conE good Tryz.func214 (by kernel_rfl) (by kernel_rfl) (cgc z0g cg0) (fun a=>by kernel_rfl)
theorem z1g:SG ZP sg 158 @zaq2:=conE good Tryz.func158 (by kernel_rfl) (by kernel_rfl) (cgc zq1 cg0) (fun a=>by kernel_rfl)
theorem z00:SG ZP sg 68 @zapx:=conM (loops:=l0) (ids:=[]) good Tryz.func68 (by kernel_rfl) (by kernel_rfl) (cgc zfr cg0) zaa (fun a b=>by kernel_rfl)
theorem zalj:SG ZP sg 270 @zaqu:=conE good Tryz.func270 (by kernel_rfl) (by kernel_rfl) cg0 (fun a=>by kernel_rfl)
theorem zajh:SG ZP sg 261 @z5m:=conE good Tryz.func261 (by kernel_rfl) (by kernel_rfl) (cgc zalj cg0) (fun a=>by kernel_rfl)
theorem zae5:fnB ZP 262 Tryz.f262 [3]=true:=by kernel_rfl
theorem zad9:CG ZP sg @z9e:=cg0
theorem zabk:zae ZP sg 0 Tryz.f262 @zpw 3:=zar zur good Tryz.func262 zae5 zad9 zaa (fun a=>by kernel_rfl) (by kernel_rfl) (fun _ _=>rfl)
theorem zajn:SG ZP sg 262 @z5y:=conD (loops:=zpw) good Tryz.func262 zae5 (by kernel_rfl) zad9 (all_cons zabk zaa) (fun a=>by kernel_rfl)
theorem zae3:fnB ZP 248 Tryz.f248 [3]=true:=by kernel_rfl
theorem zadk:CG ZP sg @z8m:=(cgc zajh (cgc zajn cg0))
theorem zaar:zae ZP sg 0 Tryz.f248 @zo7 3:=zar zty good Tryz.func248 zae3 zadk zaa (fun a=>by kernel_rfl) (by kernel_rfl) (fun _ _=>rfl)
theorem zaiz:SG ZP sg 248 @zaos:=conD (loops:=zo7) good Tryz.func248 zae3 (by kernel_rfl) zadk (all_cons zaar zaa) (fun a=>by kernel_rfl)
theorem zak5:SG ZP sg 220 @zaqk:=conE good Tryz.func220 (by kernel_rfl) (by kernel_rfl) (cgc zaiz cg0) (fun a=>by kernel_rfl)
theorem zq8:SG ZP sg 162 @zapy:=conE good Tryz.func162 (by kernel_rfl) (by kernel_rfl) (cgc zrb (cgc zak5 cg0)) (fun a=>by kernel_rfl)
theorem zq9:SG ZP sg 165 @zapz:=conE good Tryz.func165 (by kernel_rfl) (by kernel_rfl) (cgc zmf cg0) (fun a=>by kernel_rfl)
theorem z09:SG ZP sg 117 @zaqc:=conE good Tryz.func117 (by kernel_rfl) (by kernel_rfl) cg0 (fun a=>by kernel_rfl)
theorem zal1:SG ZP sg 271 @z7l:=conE good Tryz.func271 (by kernel_rfl) (by kernel_rfl) (cgc z09 cg0) (fun a=>by kernel_rfl)
theorem zalg:SG ZP sg 272 @z7b:=conE good Tryz.func272 (by kernel_rfl) (by kernel_rfl) cg0 (fun a=>by kernel_rfl)
theorem zae6:fnB ZP 263 Tryz.f263 [3]=true:=by kernel_rfl
theorem zad0:CG ZP sg @z85:=(cgc zal1 (cgc zalg cg0))
theorem zabb:zae ZP sg 0 Tryz.f263 @zpn 3:=zar zui good Tryz.func263 zae6 zad0 zaa (fun a=>by kernel_rfl) (by kernel_rfl) (fun _ _=>rfl)
theorem zajd:SG ZP sg 263 @zao2:=conD (loops:=zpn) good Tryz.func263 zae6 (by kernel_rfl) zad0 (all_cons zabb zaa) (fun a=>by kernel_rfl)
theorem zae4:fnB ZP 251 Tryz.f251 [3]=true:=by kernel_rfl
theorem zadx:CG ZP sg @z82:=cg0
theorem zaa8:zae ZP sg 0 Tryz.f251 @zpk 3:=zar zuf good Tryz.func251 zae4 zadx zaa (fun a=>by kernel_rfl) (by kernel_rfl) (fun _ _=>rfl)
theorem zz9:SG ZP sg 251 @z5g:=conD (loops:=zpk) good Tryz.func251 zae4 (by kernel_rfl) zadx (all_cons zaa8 zaa) (fun a=>by kernel_rfl)
theorem zal5:SG ZP sg 265 @zaq8:=conE good Tryz.func265 (by kernel_rfl) (by kernel_rfl) cg0 (fun a=>by kernel_rfl)
theorem zq5:SG ZP sg 253 @z6b:=conE good Tryz.func253 (by kernel_rfl) (by kernel_rfl) (cgc zal5 cg0) (fun a=>by kernel_rfl)
theorem z0f:SG ZP sg 249 @zsj:=conE good Tryz.func249 (by kernel_rfl) (by kernel_rfl) (cgc zra (cgc zz9 (cgc zq5 (cgc zajd cg0)))) (fun a=>by kernel_rfl)
theorem zaey:fnB ZP 221 Tryz.f221 [2]=true:=by kernel_rfl
theorem zad1:CG ZP sg @z86:=(cgc z0f cg0)
theorem zabc:zae ZP sg 0 Tryz.f221 @zpo 2:=zar zuj good Tryz.func221 zaey zad1 zaa (fun a=>by kernel_rfl) (by kernel_rfl) (fun _ _=>rfl)
theorem z0a:SG ZP sg 221 @z5i:=conD (loops:=zpo) good Tryz.func221 zaey (by kernel_rfl) zad1 (all_cons zabc zaa) (fun a=>by kernel_rfl)
theorem zae1:fnB ZP 231 Tryz.f231 [9]=true:=by kernel_rfl
theorem zadi:CG ZP sg @z8k:=(cgc zra (cgc z0a cg0))
theorem zaap:zae ZP sg 0 Tryz.f231 @zo5 9:=zar ztw good Tryz.func231 zae1 zadi zaa (fun a=>by kernel_rfl) (by kernel_rfl) (fun _ _=>rfl)
theorem zaiy:SG ZP sg 231 @zaor:=conD (loops:=zo5) good Tryz.func231 zae1 (by kernel_rfl) zadi (all_cons zaap zaa) (fun a=>by kernel_rfl)
theorem zald:SG ZP sg 174 @zaqp:=conM (loops:=l0) (ids:=[]) good Tryz.func174 (by kernel_rfl) (by kernel_rfl) (cgc zf6 (cgc zq9 (cgc zaiy cg0))) zaa (fun a b=>by kernel_rfl)
theorem z0w:SG ZP sg 215 @z6k:=conE good Tryz.func215 (by kernel_rfl) (by kernel_rfl) cg0 (fun a=>by kernel_rfl)
theorem ztd:CG ZP sg @zwe:=(cgc z0w cg0)
theorem zxe:zae ZP sg 0 Tryz.f110 @ziz 2:=zar zkz good Tryz.func110 zev ztd zaa (fun a=>by kernel_rfl) (by kernel_rfl) (fun _ _=>rfl)
theorem z0h:SG ZP sg 110 @z5t:=conD (loops:=ziz) good Tryz.func110 zev (by kernel_rfl) ztd (all_cons zxe zaa) (fun a=>by kernel_rfl)
theorem zaj0:SG ZP sg 57 @zapn:=conE good Tryz.func57 (by kernel_rfl) (by kernel_rfl) (cgc z0h (cgc z0w cg0)) (fun a=>by kernel_rfl)
theorem z06:SG ZP sg 226 @zap7:=conS (loops:=l0) (ids:=[]) good Tryz.func226 (by kernel_rfl) (by kernel_rfl) cg0 zaa (fun a=>by kernel_rfl) (by kernel_rfl)
theorem zals:SG ZP sg 216 @zaq1:=conE good Tryz.func216 (by kernel_rfl) (by kernel_rfl) (cgc z06 cg0) (fun a=>by kernel_rfl)
theorem z0c:SG ZP sg 160 @zao4:=conE good Tryz.func160 (by kernel_rfl) (by kernel_rfl) (cgc zaj0 (cgc zqz (cgc zq1 (cgc zals cg0)))) (fun a=>by kernel_rfl)
theorem zq7:SG ZP sg 159 @zapv:=conM (loops:=l0) (ids:=[]) good Tryz.func159 (by kernel_rfl) (by kernel_rfl) (cgc zf6 cg0) zaa (fun a b=>by kernel_rfl)
theorem z08:SG ZP sg 114 @zaqa:=conM (loops:=l0) (ids:=[]) good Tryz.func114 (by kernel_rfl) (by kernel_rfl) (cgc zfr (cgc zq7 (cgc z0c (cgc zq8 (cgc zald cg0))))) zaa (fun a b=>by kernel_rfl)
theorem z1e:SG ZP sg 105 @zaqs:=conM (loops:=l0) (ids:=[]) good Tryz.func105 (by kernel_rfl) (by kernel_rfl) (cgc z00 (cgc zfr (cgc z08 (cgc z1f (cgc z1g (cgc zq7 (cgc z0c cg0))))))) zaa (fun a b=>by kernel_rfl)
theorem zz1:SG ZP sg 72 @zaoq:=conM (loops:=l0) (ids:=[]) good Tryz.func72 (by kernel_rfl) (by kernel_rfl) cg0 zaa (fun a b=>by kernel_rfl)
theorem zakc:SG ZP sg 54 @z6p:=conE good Tryz.func54 (by kernel_rfl) (by kernel_rfl) (cgc zmh (cgc zmi (cgc zz1 (cgc zfr (cgc z1e cg0))))) (fun a=>by kernel_rfl)
theorem zaew:fnB ZP 218 Tryz.f218 [3]=true:=by kernel_rfl
theorem zaed:CG ZP sg @z9i:=cg0
theorem zabo:zae ZP sg 0 Tryz.f218 @zp0 3:=zar zuv good Tryz.func218 zaew zaed zaa (fun a=>by kernel_rfl) (by kernel_rfl) (fun _ _=>rfl)
theorem zajs:SG ZP sg 218 @zapf:=conD (loops:=zp0) good Tryz.func218 zaew (by kernel_rfl) zaed (all_cons zabo zaa) (fun a=>by kernel_rfl)
theorem zaeq:fnB ZP 163 Tryz.f163 [3]=true:=by kernel_rfl
theorem zadp:CG ZP sg @z8u:=cg0
theorem zaa0:zae ZP sg 0 Tryz.f163 @zpc 3:=zar zt7 good Tryz.func163 zaeq zadp zaa (fun a=>by kernel_rfl) (by kernel_rfl) (fun _ _=>rfl)
theorem zz7:SG ZP sg 163 @z5a:=conD (loops:=zpc) good Tryz.func163 zaeq (by kernel_rfl) zadp (all_cons zaa0 zaa) (fun a=>by kernel_rfl)
theorem zaex:fnB ZP 219 Tryz.f219 [3]=true:=by kernel_rfl
theorem zad7:CG ZP sg @z9c:=(cgc zz7 cg0)
theorem zabi:zae ZP sg 0 Tryz.f219 @zpu 3:=zar zup good Tryz.func219 zaex zad7 zaa (fun a=>by kernel_rfl) (by kernel_rfl) (fun _ _=>rfl)
theorem zajl:SG ZP sg 219 @zao7:=conD (loops:=zpu) good Tryz.func219 zaex (by kernel_rfl) zad7 (all_cons zabi zaa) (fun a=>by kernel_rfl)
theorem zaev:fnB ZP 217 Tryz.f217 [3]=true:=by kernel_rfl
theorem zad8:CG ZP sg @z9d:=cg0
theorem zabj:zae ZP sg 0 Tryz.f217 @zpv 3:=zar zuq good Tryz.func217 zaev zad8 zaa (fun a=>by kernel_rfl) (by kernel_rfl) (fun _ _=>rfl)
theorem zajm:SG ZP sg 217 @zao8:=conD (loops:=zpv) good Tryz.func217 zaev (by kernel_rfl) zad8 (all_cons zabj zaa) (fun a=>by kernel_rfl)
theorem zal4:SG ZP sg 161 @zaq7:=conE good Tryz.func161 (by kernel_rfl) (by kernel_rfl) (cgc zajm (cgc zajs (cgc zajl cg0))) (fun a=>by kernel_rfl)
theorem zaez:fnB ZP 222 Tryz.f222 [2]=true:=by kernel_rfl
theorem zaeg:CG ZP sg @z9l:=(cgc z0f cg0)
theorem zabr:zae ZP sg 0 Tryz.f222 @zp3 2:=zar zuy good Tryz.func222 zaez zaeg zaa (fun a=>by kernel_rfl) (by kernel_rfl) (fun _ _=>rfl)
theorem zajv:SG ZP sg 222 @zaph:=conD (loops:=zp3) good Tryz.func222 zaez (by kernel_rfl) zaeg (all_cons zabr zaa) (fun a=>by kernel_rfl)
theorem zakk:SG ZP sg 164 @zap1:=conE good Tryz.func164 (by kernel_rfl) (by kernel_rfl) (cgc z0m (cgc z0a (cgc zajv cg0))) (fun a=>by kernel_rfl)
theorem zall:SG ZP sg 106 @zaqv:=conE good Tryz.func106 (by kernel_rfl) (by kernel_rfl) (cgc z1f (cgc z1g (cgc zal4 (cgc zq8 (cgc zz7 (cgc zakk (cgc zq9 cg0))))))) (fun a=>by kernel_rfl)
theorem z0y:SG ZP sg 166 @z6m:=conE good Tryz.func166 (by kernel_rfl) (by kernel_rfl) cg0 (fun a=>by kernel_rfl)
theorem ztk:CG ZP sg @zwm:=(cgc z0y cg0)
theorem zxm:zae ZP sg 0 Tryz.f185 @zi6 2:=zar zk8 good Tryz.func185 ztq ztk zaa (fun a=>by kernel_rfl) (by kernel_rfl) (fun _ _=>rfl)
theorem z1h:SG ZP sg 185 @z7o:=conD (loops:=zi6) good Tryz.func185 ztq (by kernel_rfl) ztk (all_cons zxm zaa) (fun a=>by kernel_rfl)
theorem zws:SG ZP sg 121 @zyh:=conE good Tryz.func121 (by kernel_rfl) (by kernel_rfl) (cgc z0y (cgc z1h cg0)) (fun a=>by kernel_rfl)
theorem z05:SG ZP sg 169 @zap6:=conS (loops:=l0) (ids:=[]) good Tryz.func169 (by kernel_rfl) (by kernel_rfl) cg0 zaa (fun a=>by kernel_rfl) (by kernel_rfl)
theorem zak4:SG ZP sg 167 @zaqj:=conE good Tryz.func167 (by kernel_rfl) (by kernel_rfl) (cgc zz3 cg0) (fun a=>by kernel_rfl)
theorem zajx:SG ZP sg 107 @zapi:=conE good Tryz.func107 (by kernel_rfl) (by kernel_rfl) (cgc (sgi (ac:=zahj) zq3 (sgi (ac:=zl3) zws sg0)) (cgc zqy (cgc zak4 (cgc (sgP zaky) (cgc z05 cg0))))) (fun a=>by kernel_rfl)
theorem zq6:SG ZP sg 71 @zapu:=conM (loops:=l0) (ids:=[]) good Tryz.func71 (by kernel_rfl) (by kernel_rfl) (cgc zf6 cg0) zaa (fun a b=>by kernel_rfl)
theorem zaln:SG ZP sg 170 @zaqw:=conE good Tryz.func170 (by kernel_rfl) (by kernel_rfl) (cgc zq1 (cgc (sgP zak1) (cgc z06 cg0))) (fun a=>by kernel_rfl)
theorem zalx:SG ZP sg 108 @zaq4:=conM (loops:=l0) (ids:=[]) good Tryz.func108 (by kernel_rfl) (by kernel_rfl) (cgc zq7 (cgc zaln cg0)) zaa (fun a b=>by kernel_rfl)
theorem z0e:SG ZP sg 109 @zao6:=conM (loops:=l0) (ids:=[]) good Tryz.func109 (by kernel_rfl) (by kernel_rfl) cg0 zaa (fun a b=>by kernel_rfl)
theorem zalq:SG ZP sg 112 @zaq0:=conE good Tryz.func112 (by kernel_rfl) (by kernel_rfl) cg0 (fun a=>by kernel_rfl)
theorem zaj6:SG ZP sg 111 @z6d:=conE good Tryz.func111 (by kernel_rfl) (by kernel_rfl) (cgc zalq cg0) (fun a=>by kernel_rfl)
theorem zte:CG ZP sg @zwf:=(cgc zaj6 cg0)
theorem zxf:zae ZP sg 0 Tryz.f110 @zi0 2:=zar zk0 good Tryz.func110 zev zte zaa (fun a=>by kernel_rfl) (by kernel_rfl) (fun _ _=>rfl)
theorem z0i:SG ZP sg 110 @z5u:=conD (loops:=zi0) good Tryz.func110 zev (by kernel_rfl) zte (all_cons zxf zaa) (fun a=>by kernel_rfl)
theorem zajw:SG ZP sg 55 @z54:=conE good Tryz.func55 (by kernel_rfl) (by kernel_rfl) (cgc zmh (cgc zmi (cgc zf6 (cgc zq6 (cgc zrb (cgc zqx (cgc zfr (cgc zall (cgc zajx (cgc zalx (cgc z0e (cgc z0i cg0)))))))))))) (fun a=>by kernel_rfl)
theorem zala:SG ZP sg 123 @zaqm:=conE good Tryz.func123 (by kernel_rfl) (by kernel_rfl) (cgc z05 (cgc (sgP zak0) cg0)) (fun a=>by kernel_rfl)
theorem z1b:SG ZP sg 70 @zaqg:=conE good Tryz.func70 (by kernel_rfl) (by kernel_rfl) (cgc zq3 (cgc zqy (cgc zala cg0))) (fun a=>by kernel_rfl)
theorem zalk:SG ZP sg 252 @z7d:=conE good Tryz.func252 (by kernel_rfl) (by kernel_rfl) (cgc zq5 cg0) (fun a=>by kernel_rfl)
theorem z1u:fnB ZP 227 Tryz.f227 [7,13]=true:=by kernel_rfl
theorem zzt:CG ZP sg @z8r:=(cgc zz9 (cgc zalk (cgc zq5 cg0)))
theorem zaax:zae ZP sg 0 Tryz.f227 @ziw 7:=zar zt4 good Tryz.func227 z1u zzt zaa (fun a=>by kernel_rfl) (by kernel_rfl) (fun _ _=>rfl)
theorem z3i:zae ZP sg 0 Tryz.f227 @ziw 13:=zar zox good Tryz.func227 z1u zzt zaa (fun a=>by kernel_rfl) (by kernel_rfl) (fun _ _=>rfl)
theorem zai1:SG ZP sg 227 @zaou:=conD (loops:=ziw) good Tryz.func227 z1u (by kernel_rfl) zzt (all_cons zaax (all_cons z3i zaa)) (fun a=>by kernel_rfl)
theorem zal8:SG ZP sg 171 @zarb:=conE good Tryz.func171 (by kernel_rfl) (by kernel_rfl) (cgc zaek (cgc z03 (cgc zai1 cg0))) (fun a=>by kernel_rfl)
theorem zaj8:SG ZP sg 228 @zapq:=conE good Tryz.func228 (by kernel_rfl) (by kernel_rfl) (cgc zz4 cg0) (fun a=>by kernel_rfl)
theorem zalb:SG ZP sg 172 @zaqn:=conM (loops:=l0) (ids:=[]) good Tryz.func172 (by kernel_rfl) (by kernel_rfl) (cgc zf6 (cgc zaj8 cg0)) zaa (fun a b=>by kernel_rfl)
theorem zaj3:SG ZP sg 230 @z58:=conE good Tryz.func230 (by kernel_rfl) (by kernel_rfl) cg0 (fun a=>by kernel_rfl)
theorem zae0:fnB ZP 229 Tryz.f229 [2]=true:=by kernel_rfl
theorem zad3:CG ZP sg @z88:=(cgc zaj3 cg0)
theorem zabe:zae ZP sg 0 Tryz.f229 @zpq 2:=zar zul good Tryz.func229 zae0 zad3 zaa (fun a=>by kernel_rfl) (by kernel_rfl) (fun _ _=>rfl)
theorem zaje:SG ZP sg 229 @zao3:=conD (loops:=zpq) good Tryz.func229 zae0 (by kernel_rfl) zad3 (all_cons zabe zaa) (fun a=>by kernel_rfl)
theorem zajy:SG ZP sg 173 @zapl:=conE good Tryz.func173 (by kernel_rfl) (by kernel_rfl) (cgc zaje cg0) (fun a=>by kernel_rfl)
theorem zak9:SG ZP sg 113 @zaql:=conM (loops:=l0) (ids:=[]) good Tryz.func113 (by kernel_rfl) (by kernel_rfl) (cgc z1b (cgc zq6 (cgc zfr (cgc zq8 (cgc zq9 (cgc zal8 (cgc zalb (cgc zajy cg0)))))))) zaa (fun a b=>by kernel_rfl)
theorem zak7:SG ZP sg 56 @z69:=conE good Tryz.func56 (by kernel_rfl) (by kernel_rfl) (cgc zmh (cgc zmi (cgc zf6 (cgc zqx (cgc zfr (cgc z1e (cgc z0e (cgc zak9 (cgc z08 cg0))))))))) (fun a=>by kernel_rfl)
theorem zauc:fnB ZP 26 Tryz.f26 [6]=true:=by kernel_rfl
theorem zaea:CG ZP sg @z9f:=(cgc zaj5 (cgc zaei (cgc zakc (cgc zajw (cgc zak7 cg0)))))
theorem zabl:zae ZP sg 0 Tryz.f26 @zpx 6:=zar zus good Tryz.func26 zauc zaea zaa (fun a=>by kernel_rfl) (by kernel_rfl) (fun _ _=>rfl)
theorem zajo:SG ZP sg 26 @zapa:=conD (loops:=zpx) good Tryz.func26 zauc (by kernel_rfl) zaea (all_cons zabl zaa) (fun a=>by kernel_rfl)
theorem zat1:fnB ZP 11 Tryz.f11 [3]=true:=by kernel_rfl
theorem zadn:CG ZP sg @z8p:=cg0
theorem zaau:zae ZP sg 0 Tryz.f11 @zpa 3:=zar zt1 good Tryz.func11 zat1 zadn zaa (fun a=>by kernel_rfl) (by kernel_rfl) (fun _ _=>rfl)
theorem zz5:SG ZP sg 11 @z49:=conD (loops:=zpa) good Tryz.func11 zat1 (by kernel_rfl) zadn (all_cons zaau zaa) (fun a=>by kernel_rfl)
theorem zat3:fnB ZP 13 Tryz.f13 [3]=true:=by kernel_rfl
theorem zad2:CG ZP sg @z87:=cg0
theorem zabd:zae ZP sg 0 Tryz.f13 @zpp 3:=zar zuk good Tryz.func13 zat3 zad2 zaa (fun a=>by kernel_rfl) (by kernel_rfl) (fun _ _=>rfl)
theorem z0b:SG ZP sg 13 @z5j:=conD (loops:=zpp) good Tryz.func13 zat3 (by kernel_rfl) zad2 (all_cons zabd zaa) (fun a=>by kernel_rfl)
theorem z0t:SG ZP sg 58 @z6i:=conE good Tryz.func58 (by kernel_rfl) (by kernel_rfl) cg0 (fun a=>by kernel_rfl)
theorem ztf:CG ZP sg @zwg:=(cgc z0t cg0)
theorem zxg:zae ZP sg 0 Tryz.f110 @zi1 2:=zar zk1 good Tryz.func110 zev ztf zaa (fun a=>by kernel_rfl) (by kernel_rfl) (fun _ _=>rfl)
theorem z0j:SG ZP sg 110 @z5v:=conD (loops:=zi1) good Tryz.func110 zev (by kernel_rfl) ztf (all_cons zxg zaa) (fun a=>by kernel_rfl)
theorem zwq:SG ZP sg 57 @zlx:=conE good Tryz.func57 (by kernel_rfl) (by kernel_rfl) (cgc z0t (cgc z0j cg0)) (fun a=>by kernel_rfl)
theorem zalh:SG ZP sg 62 @zaqt:=conE good Tryz.func62 (by kernel_rfl) (by kernel_rfl) (cgc z09 cg0) (fun a=>by kernel_rfl)
theorem zaui:fnB ZP 61 Tryz.f61 [3]=true:=by kernel_rfl
theorem zaeb:CG ZP sg @z9g:=cg0
theorem zabm:zae ZP sg 0 Tryz.f61 @zpy 3:=zar zut good Tryz.func61 zaui zaeb zaa (fun a=>by kernel_rfl) (by kernel_rfl) (fun _ _=>rfl)
theorem zajq:SG ZP sg 61 @zapc:=conD (loops:=zpy) good Tryz.func61 zaui (by kernel_rfl) zaeb (all_cons zabm zaa) (fun a=>by kernel_rfl)
theorem zaw9:SG ZP sg 60 @zap5:=conE good Tryz.func60 (by kernel_rfl) (by kernel_rfl) (cgc zajq (cgc zalh cg0)) (fun a=>by kernel_rfl)
theorem zaud:fnB ZP 27 Tryz.f27 [3]=true:=by kernel_rfl
theorem zasy:CG ZP sg @zah1:=(cgc zz5 (cgc zwq (cgc (sgP zakn) cg0)))
theorem zam7:zae ZP sg 0 Tryz.f27 @zvi 3:=zar z2p good Tryz.func27 zaud zasy zaa (fun a=>by kernel_rfl) (by kernel_rfl) (fun _ _=>rfl)
theorem zaej:SG ZP sg 27 @z7n:=conD (loops:=zvi) good Tryz.func27 zaud (by kernel_rfl) zasy (all_cons zam7 zaa) (fun a=>by kernel_rfl)
theorem zat5:fnB ZP 16 Tryz.f16 [3]=true:=by kernel_rfl
theorem zadq:CG ZP sg @z8v:=(cgc zaej cg0)
theorem zaa1:zae ZP sg 0 Tryz.f16 @zpd 3:=zar zt8 good Tryz.func16 zat5 zadq zaa (fun a=>by kernel_rfl) (by kernel_rfl) (fun _ _=>rfl)
theorem zz8:SG ZP sg 16 @z5c:=conD (loops:=zpd) good Tryz.func16 zat5 (by kernel_rfl) zadq (all_cons zaa1 zaa) (fun a=>by kernel_rfl)
theorem zat4:fnB ZP 15 Tryz.f15 [4]=true:=by kernel_rfl
theorem zadu:CG ZP sg @z8z:=cg0
theorem zaa5:zae ZP sg 0 Tryz.f15 @zph 4:=zar zuc good Tryz.func15 zat4 zadu zaa (fun a=>by kernel_rfl) (by kernel_rfl) (fun _ _=>rfl)
theorem zai8:SG ZP sg 15 @zaoz:=conD (loops:=zph) good Tryz.func15 zat4 (by kernel_rfl) zadu (all_cons zaa5 zaa) (fun a=>by kernel_rfl)
theorem z02:SG ZP sg 32 @z6u:=conE good Tryz.func32 (by kernel_rfl) (by kernel_rfl) cg0 (fun a=>by kernel_rfl)
theorem zti:CG ZP sg @zwj:=(cgc z02 cg0)
theorem zxj:zae ZP sg 0 Tryz.f63 @zi4 2:=zar zk4 good Tryz.func63 zog zti zaa (fun a=>by kernel_rfl) (by kernel_rfl) (fun _ _=>rfl)
theorem z0r:SG ZP sg 63 @z6f:=conD (loops:=zi4) good Tryz.func63 zog (by kernel_rfl) zti (all_cons zxj zaa) (fun a=>by kernel_rfl)
theorem zaj9:SG ZP sg 31 @z6h:=conE good Tryz.func31 (by kernel_rfl) (by kernel_rfl) (cgc z02 (cgc z0r cg0)) (fun a=>by kernel_rfl)
theorem z1a:SG ZP sg 119 @zaqd:=conE good Tryz.func119 (by kernel_rfl) (by kernel_rfl) cg0 (fun a=>by kernel_rfl)
theorem z0o:SG ZP sg 118 @z6c:=conE good Tryz.func118 (by kernel_rfl) (by kernel_rfl) (cgc z1a cg0) (fun a=>by kernel_rfl)
theorem ztj:CG ZP sg @zwk:=(cgc z0o cg0)
theorem zxk:zae ZP sg 0 Tryz.f63 @zi5 2:=zar zk5 good Tryz.func63 zog ztj zaa (fun a=>by kernel_rfl) (by kernel_rfl) (fun _ _=>rfl)
theorem z0s:SG ZP sg 63 @z6g:=conD (loops:=zi5) good Tryz.func63 zog (by kernel_rfl) ztj (all_cons zxk zaa) (fun a=>by kernel_rfl)
theorem zwt:SG ZP sg 31 @zyi:=conE good Tryz.func31 (by kernel_rfl) (by kernel_rfl) (cgc z0s (cgc z0o cg0)) (fun a=>by kernel_rfl)
theorem z0x:SG ZP sg 120 @z6l:=conE good Tryz.func120 (by kernel_rfl) (by kernel_rfl) cg0 (fun a=>by kernel_rfl)
theorem ztg:CG ZP sg @zwh:=(cgc z0x cg0)
theorem zxh:zae ZP sg 0 Tryz.f110 @zi2 2:=zar zk2 good Tryz.func110 zev ztg zaa (fun a=>by kernel_rfl) (by kernel_rfl) (fun _ _=>rfl)
theorem z0k:SG ZP sg 110 @z5w:=conD (loops:=zi2) good Tryz.func110 zev (by kernel_rfl) ztg (all_cons zxh zaa) (fun a=>by kernel_rfl)
theorem zwr:SG ZP sg 57 @zyg:=conE good Tryz.func57 (by kernel_rfl) (by kernel_rfl) (cgc z0k (cgc z0x cg0)) (fun a=>by kernel_rfl)
theorem zai2:SG ZP sg 66 @zaov:=conE good Tryz.func66 (by kernel_rfl) (by kernel_rfl) (cgc zwt (cgc zwr (cgc z1a cg0))) (fun a=>by kernel_rfl)
theorem zalz:SG ZP sg 33 @z7k:=conE good Tryz.func33 (by kernel_rfl) (by kernel_rfl) (cgc zmh (cgc zmi (cgc zai2 (cgc zf6 (cgc z00 (cgc z04 (cgc z1b (cgc zq6 (cgc zz1 cg0))))))))) (fun a=>by kernel_rfl)
theorem zamf:fnB ZP 20 Tryz.f20 [2,9]=true:=by kernel_rfl
theorem zail:CG ZP sg @zah4:=(cgc zaj9 (cgc zalz cg0))
theorem zana:zae ZP sg 0 Tryz.f20 @zm5 2:=zar z2s good Tryz.func20 zamf zail zaa (fun a=>by kernel_rfl) (by kernel_rfl) (fun _ _=>rfl)
theorem zanb:zae ZP sg 0 Tryz.f20 @zm5 9:=zar z2t good Tryz.func20 zamf zail zaa (fun a=>by kernel_rfl) (by kernel_rfl) (fun _ _=>rfl)
theorem zatj:SG ZP sg 20 @zaws:=conD (loops:=zm5) good Tryz.func20 zamf (by kernel_rfl) zail (all_cons zana (all_cons zanb zaa)) (fun a=>by kernel_rfl)
theorem zat7:fnB ZP 18 Tryz.f18 [4]=true:=by kernel_rfl
theorem zad6:CG ZP sg @z9b:=(cgc z0b (cgc zaej cg0))
theorem zabh:zae ZP sg 0 Tryz.f18 @zpt 4:=zar zuo good Tryz.func18 zat7 zad6 zaa (fun a=>by kernel_rfl) (by kernel_rfl) (fun _ _=>rfl)
theorem z0l:SG ZP sg 18 @z5x:=conD (loops:=zpt) good Tryz.func18 zat7 (by kernel_rfl) zad6 (all_cons zabh zaa) (fun a=>by kernel_rfl)
theorem zalm:SG ZP sg 10 @z7e:=conE good Tryz.func10 (by kernel_rfl) (by kernel_rfl) (cgc zz5 (cgc z0b (cgc zai8 (cgc zz8 (cgc z0l (cgc zatj (cgc zajo cg0))))))) (fun a=>by kernel_rfl)
theorem fb_8:fnB ZP 8 Tryz.f8 [6,13,16,20]=true:=by kernel_rfl
theorem zzv:CG ZP sg @zahz:=(cgc zak6 (cgc zalm (cgc zz8 (cgc z0l cg0))))
theorem zam4:zae ZP sg 0 Tryz.f8 @zgl 6:=zar z2m good Tryz.func8 fb_8 zzv zaa (fun a=>by kernel_rfl) (by kernel_rfl) (fun _ _=>rfl)
theorem zmy:zae ZP sg 0 Tryz.f8 @zgl 20:=zar zu1 good Tryz.func8 fb_8 zzv zaa (fun a=>by kernel_rfl) (by kernel_rfl) (fun _ _=>rfl)
theorem zvc:zae ZP sg 0 Tryz.f8 @zgl 16:=zar zu0 good Tryz.func8 fb_8 zzv (all_cons zmy zaa) (fun a=>by kernel_rfl) (by kernel_rfl) (fun _ _=>rfl)
theorem zabs:zae ZP sg 0 Tryz.f8 @zgl 13:=zar zuz good Tryz.func8 fb_8 zzv (all_cons zvc (all_cons zmy zaa)) (fun a=>by kernel_rfl) (by kernel_rfl) (fun _ _=>rfl)
theorem zatf:SG ZP sg 8 @zawp:=conD (loops:=zgl) good Tryz.func8 fb_8 (by kernel_rfl) zzv (all_cons zam4 (all_cons zabs (all_cons zvc (all_cons zmy zaa)))) (fun a=>by kernel_rfl)
end Go.Proofs.YtpaidiaknfhclaaGreatDoor
namespace Go.Proofs.YtpaidiaknfhclaaGreatDoor
open Ev
open Go (IntKind)
section
variable {α β σ X:Type}
theorem zxb {step:α→Option (α⊕β)}:∀{n m:Nat} {a:α} {b:β},n≤m→zci step n a=some b→zci step m a=some b:=by
 intro n
 induction n with
 |zero=>intro m a b _ h;cases h
 |succ n ih=>
  intro m a b hm h
  obtain ⟨m,rfl⟩:∃k,m=k+1:=⟨m-1,by omega⟩
  simp only[zci]at h ⊢
  cases h1:step a with
  |none=>rw[h1]at h;cases h
  |some x=>
   rw[h1]at h
   cases x with
   |inl a'=>exact ih (by omega) h
   |inr b'=>exact h
theorem zen {step:α→Option (α⊕β)} {a:α} {b:β} (n:Nat) (hn:n≤FUEL) (h:zci step n a=some b):zah step a=some b:=zxb hn h
def zex (f:Nat→X→σ→σ⊕β) (fin:σ→β):Nat→List X→σ→β
 |_,[],s=>fin s
 |i,x::l,s=>match f i x s with
  |.inl s'=>zex f fin (i+1) l s'
  |.inr b=>b
theorem zc7 {step:α→Option (α⊕β)} (Inv:Nat→σ→Prop) (enc:Nat→σ→α) (l:List X) (f:Nat→X→σ→σ⊕β) (fin:σ→β) (hl:l.length<FUEL)
 (h0:∀s,Inv l.length s→step (enc l.length s)=some (.inr (fin s)))
 (h1:∀i x s,l[i]?=some x→Inv i s→(step (enc i s)=some (match f i x s with | .inl s'=>.inl (enc (i+1) s') | .inr b=>.inr b))∧∀s',f i x s=.inl s'→Inv (i+1) s')
 (s:σ) (hs:Inv 0 s):zah step (enc 0 s)=some (zex f fin 0 l s):=by
 have key:∀k i s,i+k=l.length→Inv i s→zci step (k+1) (enc i s)=some (zex f fin i (l.drop i) s):=by
  intro k
  induction k with
  |zero=>
   intro i s hi hs
   have:i=l.length:=by omega
   subst this
   rw[List.drop_length]
   simp only[zci,h0 s hs,zex]
  |succ k ih=>
   intro i s hi hs
   have hlt:i<l.length:=by omega
   obtain ⟨e1,e2⟩:=h1 i l[i] s (List.getElem?_eq_getElem hlt) hs
   rw[List.drop_eq_getElem_cons hlt]
   rw[zci,e1]
   simp only[zex]
   cases hf:f i l[i] s with
   |inl s'=>simp only;exact ih (i+1) s' (by omega) (e2 s' hf)
   |inr b=>rfl
 have:=key l.length 0 s (by omega) hs
 exact zen (l.length+1) (by omega) (by simpa using this)
theorem zdq {step:α→Option (α⊕β)} (enc:Nat→σ→α) (l:List X) (f:Nat→X→σ→σ⊕β) (fin:σ→β) (hl:l.length<FUEL)
 (h0:∀s,step (enc l.length s)=some (.inr (fin s)))
 (h1:∀i x s,l[i]?=some x→step (enc i s)=some (match f i x s with | .inl s'=>.inl (enc (i+1) s') | .inr b=>.inr b))
 (s:σ):zah step (enc 0 s)=some (zex f fin 0 l s):=
 zc7 (fun _ _=>True) enc l f fin hl (fun s _=>h0 s) (fun i x s hx _=>⟨h1 i x s hx,fun _ _=>trivial⟩) s trivial
def fIdx (p:X→Bool) (l:List X):Int:=match l.findIdx? p with|some i=>(i:Int)|none=>-1
def zb2 (f:Nat→X→Int):Nat→List X→Int
 |_,[]=>0
 |i,x::l=>if f i x==0 then zb2 f (i+1) l else f i x
theorem z41 {f:Nat→X→Int} {d:β} {g:Int→β}:∀{l:List X} {i:Nat},zex (σ:=Unit) (fun i x _=>if f i x==0 then .inl () else .inr (g (f i x))) (fun _=>d) i l ()=if zb2 f i l==0 then d else g (zb2 f i l):=by
 intro l
 induction l with
 |nil=>intros;rfl
 |cons x l ih=>
  intro i
  simp only[zex,zb2]
  by_cases h:(f i x==0)=true
  ·simp only[h,if_true];exact ih
  ·have h2:¬f i x=0:=fun e=>h (by simp[e])
   simp[h2]
theorem zfk {f:X→σ→σ} {fin:σ→β}:∀{l:List X} {i:Nat} {s:σ},zex (fun _ x s=>.inl (f x s)) fin i l s=fin (l.foldl (fun s x=>f x s) s):=by
 intro l
 induction l with
 |nil=>intros;rfl
 |cons x l ih=>intro i s;simp only[zex,List.foldl_cons];exact ih
end
section
variable {α β σ X:Type} {step:α→Option (α⊕β)}
def zhc (a:α) (g:Int→β) (e:Int):Option (α⊕β):=if e==0 then some (.inl a) else some (.inr (g e))
theorem zdm (a:α) (g:Int→β) (b:Bool) (x y:Int):zhc a g (bif b then x else y)=bif b then zhc a g x else zhc a g y:=by cases b<;>rfl
theorem zem (enc:Nat→α) (l:List X) (f:Nat→X→Int) (d:β) (g:Int→β) (hl:l.length<1000000000) (h0:step (enc l.length)=some (.inr d))
 (h1:∀i x,l[i]?=some x→step (enc i)=zhc (enc (i+1)) g (f i x)):zah step (enc 0)=some (if zb2 f 0 l==0 then d else g (zb2 f 0 l)):=by
 have h:=zdq (step:=step) (fun i (_:Unit)=>enc i) l (fun i x _=>if f i x==0 then .inl () else .inr (g (f i x))) (fun _=>d) (by show l.length<18446744073709551616;omega) (fun _=>h0)
  (fun i x _ hx=>by rw[h1 i x hx];unfold zhc;split<;>rfl) ()
 rw[h,z41]
def zew (p:X→Bool) (g:Nat→X→β) (d:β):Nat→List X→β
 |_,[]=>d
 |i,x::l=>bif p x then g i x else zew p g d (i+1) l
theorem zcv (enc:Nat→α) (l:List X) (p:X→Bool) (g:Nat→X→β) (d:β) (hl:l.length<1000000000) (h0:step (enc l.length)=some (.inr d))
 (h1:∀i x,l[i]?=some x→step (enc i)=bif p x then some (.inr (g i x)) else some (.inl (enc (i+1)))):zah step (enc 0)=some (zew p g d 0 l):=by
 have h:=zdq (step:=step) (fun i (_:Unit)=>enc i) l (fun i x _=>if p x then .inr (g i x) else .inl ()) (fun _=>d) (by show l.length<18446744073709551616;omega) (fun _=>h0)
  (fun i x _ hx=>by rw[h1 i x hx];cases p x<;>rfl) ()
 rw[h]
 have key:∀(l:List X) (i:Nat),zex (σ:=Unit) (fun i x _=>if p x then .inr (g i x) else .inl ()) (fun _=>d) i l ()=zew p g d i l:=by
  intro l
  induction l with
  |nil=>intro i;rfl
  |cons x l ih=>
   intro i
   simp only[zex,zew]
   cases p x with
   |true=>rfl
   |false=>exact ih _
 rw[key]
theorem zw3 {p:X→Bool} {g:X→β} {d:β}:∀{l:List X} {i:Nat},zew p (fun _ x=>g x) d i l=(match l.find? p with|some x=>g x|none=>d):=by
 intro l
 induction l with
 |nil=>intros;rfl
 |cons x l ih=>intro i;simp only[zew,List.find?_cons];cases p x with|true=>rfl|false=>exact ih
theorem z1y {p:X→Bool}:∀{l:List X} {i:Nat},zew p (fun i _=>(i:Int)) (-1) i l=(match l.findIdx? p with|some k=>((i+k:Nat):Int)|none=>-1):=by
 intro l
 induction l with
 |nil=>intros;rfl
 |cons x l ih=>
  intro i
  simp only[zew,List.findIdx?_cons]
  cases p x with
  |true=>rfl
  |false=>
   simp only[Bool.false_eq_true,if_false,cond_false]
   rw[ih]
   cases l.findIdx? p with
   |none=>rfl
   |some k=>simp only[Option.map_some];rw[show i+1+k=i+(k+1) by omega]
theorem zfh {p:X→Bool} {l:List X}:zew p (fun i _=>(i:Int)) (-1) 0 l=fIdx p l:=by
 rw[z1y];unfold fIdx;simp
theorem zdn {γ:Type} {p:X→Bool} {g:Nat→X→β} {d:β} (f:β→γ):∀{l:List X} {i:Nat},f (zew p g d i l)=zew p (fun i x=>f (g i x)) (f d) i l:=by
 intro l
 induction l with
 |nil=>intros;rfl
 |cons x l ih=>intro i;simp only[zew];cases p x with|true=>rfl|false=>exact ih
def zch (p:Nat→X→Bool):Nat→List X→Bool
 |_,[]=>true
 |i,x::l=>p i x&&zch p (i+1) l
theorem za3 (enc:Nat→α) (l:List X) (p:Nat→X→Bool) (b d:β) (hl:l.length<1000000000) (h0:step (enc l.length)=some (.inr d))
 (h1:∀i x,l[i]?=some x→step (enc i)=bif p i x then some (.inl (enc (i+1))) else some (.inr b)):zah step (enc 0)=some (bif zch p 0 l then d else b):=by
 have h:=zdq (step:=step) (fun i (_:Unit)=>enc i) l (fun i x _=>if p i x then .inl () else .inr b) (fun _=>d) (by show l.length<18446744073709551616;omega) (fun _=>h0)
  (fun i x _ hx=>by rw[h1 i x hx];cases p i x<;>rfl) ()
 rw[h]
 have key:∀(l:List X) (i:Nat),zex (σ:=Unit) (fun i x _=>if p i x then .inl () else .inr b) (fun _=>d) i l ()=bif zch p i l then d else b:=by
  intro l
  induction l with
  |nil=>intro i;rfl
  |cons x l ih=>
   intro i
   simp only[zex,zch]
   cases p i x with
   |true=>exact ih _
   |false=>rfl
 rw[key]
theorem zbu {p:X→Bool}:∀{l:List X} {i:Nat},zch (fun _=>p) i l=l.all p:=by
 intro l
 induction l with
 |nil=>intros;rfl
 |cons x l ih=>intro i;simp only[zch,List.all_cons];rw[ih]
theorem zy8 {p:Nat→X→Bool}:∀{l:List X} {i:Nat},zch p i l=true↔∀k x,l[k]?=some x→p (i+k) x=true:=by
 intro l
 induction l with
 |nil=>intro i;simp[zch]
 |cons y l ih=>
  intro i
  simp only[zch,Bool.and_eq_true]
  rw[ih]
  constructor
  ·rintro ⟨h0,h⟩ k x hk
   cases k with
   |zero=>simp at hk;subst hk;exact h0
   |succ k=>have:=h k x (by simpa using hk);rwa [show i+(k+1)=i+1+k by omega]
  ·intro h
   exact ⟨h 0 y rfl,fun k x hk=>by have:=h (k+1) x (by simpa using hk);rwa [show i+(k+1)=i+1+k by omega]at this⟩
theorem zf0 (enc:Nat→σ→α) (l:List X) (f:X→σ→σ) (fin:σ→β) (hl:l.length<1000000000) (h0:∀s,step (enc l.length s)=some (.inr (fin s)))
 (h1:∀i x s,l[i]?=some x→step (enc i s)=some (.inl (enc (i+1) (f x s)))) (s:σ):zah step (enc 0 s)=some (fin (l.foldl (fun s x=>f x s) s)):=by
 have h:=zdq (step:=step) enc l (fun i x s=>.inl (f x s)) fin (by show l.length<18446744073709551616;omega) h0 (fun i x s hx=>by rw[h1 i x s hx]) s
 rw[h,zfk]
end
def zb6 {X:Type} (l:List X) (i:Nat) (f:X→Bool):Bool:=match i with
 |0=>false
 |j+1=>match l[j]? with|some y=>f y|none=>false
theorem zdr {n:Int} (h1 : -9223372036854775808≤n) (h2:n≤9223372036854775807):wr .i64 n=n:=by
 unfold wr;rw[IntKind.wrap_i64];omega
theorem zat {n:Nat} (h:n<9223372036854775807):wr .i64 ((n:Int)+1)=((n+1:Nat):Int):=by
 rw[zdr (by omega) (by omega)];rfl
theorem zg8 {j:Nat} (h:j<1000000000):wr .i64 (((j+1:Nat):Int)-1)=(j:Int):=by
 rw[show ((j+1:Nat):Int)-1=(j:Int) by omega]
 exact zdr (by omega) (by omega)
theorem dpos {j:Nat}:decide ((0:Int)<((j+1:Nat):Int))=true:=by rw[decide_eq_true_eq];omega
theorem z1r:decide ((0:Int)<((0:Nat):Int))=false:=rfl
theorem zaq {α:Type} (l:List α) (i:Nat):getI l (i:Int)=l[i]?:=by
 unfold getI;simp
theorem zkk:LIM=1073741824:=rfl
theorem zlz:FUEL=18446744073709551616:=rfl
end Go.Proofs.YtpaidiaknfhclaaGreatDoor
namespace Go.Proofs.YtpaidiaknfhclaaGreatDoor
open Ev
open Go (IntKind)
theorem dlt {i n:Nat} (h:i<n):decide ((i:Int)<(n:Int))=true:=by simpa using h
theorem dge {n:Nat}:decide ((n:Int)<(n:Int))=false:=by simp
theorem k_or {α:Type} (k:Bool→α) (a b:Bool):(bif a then k true else k b)=k (a||b):=by cases a<;>rfl
theorem zb3 {α:Type} (k:Bool→α) (a b:Bool):(bif a then k b else k false)=k (a&&b):=by cases a<;>rfl
theorem zmw {α:Type} (k:Bool→α) (a b:Bool):(bif a then k a else k b)=k (a||b):=by cases a<;>rfl
theorem zck {α:Type} (c:Bool) (a b:α):(bif c then some a else some b)=some (bif c then a else b):=by cases c<;>rfl
theorem zarf (b:UInt8):wr .i64 (b.toNat:Int)=(b.toNat:Int):=by
 have:=b.toNat_lt
 exact zdr (by omega) (by omega)
def dcdI (r:List UInt8):Int×Int:=(((dcd r).1:Int),((dcd r).2:Int))
theorem z4h {s:List UInt8} {i:Nat} (hi:i<s.length) (hs:s.length<1000000000):qbm s (i:Int)=some (dcdI (s.drop i)):=by
 obtain ⟨a,r,hr⟩:∃a r,s.drop i=a::r:=⟨s[i],s.drop (i+1),List.drop_eq_getElem_cons hi⟩
 have g:∀k,getI s ((i+k:Nat):Int)=(a::r)[k]?:=fun k=>by rw[zaq,←hr,List.getElem?_drop]
 have h0:getI s (i:Int)=some a:=g 0
 have w1:wr .i64 ((i:Int)+1)=((i+1:Nat):Int):=zat (by omega)
 have w2:wr .i64 ((i:Int)+2)=((i+2:Nat):Int):=by rw[zdr (by omega) (by omega)];rfl
 have hl:s.length=i+(r.length+1):=by
  have:=congrArg List.length hr
  simp only[List.length_drop,List.length_cons]at this
  omega
 have ha:=a.toNat_lt
 unfold qbm
 rw[hr]
 unfold dcdI dcd
 have t1:decide (((i+1:Nat):Int)<((i+(r.length+1):Nat):Int))=decide (0<r.length):=by congr 1;simp only[eq_iff_iff];omega
 have t2:decide (((i+2:Nat):Int)<((i+(r.length+1):Nat):Int))=decide (1<r.length):=by congr 1;simp only[eq_iff_iff];omega
 simp -zeta only[h0,w1,w2,g 1,g 2,zarf,k_or,zb3,hl,t1,t2]
 dsimp only
 clear hl t1 t2 g hr hi h0 w1 w2 hs
 by_cases c1:32≤a.toNat∧a.toNat<127
 ·have e1:(decide ((32:Int)≤(a.toNat:Int))&&decide ((a.toNat:Int)<127))=true:=by simp;omega
  simp only[e1,cond_true,if_pos c1];rfl
 have e1:(decide ((32:Int)≤(a.toNat:Int))&&decide ((a.toNat:Int)<127))=false:=by simp;omega
 simp only[e1,cond_false,if_neg c1]
 by_cases c2:194≤a.toNat∧a.toNat<224
 ·have e2:(decide ((194:Int)≤(a.toNat:Int))&&decide ((a.toNat:Int)<224))=true:=by simp;omega
  have e3:decide ((224:Int)≤(a.toNat:Int))=false:=by simp;omega
  simp only[e2,e3,Bool.true_and,Bool.false_and,cond_false,if_pos c2]
  rcases r with _|⟨b,r⟩
  ·rfl
  have hb:=b.toNat_lt
  have l1:decide (0<(b::r).length)=true:=by simp
  have g1:(a::b::r)[1]?=some b:=rfl
  have e4:wr .i64 ((wr .i64 ((wr .i64 ((wr .i64 ((a.toNat:Int)-192))*64))+(b.toNat:Int)))-128)=((a.toNat:Int)-192)*64+(b.toNat:Int)-128:=by
   rw[zdr (n:=(a.toNat:Int)-192) (by omega) (by omega),zdr (n:=((a.toNat:Int)-192)*64) (by omega) (by omega),zdr (n:=((a.toNat:Int)-192)*64+(b.toNat:Int)) (by omega) (by omega),zdr (by omega) (by omega)]
  simp only[l1,g1,e4,cond_true]
  by_cases cb:128≤b.toNat
  ·have b1:decide ((128:Int)≤(b.toNat:Int))=true:=by simp;omega
   simp only[b1,cond_true]
   by_cases cb2:b.toNat<192
   ·have b2:decide ((b.toNat:Int)<192)=true:=by simp;omega
    simp only[b2,g1,cond_true,Bool.cond_eq_ite,decide_eq_true_eq]
    rw[if_pos True.intro]
    split
    ·rw[if_pos (by omega)];simp only[Option.some.injEq,Prod.mk.injEq];omega
    ·rw[if_neg (by omega)];rfl
   ·have b2:decide ((b.toNat:Int)<192)=false:=by simp;omega
    simp only[b2,cond_false]
    rw[if_neg (by omega)];rfl
  ·have b1:decide ((128:Int)≤(b.toNat:Int))=false:=by simp;omega
   simp only[b1,cond_false]
   rw[if_neg (by omega)];rfl
 have e2:(decide ((194:Int)≤(a.toNat:Int))&&decide ((a.toNat:Int)<224))=false:=by simp;omega
 simp only[e2,Bool.false_and,cond_false,if_neg c2]
 by_cases c3:224≤a.toNat∧a.toNat<240
 ·have e3:(decide ((224:Int)≤(a.toNat:Int))&&decide ((a.toNat:Int)<240))=true:=by simp;omega
  simp only[e3,Bool.true_and,if_pos c3]
  rcases r with _|⟨b,_|⟨c,r⟩⟩
  ·rfl
  ·rfl
  have hb:=b.toNat_lt
  have hc:=c.toNat_lt
  have l1:decide (1<(b::c::r).length)=true:=by simp
  have g1:(a::b::c::r)[1]?=some b:=rfl
  have g2:(a::b::c::r)[2]?=some c:=rfl
  have e4:wr .i64 ((wr .i64 ((wr .i64 ((wr .i64 ((wr .i64 ((a.toNat:Int)-224))*4096))+(wr .i64 ((wr .i64 ((b.toNat:Int)-128))*64))))+(c.toNat:Int)))-128)=((a.toNat:Int)-224)*4096+((b.toNat:Int)-128)*64+(c.toNat:Int)-128:=by
   rw[zdr (n:=(a.toNat:Int)-224) (by omega) (by omega),zdr (n:=((a.toNat:Int)-224)*4096) (by omega) (by omega),zdr (n:=(b.toNat:Int)-128) (by omega) (by omega),zdr (n:=((b.toNat:Int)-128)*64) (by omega) (by omega),
    zdr (n:=((a.toNat:Int)-224)*4096+((b.toNat:Int)-128)*64) (by omega) (by omega),zdr (n:=((a.toNat:Int)-224)*4096+((b.toNat:Int)-128)*64+(c.toNat:Int)) (by omega) (by omega),zdr (by omega) (by omega)]
  simp only[l1,g1,g2,e4,cond_true]
  by_cases cb:128≤b.toNat
  ·have b1:decide ((128:Int)≤(b.toNat:Int))=true:=by simp;omega
   simp only[b1,cond_true]
   by_cases cb2:b.toNat<192
   ·have b2:decide ((b.toNat:Int)<192)=true:=by simp;omega
    simp only[b2,cond_true]
    by_cases cc:128≤c.toNat
    ·have d1:decide ((128:Int)≤(c.toNat:Int))=true:=by simp;omega
     simp only[d1,cond_true]
     by_cases cc2:c.toNat<192
     ·have d2:decide ((c.toNat:Int)<192)=true:=by simp;omega
      simp only[d2,g1,g2,cond_true,Bool.cond_eq_ite,Bool.and_eq_true,Bool.or_eq_true,decide_eq_true_eq]
      rw[if_pos True.intro]
      split
      ·rw[if_pos (by omega)];simp only[Option.some.injEq,Prod.mk.injEq];omega
      ·rw[if_neg (by omega)];rfl
     ·have d2:decide ((c.toNat:Int)<192)=false:=by simp;omega
      simp only[d2,cond_false]
      rw[if_neg (by omega)];rfl
    ·have d1:decide ((128:Int)≤(c.toNat:Int))=false:=by simp;omega
     simp only[d1,cond_false]
     rw[if_neg (by omega)];rfl
   ·have b2:decide ((b.toNat:Int)<192)=false:=by simp;omega
    simp only[b2,cond_false]
    rw[if_neg (by omega)];rfl
  ·have b1:decide ((128:Int)≤(b.toNat:Int))=false:=by simp;omega
   simp only[b1,cond_false]
   rw[if_neg (by omega)];rfl
 ·have e3:(decide ((224:Int)≤(a.toNat:Int))&&decide ((a.toNat:Int)<240))=false:=by simp;omega
  simp only[e3,Bool.false_and,cond_false,if_neg c3];rfl
theorem zaem (l:List UInt8):(dcd l).2≤l.length:=by
 unfold dcd
 split
 ·simp
 ·rename_i a r
  split
  ·simp
  ·split
   ·split
    ·split<;>simp
    ·simp
   ·split
    ·split
     ·split<;>simp
     ·simp
    ·simp
theorem z7w (n:Nat) {s:List UInt8} {i:Nat} (hi:i<s.length):vldN (n+1) (s.drop i)=if (dcd (s.drop i)).2=0 then false else vldN n (s.drop (i+(dcd (s.drop i)).2)):=by
 have:s.drop i≠[]:=by simp;omega
 simp only[vldN,this,if_false,List.drop_drop]
theorem zafp {s:List UInt8} (hs:s.length<1000000000):qae s=some (vld s):=by
 have key:∀n i,s.length-i≤n→i≤s.length→zci zlf (n+1) (s,(i:Int),())=some (if vldN n (s.drop i) then .inl () else .inr (false,())):=by
  intro n
  induction n with
  |zero=>
   intro i h1 h2
   have:i=s.length:=by omega
   subst this
   simp only[zci,zlf,dge,cond_false,vldN,if_true]
  |succ n ih=>
   intro i h1 h2
   rw[zci]
   by_cases hi:i<s.length
   ·rw[z7w n hi]
    have hle:=zaem (s.drop i)
    rw[List.length_drop]at hle
    simp only[zlf,dlt hi,cond_true,z4h hi hs,dcdI]
    by_cases h0:(dcd (s.drop i)).2=0
    ·simp[h0]
    ·have hb:(((dcd (s.drop i)).2:Int)==0)=false:=by simp;omega
     have hw:wr .i64 ((i:Int)+((dcd (s.drop i)).2:Int))=((i+(dcd (s.drop i)).2:Nat):Int):=by rw[zdr (by omega) (by omega)];rfl
     simp only[hb,cond_false,hw,h0,if_false]
     exact ih _ (by omega) (by omega)
   ·have:i=s.length:=by omega
    subst this
    simp[zlf,vldN]
 unfold qae
 have:=key s.length 0 (by omega) (by omega)
 rw[show ((0:Int))=((0:Nat):Int) from rfl,zen (s.length+1) (by rw[zlz];omega) this]
 simp only[List.drop_zero]
 unfold vld
 cases vldN s.length s<;>rfl
theorem zaxd {s:List UInt8} {i:Nat} (hi:i<s.length) (hs:s.length<1000000000):qe s (i:Int)=some ((wid (s.drop i):Nat):Int):=by
 unfold qe wid
 rw[z4h hi hs]
 show some (if (((dcd (s.drop i)).2:Nat):Int)<1 then (1:Int) else (((dcd (s.drop i)).2:Nat):Int))=_
 rw[Option.some.injEq]
 by_cases h:(dcd (s.drop i)).2<1
 ·rw[if_pos h,if_pos (by omega)];rfl
 ·rw[if_neg h,if_neg (by omega)]
theorem zaw0 {l:List UInt8} (h:l≠[]):1≤wid l∧wid l≤l.length:=by
 have:=zaem l
 have:0<l.length:=List.length_pos_iff.2 h
 unfold wid
 split<;>omega
theorem zzx (n:Nat) {s:List UInt8} {i:Nat} (hi:i<s.length) {out:List UInt8} {gap:Bool}:clnN (n+1) (s.drop i) out gap =
 if blk (dcd (s.drop i)).1 then clnN n (s.drop (i+wid (s.drop i))) out true else clnN n (s.drop (i+wid (s.drop i))) ((if gap&&!(out==[]) then out++[32] else out)++(s.drop i).take (wid (s.drop i))) false:=by
 have:s.drop i≠[]:=by simp;omega
 rw[clnN,if_neg this,List.drop_drop]
theorem zavi {s:List UInt8} (hs:s.length<100000000):qaz s=some (cln s):=by
 have key:∀n i (out:List UInt8) (gap:Bool),s.length-i≤n→i≤s.length→out.length≤2*i→zci zln (n+1) (s,out,gap,(i:Int),())=some (clnN n (s.drop i) out gap,()):=by
  intro n
  induction n with
  |zero=>
   intro i out gap h1 h2 h3
   have:i=s.length:=by omega
   subst this
   simp only[zci,zln,dge,cond_false,clnN]
  |succ n ih=>
   intro i out gap h1 h2 h3
   rw[zci]
   by_cases hi:i<s.length
   ·rw[zzx n hi]
    have hw0:=zaw0 (l:=s.drop i) (by simp;omega)
    rw[List.length_drop]at hw0
    obtain ⟨k,hk⟩:∃k,wid (s.drop i)=k:=⟨_,rfl⟩
    rw[hk]at hw0 ⊢
    have hw:wr .i64 ((i:Int)+(k:Int))=((i+k:Nat):Int):=by rw[zdr (by omega) (by omega)];rfl
    have hb:qag ((dcd (s.drop i)).1:Int)=some (blk (dcd (s.drop i)).1):=by
     unfold qag
     simp -zeta only[k_or]
     simp only[Option.some.injEq,blk]
     rw[Bool.eq_iff_iff];simp;omega
    simp only[zln,dlt hi,cond_true,z4h hi (show s.length<1000000000 by omega),zaxd hi (show s.length<1000000000 by omega),dcdI,hb,hk,hw]
    cases blk (dcd (s.drop i)).1 with
    |true=>simp only[cond_true,if_true];exact ih _ _ _ (by omega) (by omega) (by omega)
    |false=>
     have hc:(decide ((0:Int)≤(i:Int))&&(decide ((i:Int)≤((i+k:Nat):Int))&&decide (((i+k:Nat):Int)≤(s.length:Int))))=true:=by simp;omega
     have ht:(s.take (i+k)).drop i=(s.drop i).take k:=by rw[List.drop_take];congr 1;omega
     simp only[cond_false,hc,cond_true,Int.toNat_natCast,ht,Bool.false_eq_true,if_false]
     have hlen:∀o:List UInt8,o.length≤2*i+1→decide (o.length+((s.drop i).take k).length≤LIM)=true:=fun o ho=>by
      rw[zkk];simp only[List.length_take,List.length_drop,decide_eq_true_eq];omega
     cases hg:(gap&&!(out==[])) with
     |true=>
      simp only[Bool.and_eq_true,Bool.not_eq_true']at hg
      have h32:decide (out.length+([32]:List Nat).length≤LIM)=true:=by rw[zkk];simp;omega
      simp only[hg.1,hg.2,hc,ht,Int.toNat_natCast,cond_true,Bool.not_false,h32,hlen (out++[32]) (by simp;omega),if_true]
      exact ih _ _ _ (by omega) (by omega) (by simp;omega)
     |false=>
      cases gap with
      |false=>
       simp only[cond_false,hlen out (by omega),cond_true,Bool.false_eq_true,if_false]
       exact ih _ _ _ (by omega) (by omega) (by simp;omega)
      |true=>
       simp only[Bool.true_and]at hg
       simp only[cond_true,hg,cond_false,hlen out (by omega),Bool.false_eq_true,if_false]
       exact ih _ _ _ (by omega) (by omega) (by simp;omega)
   ·have:i=s.length:=by omega
    subst this
    simp[zln,clnN]
 unfold qaz
 have:=key s.length 0 [] false (by omega) (by omega) (by simp)
 rw[show ((0:Int))=((0:Nat):Int) from rfl,zen (s.length+1) (by rw[zlz];omega) this]
 try rfl
end Go.Proofs.YtpaidiaknfhclaaGreatDoor
namespace Go.Proofs.YtpaidiaknfhclaaGreatDoor
open Ev
open Go (IntKind)
def rng (lo hi n:Int):Bool:=decide (lo≤n)&&decide (n≤hi)
theorem zaf8 (n:Int):qe2 n=some (rng 0 109572 n):=by
 unfold qe2
 simp -zeta only[k_or,zb3]
 try rfl
theorem zavs (n:Int):qeq n=some (rng 0 109572 n):=by
 unfold qeq
 simp -zeta only[k_or,zb3]
 try rfl
theorem zavo (n:Int):qd6 n=some (rng 1 9999 n):=by
 unfold qd6
 simp -zeta only[k_or,zb3]
 try rfl
theorem zavl (n lo hi:Int):qbg n lo hi=some (rng lo hi n):=by
 unfold qbg
 simp -zeta only[k_or,zb3]
 try rfl
def zd7 (l:List Charge) (i:Nat) (x:Charge):Int:=
 bif zb6 l i (fun y=>decide (x.ID≤y.ID)) then 7
 else bif decide (x.ID<1)||decide (99999<x.ID)||decide (x.Patron<1)||decide (9999<x.Patron)||decide (x.Item<1)||decide (9999<x.Item)||!(rng 0 109572 x.Day) then 2
 else bif decide (x.Kind<1)||decide (3<x.Kind) then 1
 else bif decide (x.Amount<1)||decide (100000000<x.Amount)||decide (x.Paid<0)||decide (x.Amount≤x.Paid) then 2 else 0
def zd9 (l:List Charge):Int:=bif decide (128<(l.length:Int)) then 13 else zb2 (zd7 l) 0 l
theorem zx4 {l:List Charge} (hl:l.length<1000000000):zah zjf (l,0,())=some (if zb2 (zd7 l) 0 l==0 then .inl () else .inr (zb2 (zd7 l) 0 l,())):=by
 have h:=zem (step:=zjf) (fun i=>(l,(i:Int),())) l (zd7 l) (.inl ()) (fun e=>.inr (e,())) hl
  (by simp only[zjf,dge,cond_false])
  (fun i x hx=>by
   have hi:=(List.getElem?_eq_some_iff.1 hx).1
   have hxm:=List.mem_of_getElem? hx
   unfold zd7
   simp only[zdm]
   rcases i with _|j
   ·simp -zeta only[zjf,dlt hi,zaq,hx,k_or,zb3,z1r,cond_false,cond_true,zb6,zat (show 0<9223372036854775807 by omega),zaf8]
    try rfl
   ·have hj:l[j]?=some l[j]:=List.getElem?_eq_getElem (by omega)
    simp -zeta only[zjf,dlt hi,zaq,hx,k_or,zb3,dpos,zg8 (show j<1000000000 by omega),hj,cond_false,cond_true,zb6,zat (show j+1<9223372036854775807 by omega),zaf8]
    rfl)
 exact h
theorem zavh {l:List Charge} (hl:l.length<1000000000):qay l=some (zd9 l):=by
 unfold qay zd9
 rw[zx4 hl]
 generalize zb2 (zd7 l) 0 l=e
 cases decide (128<(l.length:Int)) with
 |true=>rfl
 |false=>
  by_cases h:e=0
  ·subst h;rfl
  ·have h2:(e==0)=false:=by simpa using h
   simp only[h2,Bool.false_eq_true,if_false,cond_false]
def zeg (l:List Patron) (i:Nat) (x:Patron):Int:=
 bif decide (x.ID<1)||decide (9999<x.ID) then 2
 else bif zb6 l i (fun y=>decide (x.ID≤y.ID)) then 7
 else bif decide (x.Kind<1)||decide (9<x.Kind)||decide (x.Branch<1)||decide (4<x.Branch) then 1
 else bif decide (x.Until<0)||decide (109572<x.Until) then 2
 else bif x.Name==[]||!(vld x.Name)||!(cln x.Name==x.Name) then 3
 else bif decide (200<(x.Name.length:Int)) then 4 else 0
def zeh (l:List Patron):Int:=bif decide (32<(l.length:Int)) then 13 else zb2 (zeg l) 0 l
theorem zx3 {l:List Patron} (hl:l.length<1000000000) (hn:∀x∈l,x.Name.length<10000000):zah zje (l,0,())=some (if zb2 (zeg l) 0 l==0 then .inl () else .inr (zb2 (zeg l) 0 l,())):=by
 have h:=zem (step:=zje) (fun i=>(l,(i:Int),())) l (zeg l) (.inl ()) (fun e=>.inr (e,())) hl
  (by simp only[zje,dge,cond_false])
  (fun i x hx=>by
   have hi:=(List.getElem?_eq_some_iff.1 hx).1
   have hxm:=List.mem_of_getElem? hx
   have hv:=zafp (s:=x.Name) (by have:=hn x hxm;omega)
   have hc:=zavi (s:=x.Name) (by have:=hn x hxm;omega)
   unfold zeg
   simp only[zdm]
   rcases i with _|j
   ·simp -zeta only[zje,dlt hi,zaq,hx,k_or,zb3,z1r,cond_false,cond_true,zb6,zat (show 0<9223372036854775807 by omega),hv,hc]
    try rfl
   ·have hj:l[j]?=some l[j]:=List.getElem?_eq_getElem (by omega)
    simp -zeta only[zje,dlt hi,zaq,hx,k_or,zb3,dpos,zg8 (show j<1000000000 by omega),hj,cond_false,cond_true,zb6,zat (show j+1<9223372036854775807 by omega),hv,hc]
    rfl)
 exact h
theorem zavd {l:List Patron} (hl:l.length<1000000000) (hn:∀x∈l,x.Name.length<10000000):qao l=some (zeh l):=by
 unfold qao zeh
 rw[zx3 hl hn]
 generalize zb2 (zeg l) 0 l=e
 cases decide (32<(l.length:Int)) with
 |true=>rfl
 |false=>
  by_cases h:e=0
  ·subst h;rfl
  ·have h2:(e==0)=false:=by simpa using h
   simp only[h2,Bool.false_eq_true,if_false,cond_false]
def zg2 (l:List Loan) (i:Nat) (x:Loan):Int:=
 bif zb6 l i (fun y=>decide (x.Item≤y.Item)) then 7
 else bif decide (x.Item<1)||decide (9999<x.Item)||decide (x.Patron<1)||decide (9999<x.Patron)||decide (x.Out<0)||decide (109572<x.Out)||decide (x.Due<0)||decide (109572<x.Due)||decide (x.Due<x.Out)||decide (x.Renewals<0)||decide (10<x.Renewals) then 2 else 0
def zgk (l:List Loan):Int:=bif decide (64<(l.length:Int)) then 13 else zb2 (zg2 l) 0 l
theorem zx2 {l:List Loan} (hl:l.length<1000000000):zah zjd (l,0,())=some (if zb2 (zg2 l) 0 l==0 then .inl () else .inr (zb2 (zg2 l) 0 l,())):=by
 have h:=zem (step:=zjd) (fun i=>(l,(i:Int),())) l (zg2 l) (.inl ()) (fun e=>.inr (e,())) hl
  (by simp only[zjd,dge,cond_false])
  (fun i x hx=>by
   have hi:=(List.getElem?_eq_some_iff.1 hx).1
   have hxm:=List.mem_of_getElem? hx
   unfold zg2
   simp only[zdm]
   rcases i with _|j
   ·simp -zeta only[zjd,dlt hi,zaq,hx,k_or,zb3,z1r,cond_false,cond_true,zb6,zat (show 0<9223372036854775807 by omega)]
    try rfl
   ·have hj:l[j]?=some l[j]:=List.getElem?_eq_getElem (by omega)
    simp -zeta only[zjd,dlt hi,zaq,hx,k_or,zb3,dpos,zg8 (show j<1000000000 by omega),hj,cond_false,cond_true,zb6,zat (show j+1<9223372036854775807 by omega)]
    rfl)
 exact h
theorem zavc {l:List Loan} (hl:l.length<1000000000):qan l=some (zgk l):=by
 unfold qan zgk
 rw[zx2 hl]
 generalize zb2 (zg2 l) 0 l=e
 cases decide (64<(l.length:Int)) with
 |true=>rfl
 |false=>
  by_cases h:e=0
  ·subst h;rfl
  ·have h2:(e==0)=false:=by simpa using h
   simp only[h2,Bool.false_eq_true,if_false,cond_false]
def zbn (h:Hold):Int:=
 bif decide (h.ID<1)||decide (99999<h.ID)||!(rng 1 9999 h.Patron)||!(rng 1 9999 h.Record)||!(h.Item==0)&&!(rng 1 9999 h.Item)||decide (h.Pickup<1)||decide (4<h.Pickup)||!(rng 0 109572 h.Placed)||!(h.Got==0)&&!(rng 1 9999 h.Got)||!(rng 0 109572 h.Until)||!(rng 0 109572 h.Asleep)||decide (h.Rank<0)||decide (9<h.Rank) then 2
 else bif decide (h.State<1)||decide (3<h.State) then 1
 else bif !((decide (0<h.Got))==(!(h.State==1)))||!((decide (0<h.Until))==(h.State==3)) then 12 else 0
theorem zaf6 (h:Hold):qdi h=some (zbn h):=by
 unfold qdi zbn
 simp -zeta only[k_or,zb3,zavo,zavs,←zck]
 try rfl
def zcq (l:List Hold) (i:Nat) (x:Hold):Int:=
 bif zb6 l i (fun y=>decide (x.ID≤y.ID)) then 7 else bif !(zbn x==0) then zbn x else 0
theorem z4p {l:List Hold} (hl:l.length<1000000000):zah zr7 (l,0,())=some (if zb2 (zcq l) 0 l==0 then .inl (l,()) else .inr (zb2 (zcq l) 0 l,())):=by
 have h:=zem (step:=zr7) (fun i=>(l,(i:Int),())) l (zcq l) (.inl (l,())) (fun e=>.inr (e,())) hl
  (by simp only[zr7,dge,cond_false])
  (fun i x hx=>by
   have hi:=(List.getElem?_eq_some_iff.1 hx).1
   have hxm:=List.mem_of_getElem? hx
   have hs:∀(a:List Hold×Int×Unit) (g:Int→((List Hold×Unit)⊕(Int×Unit))),(bif !(zbn x==0) then zhc a g (zbn x) else zhc a g 0)=bif !(zbn x==0) then some (.inr (g (zbn x))) else some (.inl a):=fun a g=>by
    unfold zhc
    cases zbn x==0<;>rfl
   unfold zcq
   simp only[zdm,hs]
   rcases i with _|j
   ·simp -zeta only[zr7,dlt hi,zaq,hx,k_or,zb3,z1r,cond_false,cond_true,zb6,zat (show 0<9223372036854775807 by omega),zaf6]
    try rfl
   ·have hj:l[j]?=some l[j]:=List.getElem?_eq_getElem (by omega)
    simp -zeta only[zr7,dlt hi,zaq,hx,k_or,zb3,dpos,zg8 (show j<1000000000 by omega),hj,cond_false,cond_true,zb6,zat (show j+1<9223372036854775807 by omega),zaf6]
    rfl)
 exact h
def zed (x y:Hold):Bool:=x.Patron==y.Patron&&x.Record==y.Record||decide (0<x.Got)&&x.Got==y.Got
theorem zx8 {l:List Hold} {i:Nat} {x:Hold} (hl:l.length<1000000000) (hx:l[i]?=some x):zah zjk (l,(i:Int),0,())=some (bif (l.take i).all (fun y=>!(zed x y)) then .inl (l,(i:Int),()) else .inr (7,())):=by
 have hi:=(List.getElem?_eq_some_iff.1 hx).1
 have h:=za3 (step:=zjk) (fun k=>(l,(i:Int),(k:Int),())) (l.take i) (fun _ y=>!(zed x y)) (.inr (7,())) (.inl (l,(i:Int),())) (by rw[List.length_take];omega)
  (by rw[List.length_take,Nat.min_eq_left (by omega)];simp only[zjk,dge,cond_false])
  (fun k y hy=>by
   have hk:=(List.getElem?_eq_some_iff.1 hy).1
   rw[List.length_take]at hk
   have hy2:l[k]?=some y:=by rw[←hy,List.getElem?_take_of_lt (by omega)]
   simp -zeta only[zjk,dlt (show k<i by omega),zaq,hx,hy2,k_or,zb3,cond_true,zat (show k<9223372036854775807 by omega)]
   dsimp only
   unfold zed
   cases (x.Patron==y.Patron&&x.Record==y.Record||decide (0<x.Got)&&x.Got==y.Got)<;>rfl)
 rw[show zah zjk (l,(i:Int),0,())=_ from h,zbu]
def zg0 (l:List Hold):Bool:=zch (fun i x=>(l.take i).all (fun y=>!(zed x y))) 0 l
theorem zx7 {l:List Hold} (hl:l.length<1000000000):zah zlr (l,0,())=some (bif zg0 l then .inl () else .inr (7,())):=by
 have h:=za3 (step:=zlr) (fun i=>(l,(i:Int),())) l (fun i x=>(l.take i).all (fun y=>!(zed x y))) (.inr (7,())) (.inl ()) hl
  (by simp only[zlr,dge,cond_false])
  (fun i x hx=>by
   have hi:=(List.getElem?_eq_some_iff.1 hx).1
   simp only[zlr,dlt hi,cond_true,zx8 hl hx]
   cases (l.take i).all (fun y=>!(zed x y)) with
   |true=>simp only[cond_true,zat (show i<9223372036854775807 by omega)]
   |false=>rfl)
 exact h
def zdc (l:List Hold):Int:=bif decide (64<(l.length:Int)) then 13 else bif zb2 (zcq l) 0 l==0 then (bif zg0 l then 0 else 7) else zb2 (zcq l) 0 l
theorem zaxf {l:List Hold} (hl:l.length<1000000000):qn l=some (zdc l):=by
 unfold qn zdc
 rw[z4p hl]
 cases decide (64<(l.length:Int)) with
 |true=>rfl
 |false=>
  by_cases h:zb2 (zcq l) 0 l=0
  ·simp only[h,beq_self_eq_true,if_true,cond_false,cond_true,zx7 hl]
   cases zg0 l<;>rfl
  ·have:(zb2 (zcq l) 0 l==0)=false:=by simpa using h
   simp only[this,Bool.false_eq_true,if_false,cond_false]
def zlv (r:Rule):Bool:=rng 0 9 r.Patron&&rng 0 9 r.Item&&rng 0 4 r.Branch&&(rng 0 365 r.Days&&rng 0 10 r.Renewals&&rng 0 99 r.Loans)&&(rng 0 1000 r.Fine&&rng 0 30 r.Grace&&rng 0 100000000 r.MaxFine)&&rng 1 60 r.Shelf&&rng 1 60 r.Recall&&rng 0 109572 r.Fixed&&rng 0 9 r.Rank
theorem zavm (r:Rule):qc0 r=some (zlv r):=by
 unfold qc0 zlv
 simp -zeta only[k_or,zb3,zavl]
 try rfl
def zgp (x y:Rule):Bool:=x.Patron==y.Patron&&x.Item==y.Item&&x.Branch==y.Branch
def zfy (l:List Rule) (i:Nat) (x:Rule):Int:=bif !(zlv x) then 2 else bif (l.take i).all (fun y=>!(zgp y x)) then 0 else 7
theorem z4o {l:List Rule} {i:Nat} {x:Rule} (hl:l.length<1000000000) (hx:l[i]?=some x):zah zr6 (l,(i:Int),0,())=some (bif (l.take i).all (fun y=>!(zgp y x)) then .inl (l,(i:Int),()) else .inr (7,())):=by
 have hi:=(List.getElem?_eq_some_iff.1 hx).1
 have h:=za3 (step:=zr6) (fun k=>(l,(i:Int),(k:Int),())) (l.take i) (fun _ y=>!(zgp y x)) (.inr (7,())) (.inl (l,(i:Int),())) (by rw[List.length_take];omega)
  (by rw[List.length_take,Nat.min_eq_left (by omega)];simp only[zr6,dge,cond_false])
  (fun k y hy=>by
   have hk:=(List.getElem?_eq_some_iff.1 hy).1
   rw[List.length_take]at hk
   have hy2:l[k]?=some y:=by rw[←hy,List.getElem?_take_of_lt (by omega)]
   simp -zeta only[zr6,dlt (show k<i by omega),zaq,hx,hy2,k_or,zb3,cond_true,zat (show k<9223372036854775807 by omega)]
   dsimp only
   unfold zgp
   cases (y.Patron==x.Patron&&y.Item==x.Item&&y.Branch==x.Branch)<;>rfl)
 rw[show zah zr6 (l,(i:Int),0,())=_ from h,zbu]
theorem z4n {l:List Rule} (hl:l.length<1000000000):zah zx6 (l,0,())=some (if zb2 (zfy l) 0 l==0 then .inl () else .inr (zb2 (zfy l) 0 l,())):=by
 have h:=zem (step:=zx6) (fun i=>(l,(i:Int),())) l (zfy l) (.inl ()) (fun e=>.inr (e,())) hl
  (by simp only[zx6,dge,cond_false])
  (fun i x hx=>by
   have hi:=(List.getElem?_eq_some_iff.1 hx).1
   unfold zfy
   simp only[zdm,zx6,dlt hi,zaq,hx,cond_true,zavm,z4o hl hx]
   cases zlv x with
   |false=>rfl
   |true=>
    simp only[Bool.not_true,cond_false]
    cases (l.take i).all (fun y=>!(zgp y x)) with
    |true=>simp only[cond_true,zat (show i<9223372036854775807 by omega)];rfl
    |false=>rfl)
 exact h
def zfj (l:List Rule):Int:=bif decide (32<(l.length:Int)) then 13 else zb2 (zfy l) 0 l
theorem zaxe {l:List Rule} (hl:l.length<1000000000):qm l=some (zfj l):=by
 unfold qm zfj
 rw[z4n hl]
 generalize zb2 (zfy l) 0 l=e
 cases decide (32<(l.length:Int)) with
 |true=>rfl
 |false=>
  by_cases h:e=0
  ·subst h;rfl
  ·have h2:(e==0)=false:=by simpa using h
   simp only[h2,Bool.false_eq_true,if_false,cond_false]
def incr (l:List Int):Bool:=zch (fun i x=>!(zb6 l i (fun y=>decide (x≤y)))) 0 l
theorem zqo {X:Type} {p:Nat→X→Bool}:∀{l:List X} {i:Nat},zch p (i+1) l=zch (fun i=>p (i+1)) i l:=by
 intro l
 induction l with
 |nil=>intros;rfl
 |cons x l ih=>intro i;simp only[zch];rw[ih]
theorem z2a (l:List Int):incr l=zch (fun i x=>!(zb6 l (i+1) (fun y=>decide (x≤y)))) 0 l.tail:=by
 cases l with
 |nil=>rfl
 |cons x l=>
  unfold incr
  simp only[zch,List.tail_cons]
  rw[zqo]
  try rfl
def zb5 (c:Calendar):Int:=
 bif decide (c.Week<0)||decide (126<c.Week) then 1
 else bif decide (64<(c.Closed.length:Int)) then 13
 else bif c.Closed.all (fun x=>!(decide (x<0)||decide (109572<x))) then (bif incr c.Closed then 0 else 7) else 2
theorem z4q {c:Calendar} (hl:c.Closed.length<1000000000):zah zr8 (0,c,())=some (bif c.Closed.all (fun x=>!(decide (x<0)||decide (109572<x))) then .inl (c,()) else .inr (2,())):=by
 have h:=za3 (step:=zr8) (fun i=>((i:Int),c,())) c.Closed (fun _ x=>!(decide (x<0)||decide (109572<x))) (.inr (2,())) (.inl (c,())) hl
  (by simp only[zr8,dge,cond_false])
  (fun i x hx=>by
   have hi:=(List.getElem?_eq_some_iff.1 hx).1
   simp -zeta only[zr8,dlt hi,zaq,hx,k_or,zb3,cond_true,zat (show i<9223372036854775807 by omega)]
   cases (decide (x<0)||decide (109572<x))<;>rfl)
 rw[show zah zr8 (0,c,())=_ from h,zbu]
theorem zya {c:Calendar} (hl:c.Closed.length<1000000000):zah zjl (1,c,())=some (bif incr c.Closed then .inl () else .inr (7,())):=by
 have h:=za3 (step:=zjl) (fun i=>(((i+1:Nat):Int),c,())) c.Closed.tail (fun i x=>!(zb6 c.Closed (i+1) (fun y=>decide (x≤y)))) (.inr (7,())) (.inl ()) (by rw[List.length_tail];omega)
  (by
   rw[List.length_tail]
   have:decide (((c.Closed.length-1+1:Nat):Int)<(c.Closed.length:Int))=false:=by rw[decide_eq_false_iff_not];omega
   simp only[zjl,this,cond_false])
  (fun i x hx=>by
   rw[List.getElem?_tail]at hx
   have hi:=(List.getElem?_eq_some_iff.1 hx).1
   have hj:c.Closed[i]?=some c.Closed[i]:=List.getElem?_eq_getElem (by omega)
   simp -zeta only[zjl,dlt hi,zaq,hx,cond_true,zg8 (show i<1000000000 by omega),hj,zb6,zat (show i+1<9223372036854775807 by omega)]
   cases decide (x≤c.Closed[i])<;>rfl)
 rw[show zah zjl (1,c,())=_ from h,z2a]
theorem zaci {c:Calendar} (hl:c.Closed.length<1000000000):qx c=some (zb5 c):=by
 unfold qx zb5
 simp -zeta only[k_or]
 dsimp only
 rw[z4q hl]
 cases (decide (c.Week<0)||decide (126<c.Week)) with
 |true=>rfl
 |false=>
  cases decide (64<(c.Closed.length:Int)) with
  |true=>rfl
  |false=>
   cases c.Closed.all (fun x=>!(decide (x<0)||decide (109572<x))) with
   |false=>rfl
   |true=>
    simp only[cond_false,cond_true,zya hl]
    cases incr c.Closed<;>rfl
end Go.Proofs.YtpaidiaknfhclaaGreatDoor
namespace Go.Proofs.YtpaidiaknfhclaaGreatDoor
open Ev
open Go (IntKind)
def zavr (state:Int):Bool:=(state==4||state==5||state==8||state==9||state==10)
theorem zji (state:Int):qe9 state=some (zavr state):=by
 unfold qe9
 try simp -zeta only[k_or,zb3,zmw,zck,cond_true,cond_false]
 try dsimp only
 try simp only[zck]
 try rfl
def z4l (c:Custody):Bool:=(bif decide (c.State<1)||decide (12<c.State)||decide (c.Branch<1)||decide (4<c.Branch) then false
 else
  bif c.State==6 then
   decide (0≤c.Who)&&decide (c.Who≤9999)&&decide (1≤c.To)&&decide (c.To≤4)&&!c.To==c.Branch
  else
   bif !c.To==0 then false
   else bif zavr c.State then decide (1≤c.Who)&&decide (c.Who≤9999) else c.Who==0)
theorem zjh (c:Custody):qdk c=some (z4l c):=by
 unfold qdk
 try simp -zeta only[k_or,zb3,zmw,zck,cond_true,cond_false,zji]
 try dsimp only
 try simp only[zck]
 try rfl
def z4m (m:Move):Bool:=(decide (0≤m.Day)&&decide (m.Day≤109572)&&decide (1≤m.Item)&&decide (m.Item≤9999)&&
 decide (1≤m.Kind)&&
 decide (m.Kind≤15)&&
 decide (1≤m.Branch)&&
 decide (m.Branch≤4)&&
 decide (0≤m.Who)&&
 decide (m.Who≤9999))
theorem zlp (m:Move):qej m=some (z4m m):=by
 unfold qej
 try simp -zeta only[k_or,zb3,zmw,zck,cond_true,cond_false,zji,zjh]
 try dsimp only
 try simp only[zck]
 try rfl
def z4k (kind:Int):(List Int):=(bif kind==1 then [1]
 else
  bif kind==2 then [2,5]
  else
   bif kind==3 then [3,5]
   else
    bif kind==4 then [4,8,9,10]
    else
     bif kind==5||kind==8 then [2,3]
     else
      bif kind==6 then [2,3,5]
      else
       bif kind==7 then [6]
       else
        bif kind==9 then [7]
        else
         bif kind==10 then [3]
         else
          bif kind==11 then [4]
          else
           bif kind==12 then [4,9]
           else
            bif kind==13 then [2,3,5,6,7]
            else bif kind==14 then [11] else bif kind==15 then [1,2,3,11,10] else [])
theorem zp9 (kind:Int):qcr kind=some (z4k kind):=by
 unfold qcr
 try simp -zeta only[k_or,zb3,zmw,zck,cond_true,cond_false,zji,zjh,zlp]
 try dsimp only
 try simp only[zck]
 try rfl
def zei (kind:Int):Int:=(bif kind==1||(kind==4||(kind==7||(kind==9||kind==14))) then 2
 else
  bif kind==2 then 3
  else
   bif kind==3 then 4
   else
    bif kind==5 then 5
    else
     bif kind==6 then 6
     else
      bif kind==8 then 7
      else
       bif kind==10 then 8
       else bif kind==11 then 9 else bif kind==12 then 10 else bif kind==13 then 11 else 12)
theorem zvr (kind:Int):qfe kind=some (zei kind):=by
 unfold qfe
 try simp -zeta only[k_or,zb3,zmw,zck,cond_true,cond_false,zji,zjh,zlp,zp9]
 try dsimp only
 try simp only[zck]
 try rfl
def zaoc (c:Custody) (m:Move):Bool:=(bif m.Kind==1||(m.Kind==4||(m.Kind==9||m.Kind==14)) then m.Who==0
 else
  bif m.Kind==7 then m.Who==0&&m.Branch==c.To
  else
   bif m.Kind==6 then !m.Branch==c.Branch
   else
    bif m.Kind==3||(m.Kind==5||m.Kind==10) then m.Branch==c.Branch&&decide (1≤m.Who)
    else m.Branch==c.Branch&&m.Who==0)
theorem z4i (c:Custody) (m:Move):qc8 c m=some (zaoc c m):=by
 unfold qc8
 try simp -zeta only[k_or,zb3,zmw,zck,cond_true,cond_false,zji,zjh,zlp,zp9,zvr]
 try dsimp only
 try simp only[zck]
 try rfl
def zr4 (branch:Int):Custody:={State:=1,Branch:=branch,Who:=0,To:=0}
theorem zaf7 (branch:Int):qdj branch=some (zr4 branch):=by
 unfold qdj
 try simp -zeta only[k_or,zb3,zmw,zck,cond_true,cond_false,zji,zjh,zlp,zp9,zvr,z4i]
 try dsimp only
 try simp only[zck]
 try rfl
def zqa (u:Custody):Bool:=(u.State==4||u.State==9||u.State==10)
theorem zaf9 (u:Custody):qed u=some (zqa u):=by
 unfold qed
 try simp -zeta only[k_or,zb3,zmw,zck,cond_true,cond_false,zji,zjh,zlp,zp9,zvr,z4i,zaf7]
 try dsimp only
 try simp only[zck]
 try rfl
end Go.Proofs.YtpaidiaknfhclaaGreatDoor
namespace Go.Proofs.YtpaidiaknfhclaaGreatDoor
open Ev
open Go (IntKind)
theorem hasX {X:Type} {p:X→Bool}:∀{l:List X} {i:Nat},zew p (fun _ _=>true) false i l=l.any p:=by
 intro l
 induction l with
 |nil=>intros;rfl
 |cons x l ih=>intro i;simp only[zew,List.any_cons];cases p x with|true=>rfl|false=>rw[cond_false,ih,Bool.false_or]
def zs7 (state kind:Int):Bool:=(z4k kind).any (fun x=>x==state)
theorem z9y {X:Type} {b:Bool} {x y:List X} {n:Nat} (hx:x.length<n) (hy:y.length<n):(bif b then x else y).length<n:=by cases b<;>assumption
theorem zyl (kind:Int):(z4k kind).length<10:=by
 unfold z4k
 repeat' first|apply z9y|decide
theorem zau9 (state kind:Int):qaj state kind=some (zs7 state kind):=by
 unfold qaj zs7
 rw[zp9]
 have hl:=zyl kind
 generalize z4k kind=l at hl ⊢
 have h:=zcv (step:=zlh) (fun i=>(state,l,(i:Int),())) l (fun x=>x==state) (fun _ _=>(.inr (true,()):Unit⊕(Bool×Unit))) (.inl ()) (by omega)
  (by simp only[zlh,dge,cond_false])
  (fun i x hx=>by
   have hi:=(List.getElem?_eq_some_iff.1 hx).1
   simp only[zlh,dlt hi,zaq,hx,cond_true,zat (show i<9223372036854775807 by omega)])
 dsimp only
 rw[show zah zlh (state,l,0,())=_ from h,←hasX (i:=0)]
 have key:∀(l:List Int) (i:Nat),(match some (zew (fun x=>x==state) (fun _ _=>(.inr (true,()):Unit⊕(Bool×Unit))) (.inl ()) i l) with|some (.inl _)=>some false|some (.inr (v,_))=>some v|none=>none)=some (zew (fun x=>x==state) (fun _ _=>true) false i l):=by
  intro l
  induction l with
  |nil=>intro i;rfl
  |cons x l ih=>intro i;simp only[zew];cases x==state with|true=>rfl|false=>exact ih _
 exact key l 0
def zcj (c:Custody) (m:Move):Custody×Int:=
 bif !(z4l c)||!(z4m m) then (⟨0,0,0,0⟩,1)
 else bif !(zs7 c.State m.Kind) then (⟨0,0,0,0⟩,12)
 else bif m.Kind==3&&c.State==5&&!(m.Who==c.Who) then (⟨0,0,0,0⟩,16)
 else bif !(zaoc c m) then (⟨0,0,0,0⟩,1)
 else bif zei m.Kind==2 then (⟨zei m.Kind,m.Branch,0,0⟩,0)
 else bif zei m.Kind==4||(zei m.Kind==5||zei m.Kind==8) then (⟨zei m.Kind,c.Branch,m.Who,0⟩,0)
 else bif zei m.Kind==6 then (⟨zei m.Kind,c.Branch,m.Who,m.Branch⟩,0)
 else bif zei m.Kind==9||zei m.Kind==10 then (⟨zei m.Kind,c.Branch,c.Who,0⟩,0)
 else (⟨zei m.Kind,c.Branch,0,0⟩,0)
theorem zavn (c:Custody) (m:Move):qcs c m=some (zcj c m):=by
 unfold qcs zcj
 simp -zeta only[k_or,zb3,zmw,zjh,zlp,zau9,z4i,zvr]
 dsimp only
 simp only[zck]
def zcs:Nat→List Move→Int→Custody→(Custody⊕(Int×Int))
 |_,[],_,c=>.inl c
 |i,x::l,item,c=>bif x.Item==item then (bif (zcj c x).2==0 then zcs (i+1) l item (zcj c x).1 else .inr ((i:Int),(zcj c x).2)) else zcs (i+1) l item c
def zdo (branch:Int) (l:List Move) (item:Int):Custody×Int×Int:=
 bif decide (branch<1)||decide (4<branch) then (⟨0,0,0,0⟩,-1,1)
 else match zcs 0 l item (zr4 branch) with
  |.inl c=>(c,-1,0)
  |.inr (i,e)=>(⟨0,0,0,0⟩,i,e)
theorem zsg {β:Type} (item:Int) (fin:Custody→β) (out:Int×Int→β):∀(l:List Move) (i:Nat) (c:Custody),
 zex (fun i x c=>bif x.Item==item then (bif (zcj c x).2==0 then .inl (zcj c x).1 else .inr (out ((i:Int),(zcj c x).2))) else .inl c) fin i l c=(match zcs i l item c with | .inl c=>fin c | .inr p=>out p):=by
 intro l
 induction l with
 |nil=>intros;rfl
 |cons x l ih=>
  intro i c
  simp only[zex,zcs]
  cases x.Item==item with
  |false=>exact ih _ _
  |true=>
   simp only[cond_true]
   cases (zcj c x).2==0 with
   |true=>exact ih _ _
   |false=>rfl
theorem zava {branch:Int} {l:List Move} {item:Int} (hl:l.length<1000000000):qak branch l item=some (zdo branch l item):=by
 unfold qak zdo
 simp -zeta only[k_or,zaf7]
 dsimp only
 have h:=zdq (step:=zli) (fun i c=>(l,item,(i:Int),(⟨0,0,0,0⟩:Custody),c,())) l
  (fun i x c=>bif x.Item==item then (bif (zcj c x).2==0 then .inl (zcj c x).1 else .inr (.inr ((i:Int),(zcj c x).2,(⟨0,0,0,0⟩:Custody),()))) else .inl c)
  (fun c=>.inl (⟨0,0,0,0⟩,c,())) (by show l.length<18446744073709551616;omega) (fun c=>by simp only[zli,dge,cond_false])
  (fun i x c hx=>by
   have hi:=(List.getElem?_eq_some_iff.1 hx).1
   simp only[zli,dlt hi,zaq,hx,cond_true,zavn,zat (show i<9223372036854775807 by omega)]
   cases x.Item==item with
   |false=>rfl
   |true=>
    simp only[Bool.not_true,cond_false,cond_true]
    obtain ⟨d,e⟩:=zcj c x
    cases he:e==0 with
    |true=>rfl
    |false=>rfl) (zr4 branch)
 rw[zsg item (fun c=>(.inl (⟨0,0,0,0⟩,c,()):(Custody×Custody×Unit)⊕(Int×Int×Custody×Unit))) (fun p=>.inr (p.1,p.2,(⟨0,0,0,0⟩:Custody),()))]at h
 rw[show zah zli (l,item,0,(⟨0,0,0,0⟩:Custody),zr4 branch,())=_ from h]
 cases (decide (branch<1)||decide (4<branch)) with
 |true=>rfl
 |false=>
  simp only[cond_false]
  cases zcs 0 l item (zr4 branch) with
  |inl c=>rfl
  |inr p=>rfl
end Go.Proofs.YtpaidiaknfhclaaGreatDoor
namespace Go.Proofs.YtpaidiaknfhclaaGreatDoor
open Ev
open Go (IntKind)
theorem zgy {X:Type} (p:X→Bool) (l:List X):(fIdx p l = -1∧l.find? p=none)∨∃(i:Nat) (x:X),fIdx p l=(i:Int)∧l[i]?=some x∧p x=true∧l.find? p=some x:=by
 unfold fIdx
 induction l with
 |nil=>exact .inl ⟨rfl,rfl⟩
 |cons y l ih=>
  simp only[List.findIdx?_cons,List.find?_cons]
  cases hp:p y with
  |true=>exact .inr ⟨0,y,rfl,rfl,hp,rfl⟩
  |false=>
   simp only[Bool.false_eq_true,if_false]
   rcases ih with ⟨h1,h2⟩|⟨i,x,h1,h2,h3,h4⟩
   ·left
    refine ⟨?_,h2⟩
    cases hf:l.findIdx? p with
    |none=>rfl
    |some k=>rw[hf]at h1;simp only at h1;omega
   ·right
    refine ⟨i+1,x,?_,by simpa using h2,h3,h4⟩
    cases hf:l.findIdx? p with
    |none=>rw[hf]at h1;simp only at h1;omega
    |some k=>rw[hf]at h1;simp only[Option.map_some]at h1 ⊢;omega
theorem z1q:decide ((-1:Int)<0)=true:=rfl
theorem z1p {i:Nat}:decide ((i:Int)<0)=false:=by rw[decide_eq_false_iff_not];omega
def getP (l:List Patron) (id:Int):Patron×Bool:=match l.find? (fun p=>p.ID==id) with|some p=>(p,true)|none=>(⟨0,0,0,0,false,[]⟩,false)
def zrl (l:List Loan) (item:Int):Loan×Bool:=match l.find? (fun n=>n.Item==item) with|some n=>(n,true)|none=>(⟨0,0,0,0,0,false⟩,false)
def z34:Hold:=⟨0,0,0,0,0,0,0,0,0,0,0⟩
def zgv (c:Circ) (item:Int):Hold×Bool:=match c.Holds.find? (fun h=>h.Got==item) with|some h=>(h,true)|none=>(z34,false)
theorem zaxg {c:Circ} {item:Int} (hl:c.Items.length<1000000000):qu c item=some (fIdx (fun x=>x.ID==item) c.Items):=by
 unfold qu
 have h:=zcv (step:=zx9) (fun i=>(item,(i:Int),c,())) c.Items (fun x=>x.ID==item) (fun i _=>(.inr ((i:Int),()):Unit⊕(Int×Unit))) (.inl ()) hl
  (by simp only[zx9,dge,cond_false])
  (fun i x hx=>by
   have hi:=(List.getElem?_eq_some_iff.1 hx).1
   simp only[zx9,dlt hi,zaq,hx,cond_true,zat (show i<9223372036854775807 by omega)])
 rw[show zah zx9 (item,0,c,())=_ from h,←zfh]
 have:=zdn (p:=fun x:Item=>x.ID==item) (g:=fun i _=>(.inr ((i:Int),()):Unit⊕(Int×Unit))) (d:=.inl ()) (fun z=>match (some z:Option (Unit⊕(Int×Unit))) with|some (.inl _)=>some (-1)|some (.inr (v,_))=>some v|none=>none) (l:=c.Items) (i:=0)
 exact this.trans ((zdn (p:=fun x:Item=>x.ID==item) (g:=fun i _=>(i:Int)) (d:=-1) (fun z=>some z) (l:=c.Items) (i:=0)).symm)
theorem znf {c:Circ} {item:Int} (hl:c.Items.length<1000000000):(qu c item=some (-1)∧c.Items.find? (fun x=>x.ID==item)=none)∨
 ∃(i:Nat) (x:Item),qu c item=some (i:Int)∧c.Items[i]?=some x∧x.ID=item∧c.Items.find? (fun x=>x.ID==item)=some x:=by
 rw[zaxg hl]
 rcases zgy (fun x:Item=>x.ID==item) c.Items with ⟨h1,h2⟩|⟨i,x,h1,h2,h3,h4⟩
 ·exact .inl ⟨by rw[h1],h2⟩
 ·exact .inr ⟨i,x,by rw[h1],h2,by simpa using h3,h4⟩
theorem zavf {l:List Patron} {id:Int} (hl:l.length<1000000000):qas l id=some (fIdx (fun x=>x.ID==id) l):=by
 unfold qas
 have h:=zcv (step:=zll) (fun i=>(l,id,(i:Int),())) l (fun x=>x.ID==id) (fun i _=>(.inr ((i:Int),()):Unit⊕(Int×Unit))) (.inl ()) hl
  (by simp only[zll,dge,cond_false])
  (fun i x hx=>by
   have hi:=(List.getElem?_eq_some_iff.1 hx).1
   simp only[zll,dlt hi,zaq,hx,cond_true,zat (show i<9223372036854775807 by omega)])
 rw[show zah zll (l,id,0,())=_ from h,←zfh]
 have:=zdn (p:=fun x:Patron=>x.ID==id) (g:=fun i _=>(.inr ((i:Int),()):Unit⊕(Int×Unit))) (d:=.inl ()) (fun z=>match (some z:Option (Unit⊕(Int×Unit))) with|some (.inl _)=>some (-1)|some (.inr (v,_))=>some v|none=>none) (l:=l) (i:=0)
 exact this.trans ((zdn (p:=fun x:Patron=>x.ID==id) (g:=fun i _=>(i:Int)) (d:=-1) (fun z=>some z) (l:=l) (i:=0)).symm)
theorem zp8 {l:List Patron} {id:Int} (hl:l.length<1000000000):qb5 l id=some (getP l id):=by
 unfold qb5 getP
 rw[zavf hl]
 rcases zgy (fun x:Patron=>x.ID==id) l with ⟨h1,h2⟩|⟨i,x,h1,h2,h3,h4⟩
 ·simp only[h1,h2,z1q,cond_true]
 ·simp only[h1,h4,z1p,cond_false,zaq,h2]
theorem zavb {l:List Loan} {id:Int} (hl:l.length<1000000000):qal l id=some (fIdx (fun x=>x.Item==id) l):=by
 unfold qal
 have h:=zcv (step:=zlj) (fun i=>(l,id,(i:Int),())) l (fun x=>x.Item==id) (fun i _=>(.inr ((i:Int),()):Unit⊕(Int×Unit))) (.inl ()) hl
  (by simp only[zlj,dge,cond_false])
  (fun i x hx=>by
   have hi:=(List.getElem?_eq_some_iff.1 hx).1
   simp only[zlj,dlt hi,zaq,hx,cond_true,zat (show i<9223372036854775807 by omega)])
 rw[show zah zlj (l,id,0,())=_ from h,←zfh]
 have:=zdn (p:=fun x:Loan=>x.Item==id) (g:=fun i _=>(.inr ((i:Int),()):Unit⊕(Int×Unit))) (d:=.inl ()) (fun z=>match (some z:Option (Unit⊕(Int×Unit))) with|some (.inl _)=>some (-1)|some (.inr (v,_))=>some v|none=>none) (l:=l) (i:=0)
 exact this.trans ((zdn (p:=fun x:Loan=>x.Item==id) (g:=fun i _=>(i:Int)) (d:=-1) (fun z=>some z) (l:=l) (i:=0)).symm)
theorem zavp {l:List Loan} {id:Int} (hl:l.length<1000000000):qdm l id=some (zrl l id):=by
 unfold qdm zrl
 rw[zavb hl]
 rcases zgy (fun x:Loan=>x.Item==id) l with ⟨h1,h2⟩|⟨i,x,h1,h2,h3,h4⟩
 ·simp only[h1,h2,z1q,cond_true]
 ·simp only[h1,h4,z1p,cond_false,zaq,h2]
theorem zave {c:Circ} {item:Int} (hl:c.Holds.length<1000000000):qar c item=some (zgv c item):=by
 unfold qar zgv
 have h:=zcv (step:=zlk) (fun i=>(item,(i:Int),c,z34,())) c.Holds (fun x=>x.Got==item) (fun _ x=>(.inr (true,x,()):(Hold×Unit)⊕(Bool×Hold×Unit))) (.inl (z34,())) hl
  (by simp only[zlk,dge,cond_false])
  (fun i x hx=>by
   have hi:=(List.getElem?_eq_some_iff.1 hx).1
   simp only[zlk,dlt hi,zaq,hx,cond_true,zat (show i<9223372036854775807 by omega)])
 rw[show zah zlk (item,0,c,(⟨0,0,0,0,0,0,0,0,0,0,0⟩:Hold),())=_ from h,zw3]
 cases c.Holds.find? (fun x=>x.Got==item)<;>rfl
def zdd (c:Circ) (i:Nat) (x:Item):Bool:=
 !(decide (x.ID<1)||decide (9999<x.ID)||zb6 c.Items i (fun y=>decide (x.ID≤y.ID))||decide (x.Record<1)||decide (9999<x.Record)||decide (x.Branch<1)||decide (4<x.Branch))&&
 !(decide (x.Kind<1)||decide (9<x.Kind)||decide (x.Price<0)||decide (100000000<x.Price)||decide (200<(x.Call.length:Int))||!(vld x.Call))&&
 !(!((zdo x.Branch c.Moves x.ID).2.2==0)||!(zbr (zdo x.Branch c.Moves x.ID).1 x.Custody))
def zee (c:Circ):Bool:=!(decide (64<(c.Items.length:Int))||decide (2000<(c.Moves.length:Int)))&&(zch (zdd c) 0 c.Items&&c.Moves.all (fun m=>(c.Items.find? (fun x=>x.ID==m.Item)).isSome))
structure Short (c:Circ):Prop where
 items:c.Items.length<1000000000
 patrons:c.Patrons.length<1000000000
 loans:c.Loans.length<1000000000
 holds:c.Holds.length<1000000000
 charges:c.Charges.length<1000000000
 rules:c.Rules.length<1000000000
 moves:c.Moves.length<1000000000
 call:∀x∈c.Items,x.Call.length<10000000
 name:∀x∈c.Patrons,x.Name.length<10000000
 cal0:c.Cals.x0.Closed.length<1000000000
 cal1:c.Cals.x1.Closed.length<1000000000
 cal2:c.Cals.x2.Closed.length<1000000000
 cal3:c.Cals.x3.Closed.length<1000000000
theorem z4r {c:Circ} (hs:Short c):zah zsa (0,c,())=some (bif zch (zdd c) 0 c.Items then .inl (c,()) else .inr (false,())):=by
 have h:=za3 (step:=zsa) (fun i=>((i:Int),c,())) c.Items (zdd c) (.inr (false,())) (.inl (c,())) hs.items
  (by simp only[zsa,dge,cond_false])
  (fun i x hx=>by
   have hi:=(List.getElem?_eq_some_iff.1 hx).1
   have hm:=List.mem_of_getElem? hx
   have hv:=zafp (s:=x.Call) (by have:=hs.call x hm;omega)
   have hr:=zava (branch:=x.Branch) (item:=x.ID) hs.moves
   unfold zdd
   rcases i with _|j
   ·simp -zeta only[zsa,dlt hi,zaq,hx,k_or,zb3,z1r,cond_false,cond_true,zb6,zat (show 0<9223372036854775807 by omega),hv,hr]
    dsimp only
    generalize (decide (x.ID<1)||decide (9999<x.ID)||false||decide (x.Record<1)||decide (9999<x.Record)||decide (x.Branch<1)||decide (4<x.Branch))=b1
    generalize (decide (x.Kind<1)||decide (9<x.Kind)||decide (x.Price<0)||decide (100000000<x.Price)||decide (200<(x.Call.length:Int))||!(vld x.Call))=b2
    generalize (!((zdo x.Branch c.Moves x.ID).2.2==0)||!(zbr (zdo x.Branch c.Moves x.ID).1 x.Custody))=b3
    cases b1<;>cases b2<;>cases b3<;>rfl
   ·have hj:c.Items[j]?=some c.Items[j]:=List.getElem?_eq_getElem (by omega)
    have:=hs.items
    simp -zeta only[zsa,dlt hi,zaq,hx,k_or,zb3,dpos,zg8 (show j<1000000000 by omega),hj,cond_false,cond_true,Bool.true_and,zb6,zat (show j+1<9223372036854775807 by omega),hv,hr]
    dsimp only
    generalize (decide (x.ID<1)||decide (9999<x.ID)||decide (x.ID≤c.Items[j].ID)||decide (x.Record<1)||decide (9999<x.Record)||decide (x.Branch<1)||decide (4<x.Branch))=b1
    generalize (decide (x.Kind<1)||decide (9<x.Kind)||decide (x.Price<0)||decide (100000000<x.Price)||decide (200<(x.Call.length:Int))||!(vld x.Call))=b2
    generalize (!((zdo x.Branch c.Moves x.ID).2.2==0)||!(zbr (zdo x.Branch c.Moves x.ID).1 x.Custody))=b3
    cases b1<;>cases b2<;>cases b3<;>rfl)
 exact h
theorem zyb {c:Circ} (hs:Short c):zah zjm (0,c,())=some (bif c.Moves.all (fun m=>(c.Items.find? (fun x=>x.ID==m.Item)).isSome) then .inl () else .inr (false,())):=by
 have h:=za3 (step:=zjm) (fun i=>((i:Int),c,())) c.Moves (fun _ m=>(c.Items.find? (fun x=>x.ID==m.Item)).isSome) (.inr (false,())) (.inl ()) hs.moves
  (by simp only[zjm,dge,cond_false])
  (fun i x hx=>by
   have hi:=(List.getElem?_eq_some_iff.1 hx).1
   have:=hs.moves
   simp only[zjm,dlt hi,zaq,hx,cond_true,zat (show i<9223372036854775807 by omega)]
   rcases znf (item:=x.Item) hs.items with ⟨h1,h2⟩|⟨k,y,h1,h2,h3,h4⟩
   ·simp only[h1,h2,z1q,cond_true,Option.isSome_none,cond_false]
   ·simp only[h1,h4,z1p,cond_false,Option.isSome_some,cond_true])
 rw[show zah zjm (0,c,())=_ from h,zbu]
theorem zaxi {c:Circ} (hs:Short c):qz c=some (zee c):=by
 unfold qz zee
 simp -zeta only[k_or]
 dsimp only
 rw[z4r hs]
 cases (decide (64<(c.Items.length:Int))||decide (2000<(c.Moves.length:Int))) with
 |true=>rfl
 |false=>
  cases zch (zdd c) 0 c.Items with
  |false=>rfl
  |true=>
   simp only[cond_false,cond_true,zyb hs]
   cases c.Moves.all (fun m=>(c.Items.find? (fun x=>x.ID==m.Item)).isSome)<;>rfl
def zgj (c:Circ) (n:Loan):Bool:=match c.Items.find? (fun x=>x.ID==n.Item) with
 |some x=>!(!(getP c.Patrons n.Patron).2||!(zqa x.Custody)||!(x.Custody.Who==n.Patron))
 |none=>false
def ze9 (c:Circ):Bool:=c.Loans.all (zgj c)&&c.Items.all (fun x=>(zrl c.Loans x.ID).2==zqa x.Custody)
theorem zaxh {c:Circ} (hs:Short c):qy c=some (ze9 c):=by
 have h1:=za3 (step:=zr9) (fun i=>((i:Int),c,())) c.Loans (fun _=>zgj c) (.inr (false,())) (.inl (c,())) hs.loans
  (by simp only[zr9,dge,cond_false])
  (fun i x hx=>by
   have hi:=(List.getElem?_eq_some_iff.1 hx).1
   have:=hs.loans
   unfold zgj
   rcases znf (item:=x.Item) hs.items with ⟨h1,h2⟩|⟨k,y,h1,h2,h3,h4⟩
   ·simp -zeta only[zr9,dlt hi,zaq,hx,cond_true,k_or,zp8 hs.patrons,h1,h2,z1q,Bool.true_or]
    try rfl
   ·simp -zeta only[zr9,dlt hi,zaq,hx,cond_true,k_or,zp8 hs.patrons,h1,h2,h4,z1p,Bool.false_or,zaf9,zat (show i<9223372036854775807 by omega)]
    dsimp only
    cases (!(getP c.Patrons x.Patron).2||!(zqa y.Custody)||!(y.Custody.Who==x.Patron))<;>rfl)
 have h2:=za3 (step:=zls) (fun i=>((i:Int),c,())) c.Items (fun _ x=>(zrl c.Loans x.ID).2==zqa x.Custody) (.inr (false,())) (.inl ()) hs.items
  (by simp only[zls,dge,cond_false])
  (fun i x hx=>by
   have hi:=(List.getElem?_eq_some_iff.1 hx).1
   have:=hs.items
   simp only[zls,dlt hi,zaq,hx,cond_true,zavp hs.loans,zaf9,zat (show i<9223372036854775807 by omega)]
   cases (zrl c.Loans x.ID).2==zqa x.Custody<;>rfl)
 unfold qy ze9
 rw[show zah zr9 (0,c,())=_ from h1,zbu]
 cases c.Loans.all (zgj c) with
 |false=>rfl
 |true=>
  simp only[cond_true]
  rw[show zah zls (0,c,())=_ from h2,zbu]
  cases c.Items.all (fun x=>(zrl c.Loans x.ID).2==zqa x.Custody)<;>rfl
def zge (c:Circ) (h:Hold):Bool:=
 !(!(getP c.Patrons h.Patron).2||decide (c.NextHold≤h.ID))&&(h.State==1||(match c.Items.find? (fun x=>x.ID==h.Got) with
  |some x=>!(!(x.Record==h.Record))&&!(h.State==3&&(!(x.Custody.State==5)||!(x.Custody.Branch==h.Pickup)||!(x.Custody.Who==h.Patron)))&&
   !(h.State==2&&(!(x.Custody.State==6)||!(x.Custody.To==h.Pickup)||!(x.Custody.Who==h.Patron)))
  |none=>false))
def zfc (c:Circ) (x:Item):Bool:=!(x.Custody.State==5)||!(!(zgv c x.ID).2||!((zgv c x.ID).1.State==3))
def ze7 (c:Circ):Bool:=c.Holds.all (zge c)&&c.Items.all (zfc c)
theorem zaxb {c:Circ} (hs:Short c):q8 c=some (ze7 c):=by
 have h1:=za3 (step:=zr2) (fun i=>((i:Int),c,())) c.Holds (fun _=>zge c) (.inr (false,())) (.inl (c,())) hs.holds
  (by simp only[zr2,dge,cond_false])
  (fun i x hx=>by
   have hi:=(List.getElem?_eq_some_iff.1 hx).1
   have:=hs.holds
   unfold zge
   rcases znf (item:=x.Got) hs.items with ⟨h1,h2⟩|⟨k,y,h1,h2,h3,h4⟩
   ·simp -zeta only[zr2,dlt hi,zaq,hx,cond_true,k_or,zp8 hs.patrons,h1,h2,z1q,zat (show i<9223372036854775807 by omega)]
    dsimp only
    cases (!(getP c.Patrons x.Patron).2||decide (c.NextHold≤x.ID)) with
    |true=>rfl
    |false=>cases x.State==1<;>rfl
   ·simp -zeta only[zr2,dlt hi,zaq,hx,cond_true,k_or,zb3,zp8 hs.patrons,h1,h2,h4,z1p,cond_false,zat (show i<9223372036854775807 by omega)]
    dsimp only
    generalize (!(getP c.Patrons x.Patron).2||decide (c.NextHold≤x.ID))=b1
    generalize (x.State==1)=b2
    generalize (!(y.Record==x.Record))=b3
    generalize (!(y.Custody.State==5)||!(y.Custody.Branch==x.Pickup)||!(y.Custody.Who==x.Patron))=b4
    generalize (!(y.Custody.State==6)||!(y.Custody.To==x.Pickup)||!(y.Custody.Who==x.Patron))=b5
    generalize (x.State==3)=b6
    generalize (x.State==2)=b7
    cases b1<;>cases b2<;>cases b3<;>cases b4<;>cases b5<;>cases b6<;>cases b7<;>rfl)
 have h2:=za3 (step:=zld) (fun i=>((i:Int),c,())) c.Items (fun _=>zfc c) (.inr (false,())) (.inl ()) hs.items
  (by simp only[zld,dge,cond_false])
  (fun i x hx=>by
   have hi:=(List.getElem?_eq_some_iff.1 hx).1
   have:=hs.items
   unfold zfc
   simp -zeta only[zld,dlt hi,zaq,hx,cond_true,k_or,zave hs.holds,zat (show i<9223372036854775807 by omega)]
   dsimp only
   cases x.Custody.State==5 with
   |false=>rfl
   |true=>
    generalize (!(zgv c x.ID).2||!((zgv c x.ID).1.State==3))=b
    cases b<;>rfl)
 unfold q8 ze7
 rw[show zah zr2 (0,c,())=_ from h1,zbu]
 cases c.Holds.all (zge c) with
 |false=>rfl
 |true=>
  simp only[cond_true]
  rw[show zah zld (0,c,())=_ from h2,zbu]
  cases c.Items.all (zfc c)<;>rfl
end Go.Proofs.YtpaidiaknfhclaaGreatDoor
