/- WeedPlans: a part of the proof of the given statement, which is proved without conditions. -/
import Derived.Test.YtpaidiaknfhclaaGreatDoorP4
import Derived.Lib.TrimUEq
import Derived.Lib.ValidU
import Derived.Lib.FieldsP
import Derived.Lib.Join
import Derived.Shelf.Strings.OnBuilder
import Derived.Shelf.Strings.FieldsFuncAny
import Derived.Shelf.Unicode.ValidAny
import Derived.Shelf.SlSortCmp.WholeK
import Derived.Shelf.SlicesG.Cmp
import Derived.Ground.SlsfProg
import Derived.Ground.SlgcProg
import Derived.Ground.NamesProg
import Derived.Ground.Names2Prog
import Derived.Test.YtpaidiaknfhclaaGreatDoorProg
import Derived.WalkKit
import Derived.WalkMore
import Derived.Below
import Derived.Laws.RangeString
import Derived.Laws.Runes
import Derived.LoopTactic
import Derived.Deep.LoopGhost
import Derived.Test.YtpaidiaknfhclaaGreatDoorTie
import Derived.Tactics
import Derived.Tactics2
import Derived.WalkSpells
import Derived.StillTactics
import Derived.Laws.Pointers
import Derived.Deep.RegionHeld3
import Derived.KernelRfl
import Derived.Shelf.SlSortCmp.NoneTotal
import Derived.Laws.BitsLemmas
set_option linter.all false
namespace Go.Proofs.YtpaidiaknfhclaaGreatDoor.Ev
open Go
section
variable {κ:Type} {El:κ→Type} {S:Sg κ El} {P:Program}
theorem za6 {α:Type} {L new:List α} {off j:Nat} (h:off+new.length≤L.length):(Go.splice L off new)[j]?=if off≤j∧j<off+new.length then new[j-off]? else L[j]?:=by
 unfold Go.splice
 rw[←List.append_assoc]
 exact znr L new off j h
theorem ze4 (sgk:SgOk S) {w w':World} {I J I':Nat→Nat→Prop} {v:Value} {d:D κ El} (h:DR S w I J v d) (hp:zfb d=true) (H:∀b o,I b o→w'.cell? ⟨b,o,none⟩=w.cell? ⟨b,o,none⟩∧I' b o):DR S w' I' I' v d:=
 (h.relendL sgk (J':=I) (zct hp)).mono H H
theorem zc5 (sgk:SgOk S) {k:κ} {x:El k} {j:Nat} {d:D κ El} (h:(S.enc k x)[j]?=some d):zfb d=true:=sgk.plain k x d (List.mem_of_getElem? h)
theorem z4n {w:World} {I J:Nat→Nat→Prop} {v:Value} {d:D κ El} (h:DR S w I J v d) (hp:zfb d=true):v.oneCell'=true:=
 (h.lone (by cases d<;>simp_all[zfb,solid])).one
structure InsOk (P:Program) (f z E:Nat):Prop where
 shift:∀{w:World} {b n c i vb vo vc:Nat} {L vs:List Value} {t:TypeId},i<n→n+1≤c→n+1≤1073741824→vb≠b→w.heap[b]?=some (.cells L.toArray t (0,0))→L.length=c*z→vs.length=z→
  (∀j v,vs[j]?=some v→w.cell? ⟨vb,vo+j,none⟩=some v)→(∀v∈(L.drop (i*z)).take ((n-i)*z),v.oneCell'=true)→(∀v∈vs,v.oneCell'=true)→
  Calls P f #[.slice (some ⟨b,0,none⟩) n c,.int .i64 i,.slice (some ⟨vb,vo,none⟩) 1 vc] w fun e w'=>
   e=.returned (.slice (some ⟨b,0,none⟩) (n+1) c)∧w'=(w.drew.setRow b (Go.splice L ((i+1)*z) ((L.drop (i*z)).take ((n-i)*z))).toArray).setRow b (Go.splice (Go.splice L ((i+1)*z) ((L.drop (i*z)).take ((n-i)*z))) (i*z) vs).toArray
 room:∀{w:World} {b n c vb vo vc:Nat} {L vs:List Value} {t:TypeId},n+1≤c→n+1≤1073741824→w.heap[b]?=some (.cells L.toArray t (0,0))→L.length=c*z→vs.length=z→
  (∀j v,vs[j]?=some v→w.cell? ⟨vb,vo+j,none⟩=some v)→(∀v∈vs,v.oneCell'=true)→
  Calls P f #[.slice (some ⟨b,0,none⟩) n c,.int .i64 n,.slice (some ⟨vb,vo,none⟩) 1 vc] w fun e w'=>
   e=.returned (.slice (some ⟨b,0,none⟩) (n+1) c)∧w'=w.setRow b (Go.splice L (n*z) vs).toArray
 new:∀{w:World} {base:Option Addr} {n c vb vo vc:Nat} {olds vs:List Value},n≤c→c<n+1→n+1≤1073741824→vs.length=z→(base=none→n=0)→olds.length=n*z→
  (∀a,base=some a→∀j v,olds[j]?=some v→w.cell? (a.add j)=some v)→(∀j v,vs[j]?=some v→w.cell? ⟨vb,vo+j,none⟩=some v)→
  Calls P f #[.slice base n c,.int .i64 n,.slice (some ⟨vb,vo,none⟩) 1 vc] w fun e w'=>
   ∃cap zs,e=.returned (.slice (some ⟨w.heap.size,0,none⟩) (n+1) cap)∧w'=w.drew.alloc (.cells (olds++(vs++zs)).toArray E)∧n+1≤cap∧zs.length=(cap-(n+1))*z
 grow:∀{w:World} {b n c i vb vo vc:Nat} {L vs:List Value} {t:TypeId},i<n→n≤c→c<n+1→n+1≤1073741824→vb≠b→w.heap[b]?=some (.cells L.toArray t (0,0))→L.length=c*z→vs.length=z→
  (∀j v,vs[j]?=some v→w.cell? ⟨vb,vo+j,none⟩=some v)→(∀v∈(L.drop (i*z)).take ((n-i)*z),v.oneCell'=true)→(∀v∈vs,v.oneCell'=true)→
  Calls P f #[.slice (some ⟨b,0,none⟩) n c,.int .i64 i,.slice (some ⟨vb,vo,none⟩) 1 vc] w fun e w'=>
   ∃cap row,e=.returned (.slice (some ⟨w.heap.size,0,none⟩) (n+1) cap)∧n+1≤cap∧row.length=cap*z∧row.take (i*z)=L.take (i*z)∧
    w'.heap=(w.heap.push (.cells (Go.splice (Go.splice row (i*z) vs) ((i+1)*z) ((L.drop (i*z)).take ((n-i)*z))).toArray E))∧w'.os=w.os∧w'.output=w.output∧w'.tape=w.tape
theorem zin {k:κ} {xs:List (El k)} {y:El k} {i:Nat} {L vs M:List Value} {Q:Value→D κ El→Prop} (sgk:SgOk S) (hi:i≤xs.length)
 (h1:∀(i:Nat) (hi:i<xs.length) (j:Nat) (d:D κ El),(S.enc k xs[i])[j]?=some d→∃v,L[i*S.sz k+j]?=some v∧Q v d)
 (h2:∀(j:Nat) (d:D κ El),(S.enc k y)[j]?=some d→∃v,vs[j]?=some v∧Q v d)
 (m1:∀p:Nat,p<i*S.sz k→M[p]?=L[p]?) (m2:∀j:Nat,j<S.sz k→M[i*S.sz k+j]?=vs[j]?) (m3:∀p:Nat,i*S.sz k≤p→p<xs.length*S.sz k→M[p+S.sz k]?=L[p]?) :
 ∀(i':Nat) (hi':i'<(xs.take i++y::xs.drop i).length) (j:Nat) (d:D κ El),(S.enc k (xs.take i++y::xs.drop i)[i'])[j]?=some d→∃v,M[i'*S.sz k+j]?=some v∧Q v d:=by
 intro i' hi' j d hj
 have hj':j<S.sz k:=by have:=(List.getElem?_eq_some_iff.1 hj).1;rwa [sgk.sz]at this
 have hl:(xs.take i).length=i:=by simp;omega
 by_cases hlt:i'<i
 ·have e:(xs.take i++y::xs.drop i)[i']=xs[i']'(by omega):=by rw[List.getElem_append_left (by omega)];simp
  rw[e]at hj
  obtain ⟨v,a,b⟩:=h1 i' (by omega) j d hj
  exact ⟨v,by rw[m1 _ (zcx hj' hlt)];exact a,b⟩
 ·by_cases heq:i'=i
  ·subst heq
   have e:(xs.take i'++y::xs.drop i')[i']=y:=by rw[List.getElem_append_right (by omega)];simp[hl]
   rw[e]at hj
   obtain ⟨v,a,b⟩:=h2 j d hj
   exact ⟨v,by rw[m2 j hj'];exact a,b⟩
  ·obtain ⟨p,rfl⟩:∃p,i'=p+1:=⟨i'-1,by omega⟩
   have hp:p<xs.length:=by simp at hi';omega
   have e:(xs.take i++y::xs.drop i)[p+1]=xs[p]:=by
    rw[List.getElem_append_right (by omega)]
    have e2:p+1-(xs.take i).length=(p-i)+1:=by omega
    simp only[e2,List.getElem_cons_succ,List.getElem_drop]
    congr 1;omega
   rw[e]at hj
   obtain ⟨v,a,b⟩:=h1 p hp j d hj
   refine ⟨v,?_,b⟩
   have:=m3 (p*S.sz k+j) (by have:=Nat.mul_le_mul_right (S.sz k) (show i≤p by omega);omega) (zcx hj' hp)
   rw[←a,←this]
   congr 1
   rw[Nat.add_mul];omega
theorem zajq (sgk:SgOk S) {f E:Nat} {fn:Func} {code:Code} (fok:FnOk P f fn code) (hmd:S.md f=.cons) {k:κ} (W:InsOk P f (S.sz k) E)
 {xs:List (El k)} {y:El k} {i:Nat} {ds:List (D κ El)} (hi:i≤xs.length) (hlim:xs.length+1≤1073741824) (hwl:WL ds [.lst k xs,.int .i64 (i:Int),.lst k [y]]) :
 Con P S f ds [] (.lst k (xs.take i++y::xs.drop i)) []:=by
 unfold Con
 rw[hmd]
 intro _ k' xs' ds0 hds k2 xs2 hd w I J mb v0 vs hp ho ha
 subst hds
 cases hd
 have hw0:=hwl.2 0 _ _ rfl rfl
 cases hw0 with
 |leaf _ _ hw0=>
 cases hw0
 have ha:=WL.args (cs':=[.int .i64 (i:Int),.lst k [y]]) ⟨by simpa using hwl.1,fun q d d' h1 h2=>hwl.2 (q+1) d d' (by simpa using h1) (by simpa using h2)⟩ ha
 obtain ⟨base,c,rfl,hnc,hz⟩:=ho
 obtain ⟨hvs,hav⟩:=ha
 obtain ⟨u1,u2,rfl⟩:∃u1 u2,vs = #[u1,u2]:=by
  simp at hvs
  exact ⟨vs[0],vs[1],by
   apply Array.ext
   ·simp[hvs]
   ·intro j h1 h2;simp at h2;rcases (show j=0∨j=1 by omega) with rfl|rfl<;>rfl⟩
 have hu1:u1=.int .i64 i:=(hav 0 u1 _ rfl rfl).int_inv
 have hu2:=hav 1 u2 _ rfl rfl
 subst hu1
 obtain ⟨n,hn⟩:∃n,n=xs.length:=⟨_,rfl⟩
 have hpos:=sgk.pos k
 cases hu2 with
 |lst vb vo vc _ _ cv hvcap hvc hvv=>
 obtain ⟨us,hus⟩:∃us,us=(List.range (S.sz k)).map (cv 0):=⟨_,rfl⟩
 have husl:us.length=S.sz k:=by rw[hus];simp
 have hug:∀j,j<S.sz k→us[j]?=some (cv 0 j):=fun j hj=>by rw[hus];simp[hj]
 have huc:∀j v,us[j]?=some v→w.cell? ⟨vb,vo+j,none⟩=some v:=fun j v hj=>by
  have hlt:=(List.getElem?_eq_some_iff.1 hj).1
  rw[husl]at hlt
  rw[hug j hlt]at hj;cases hj
  have:=(hvc 0 j (by simp) hlt).1
  simpa using this
 have huI:∀j,j<S.sz k→I vb (vo+j):=fun j hlt=>by have:=(hvc 0 j (by simp) hlt).2;simpa using this
 have hud:∀j d,(S.enc k y)[j]?=some d→∃v,us[j]?=some v∧DR S w I J v d:=fun j d hj=>by
  have hlt:=(List.getElem?_eq_some_iff.1 hj).1
  rw[sgk.sz]at hlt
  exact ⟨_,hug j hlt,hvv 0 (by simp) j d hj⟩
 have hu1c:∀v∈us,v.oneCell'=true:=fun v hv=>by
  obtain ⟨j,hj⟩:=List.getElem?_of_mem hv
  have hlt:=(List.getElem?_eq_some_iff.1 hj).1
  have hlt':j<(S.enc k y).length:=by rw[sgk.sz,←husl];exact hlt
  obtain ⟨v',e1,e2⟩:=hud j _ (List.getElem?_eq_getElem hlt')
  rw[hj]at e1;cases e1
  exact z4n e2 (sgk.plain k y _ (List.getElem_mem hlt'))
 have hIw:∀b o,I b o→b<w.heap.size:=hp.ib
 have hres:(xs.take i++y::xs.drop i).length=n+1:=by simp;omega
 unfold zci
 rw[MuLone.run_callFunc_enter fok.at_ fok.name fok.body _ w]
 simp only
 show Calls P f #[.slice base xs.length c,.int .i64 (i:Int),.slice (some ⟨vb,vo,none⟩) 1 vc] w _
 rcases hz with ⟨rfl,rfl⟩|⟨b,vals,t,rfl,rfl,hb,hvsz,hel⟩
 ·have hx0:xs=[]:=List.eq_nil_of_length_eq_zero (by omega)
  subst hx0
  have hi0:i=0:=by simpa using hi
  subst hi0
  have hnew:=W.new (w:=w) (base:=base) (n:=0) (c:=0) (vb:=vb) (vo:=vo) (vc:=vc) (olds:=[]) (vs:=us) (by omega) (by omega) (by omega) husl (fun _=>rfl) (by simp) (fun a _ j v hj=>by simp at hj) huc
  refine hnew.mono (fun e w' he=>?_)
  obtain ⟨cap,zs,rfl,rfl,hcap,hzl⟩:=he
  refine ⟨I,⟨by rw[World.size_alloc];show w.heap.size≤w.heap.size+1;omega,rfl,rfl,rfl,fun q hq _=>?_,fun _ _ h=>h,fun _ _ h=>.inl h,fun q o h=>by have:=hIw q o h;rw[World.size_alloc];show q<w.heap.size+1;omega⟩,
   some ⟨w.heap.size,0,none⟩,cap,by simp,by simp;omega,.inr ⟨w.heap.size,_,E,rfl,zcz w.drew _,?_,.inl (Nat.le_refl _),fun o h=>absurd (hIw _ _ h) (by omega),?_⟩⟩
  ·simp only[World.alloc];rw[Array.getElem?_push,if_neg (by show ¬q=w.heap.size;omega)];rfl
  ·simp[husl,hzl]
   obtain ⟨q,rfl⟩:∃q,cap=q+1:=⟨cap-1,by omega⟩
   rw[Nat.add_sub_cancel,Nat.add_mul];omega
  ·intro i' hi' j d hj
   have:=zin (L:=[]) (vs:=us) (M:=us++zs) (Q:=fun v d=>DR S (w.drew.alloc (.cells ([]++(us++zs)).toArray E)) I I v d) sgk (i:=0) (xs:=[]) (y:=y) (by simp) (fun i hi=>absurd hi (by simp))
    (fun j d hj=>by
     obtain ⟨v,a,b⟩:=hud j d hj
     exact ⟨v,a,ze4 sgk b (zc5 sgk hj) (fun q o h=>⟨by
      have:=hIw q o h
      simp only[World.cell?,World.alloc];rw[Array.getElem?_push,if_neg (by show ¬q=w.heap.size;omega)];rfl,h⟩)⟩)
    (fun p hp=>absurd hp (by omega)) (fun j hj=>by rw[Nat.zero_mul,Nat.zero_add,List.getElem?_append_left (by omega)]) (fun p _ hp=>by simp at hp) i' hi' j d hj
   simpa using this
 ·have hbw:b<w.heap.size:=(Array.getElem?_eq_some_iff.1 hb).1
  have hbI:∀o,¬I b o:=fun o h=>(hp.jb b o (hp.ij b o h)).2 (by simp)
  have hne:vb≠b:=fun e=>by subst e;exact hbI _ (huI 0 hpos)
  obtain ⟨L,hL⟩:∃L,L=vals.toList:=⟨_,rfl⟩
  have hLa:vals=L.toArray:=by rw[hL]
  have hLl:L.length=c*S.sz k:=by rw[hL];simpa using hvsz
  rw[hLa]at hb
  have hel':∀i (hi:i<xs.length) j d,(S.enc k xs[i])[j]?=some d→∃v,L[i*S.sz k+j]?=some v∧DR S w I J v d:=fun i hi j d hj=>by
   obtain ⟨v,a,e⟩:=hel i hi j d hj
   exact ⟨v,by rw[hL];simpa using a,e⟩
  have hnL:n*S.sz k≤L.length:=by rw[hLl];exact Nat.mul_le_mul_right _ (by omega)
  have hone:∀v∈L.take (n*S.sz k),v.oneCell'=true:=fun v hv=>by
   obtain ⟨p,hp'⟩:=List.getElem?_of_mem hv
   have hlt:=(List.getElem?_eq_some_iff.1 hp').1
   simp only[List.length_take]at hlt
   have h1:p / S.sz k<n:=(Nat.div_lt_iff_lt_mul hpos).2 (by omega)
   have h2:=Nat.mod_lt p hpos
   have h3:p % S.sz k<(S.enc k (xs[p / S.sz k]'(by omega))).length:=by rw[sgk.sz];exact h2
   obtain ⟨v',a,e⟩:=hel' (p / S.sz k) (by omega) _ _ (List.getElem?_eq_getElem h3)
   rw[Nat.div_add_mod']at a
   rw[List.getElem?_take,if_pos (by omega),a]at hp'
   cases hp'
   exact z4n e (sgk.plain k _ _ (List.getElem_mem h3))
  have hC1:(L.drop (i*S.sz k)).take ((n-i)*S.sz k)=(L.take (n*S.sz k)).drop (i*S.sz k):=by
   rw[List.drop_take];congr 1;rw[Nat.sub_mul]
  have hone1:∀v∈(L.drop (i*S.sz k)).take ((n-i)*S.sz k),v.oneCell'=true:=fun v hv=>hone v (by rw[hC1]at hv;exact List.mem_of_mem_drop hv)
  have hin:i*S.sz k≤n*S.sz k:=Nat.mul_le_mul_right _ (by omega)
  have hi1:(i+1)*S.sz k=i*S.sz k+S.sz k:=by rw[Nat.add_mul,Nat.one_mul]
  have hn1:(n+1)*S.sz k=n*S.sz k+S.sz k:=by rw[Nat.add_mul,Nat.one_mul]
  obtain ⟨C1,hC⟩:∃C1,C1=(L.drop (i*S.sz k)).take ((n-i)*S.sz k):=⟨_,rfl⟩
  have hC1l:C1.length=n*S.sz k-i*S.sz k:=by rw[hC,hC1];simp;omega
  have hC1g:∀q,q<n*S.sz k-i*S.sz k→C1[q]?=L[i*S.sz k+q]?:=fun q hq=>by rw[hC,hC1,List.getElem?_drop,List.getElem?_take,if_pos (by omega)]
  have inpl:∀(M:List Value) (w':World),M.length=L.length→(w'=w.setRow b M.toArray∨∃M0:Array Value,w'=(w.drew.setRow b M0).setRow b M.toArray)→n+1≤c→
   (∀p:Nat,p<i*S.sz k→M[p]?=L[p]?)→(∀j:Nat,j<S.sz k→M[i*S.sz k+j]?=us[j]?)→(∀p:Nat,i*S.sz k≤p→p<xs.length*S.sz k→M[p+S.sz k]?=L[p]?)→
   ∃I',GrowM [b] w w' I I'∧NewO S w' I' w.heap.size [b] k (xs.take i++y::xs.drop i) (.slice (some ⟨b,0,none⟩) (n+1) c):=by
   intro M w' hMl hw' hroom m1 m2 m3
   have hheap:w'.heap[b]?=some (.cells M.toArray t (0,0)):=by
    rcases hw' with rfl|⟨M0,rfl⟩
    ·exact setRow_heap _ _ _ _ _ _ hb
    ·exact setRow_heap _ _ _ _ _ _ (setRow_heap w.drew _ _ _ _ _ hb)
   have hoth:∀q,q≠b→w'.heap[q]?=w.heap[q]?:=fun q hq=>by
    rcases hw' with rfl|⟨M0,rfl⟩
    ·exact setRow_other _ _ _ _ hq
    ·rw[setRow_other _ _ _ _ hq,setRow_other _ _ _ _ hq];rfl
   have hsz:w'.heap.size=w.heap.size:=by
    rcases hw' with rfl|⟨M0,rfl⟩<;>simp only[setRow_size]<;>rfl
   refine ⟨I,⟨by omega,by rcases hw' with rfl|⟨M0,rfl⟩<;>rfl,by rcases hw' with rfl|⟨M0,rfl⟩<;>rfl,by rcases hw' with rfl|⟨M0,rfl⟩<;>rfl,fun q hq hm=>hoth q (by simpa using hm),fun _ _ h=>h,fun _ _ h=>.inl h,fun q o h=>by have:=hIw q o h;omega⟩,
    some ⟨b,0,none⟩,c,by rw[hres],by omega,.inr ⟨b,_,t,rfl,hheap,by simp[hMl,hLl],.inr (by simp),hbI,?_⟩⟩
   intro i' hi' j d hj
   have:=zin (L:=L) (vs:=us) (M:=M) (Q:=fun v d=>DR S w' I I v d) sgk (by omega)
    (fun i hi j d hj=>by
     obtain ⟨v,a,e⟩:=hel' i hi j d hj
     exact ⟨v,a,ze4 sgk e (zc5 sgk hj) (fun q o h=>⟨by simp only[World.cell?];rw[hoth q (fun e=>by subst e;exact hbI o h)],h⟩)⟩)
    (fun j d hj=>by
     obtain ⟨v,a,e⟩:=hud j d hj
     exact ⟨v,a,ze4 sgk e (zc5 sgk hj) (fun q o h=>⟨by simp only[World.cell?];rw[hoth q (fun e=>by subst e;exact hbI o h)],h⟩)⟩) m1 m2 m3 i' hi' j d hj
   simpa using this
  have newb:∀(M:List Value) (cap:Nat) (w':World),M.length=cap*S.sz k→w'.heap=w.heap.push (.cells M.toArray E)→w'.os=w.os→w'.output=w.output→w'.tape=w.tape→n+1≤cap→
   (∀p:Nat,p<i*S.sz k→M[p]?=L[p]?)→(∀j:Nat,j<S.sz k→M[i*S.sz k+j]?=us[j]?)→(∀p:Nat,i*S.sz k≤p→p<xs.length*S.sz k→M[p+S.sz k]?=L[p]?)→
   ∃I',GrowM [b] w w' I I'∧NewO S w' I' w.heap.size [b] k (xs.take i++y::xs.drop i) (.slice (some ⟨w.heap.size,0,none⟩) (n+1) cap):=by
   intro M cap w' hMl hheap h1 h2 h3 hcap m1 m2 m3
   have hoth:∀q,q<w.heap.size→w'.heap[q]?=w.heap[q]?:=fun q hq=>by rw[hheap,Array.getElem?_push,if_neg (by omega)]
   refine ⟨I,⟨by rw[hheap];simp,h1,h2,h3,fun q hq _=>hoth q hq,fun _ _ h=>h,fun _ _ h=>.inl h,fun q o h=>by have:=hIw q o h;rw[hheap];simp;omega⟩,
    some ⟨w.heap.size,0,none⟩,cap,by rw[hres],by omega,.inr ⟨w.heap.size,_,E,rfl,by rw[hheap];exact Array.getElem?_push_size,by simp[hMl],.inl (Nat.le_refl _),fun o h=>absurd (hIw _ _ h) (by omega),?_⟩⟩
   intro i' hi' j d hj
   have:=zin (L:=L) (vs:=us) (M:=M) (Q:=fun v d=>DR S w' I I v d) sgk (by omega)
    (fun i hi j d hj=>by
     obtain ⟨v,a,e⟩:=hel' i hi j d hj
     exact ⟨v,a,ze4 sgk e (zc5 sgk hj) (fun q o h=>⟨by simp only[World.cell?];rw[hoth q (hIw q o h)],h⟩)⟩)
    (fun j d hj=>by
     obtain ⟨v,a,e⟩:=hud j d hj
     exact ⟨v,a,ze4 sgk e (zc5 sgk hj) (fun q o h=>⟨by simp only[World.cell?];rw[hoth q (hIw q o h)],h⟩)⟩) m1 m2 m3 i' hi' j d hj
   simpa using this
  rw[←hn]at hi hlim hnc ⊢
  by_cases hroom:n+1≤c
  ·have hn1c:(n+1)*S.sz k≤L.length:=by rw[hLl];exact Nat.mul_le_mul_right _ hroom
   by_cases hlt:i<n
   ·refine (W.shift (vc:=vc) hlt hroom hlim hne hb hLl husl huc hone1 hu1c).mono (fun e w' he=>?_)
    obtain ⟨rfl,rfl⟩:=he
    rw[←hC]
    have l1:(Go.splice L ((i+1)*S.sz k) C1).length=L.length:=length_splice _ _ _ (by omega)
    refine inpl _ _ ?_ (.inr ⟨_,rfl⟩) hroom ?_ ?_ ?_
    ·rw[length_splice _ _ _ (by omega),l1]
    ·intro p hp'
     rw[za6 (by omega),if_neg (by omega),za6 (by omega),if_neg (by omega)]
    ·intro j hj
     rw[za6 (by omega),if_pos (by omega)]
     congr 1;omega
    ·intro p h1 h2
     rw[←hn]at h2
     rw[za6 (by omega),if_neg (by omega),za6 (by omega),if_pos (by omega),hC1g _ (by omega)]
     congr 1;omega
   ·have hie:i=n:=by omega
    subst hie
    refine (W.room (vc:=vc) hroom hlim hb hLl husl huc hu1c).mono (fun e w' he=>?_)
    obtain ⟨rfl,rfl⟩:=he
    refine inpl _ _ (length_splice _ _ _ (by omega)) (.inl rfl) hroom ?_ ?_ ?_
    ·intro p hp'
     rw[za6 (by omega),if_neg (by omega)]
    ·intro j hj
     rw[za6 (by omega),if_pos (by omega)]
     congr 1;omega
    ·intro p h1 h2
     rw[←hn]at h2
     omega
  ·by_cases hlt:i<n
   ·refine (W.grow (vc:=vc) hlt hnc (by omega) hlim hne hb hLl husl huc hone1 hu1c).mono (fun e w' he=>?_)
    obtain ⟨cap,row,rfl,hcap,hrl,hrt,hheap,q1,q2,q3⟩:=he
    rw[←hC]at hheap
    have hrl':(n+1)*S.sz k≤row.length:=by rw[hrl];exact Nat.mul_le_mul_right _ hcap
    have l1:(Go.splice row (i*S.sz k) us).length=row.length:=length_splice _ _ _ (by omega)
    refine newb _ cap w' ?_ hheap q1 q2 q3 hcap ?_ ?_ ?_
    ·rw[length_splice _ _ _ (by omega),l1,hrl]
    ·intro p hp'
     rw[za6 (by omega),if_neg (by omega),za6 (by omega),if_neg (by omega)]
     have e1:(row.take (i*S.sz k))[p]?=row[p]?:=by rw[List.getElem?_take,if_pos hp']
     have e2:(L.take (i*S.sz k))[p]?=L[p]?:=by rw[List.getElem?_take,if_pos hp']
     rw[←e1,hrt,e2]
    ·intro j hj
     rw[za6 (by omega),if_neg (by omega),za6 (by omega),if_pos (by omega)]
     congr 1;omega
    ·intro p h1 h2
     rw[←hn]at h2
     rw[za6 (by omega),if_pos (by omega),hC1g _ (by omega)]
     congr 1;omega
   ·have hie:i=n:=by omega
    subst hie
    refine (W.new (base:=some ⟨b,0,none⟩) (vc:=vc) (olds:=L.take (i*S.sz k)) hnc (by omega) hlim husl (fun h=>by cases h) (by simp;omega) (fun a ha j v hj=>?_) huc).mono (fun e w' he=>?_)
    ·cases ha
     rw[List.getElem?_take]at hj
     split at hj
     ·rw[zbg,Nat.zero_add]
      simp only[World.cell?,hb]
      simpa using hj
     ·cases hj
    ·obtain ⟨cap,zs,rfl,rfl,hcap,hzl⟩:=he
     obtain ⟨q,rfl⟩:∃q,cap=q+(i+1):=⟨cap-(i+1),by omega⟩
     rw[Nat.add_sub_cancel]at hzl
     have hTl:(L.take (i*S.sz k)).length=i*S.sz k:=by simp;omega
     refine newb _ (q+(i+1)) _ ?_ rfl rfl rfl rfl hcap ?_ ?_ ?_
     ·simp only[List.length_append,hTl,husl,hzl]
      rw[Nat.add_mul,hi1];omega
     ·intro p hp'
      rw[List.getElem?_append_left (by omega),List.getElem?_take,if_pos hp']
     ·intro j hj
      rw[List.getElem?_append_right (by omega),List.getElem?_append_left (by omega)]
      congr 1;omega
     ·intro p h1 h2
      rw[←hn]at h2
      omega
theorem zmo (sgk:SgOk S) {f E:Nat} {fn:Func} {code:Code} (fok:FnOk P f fn code) (hmd:S.md f=.cons) {k:κ} (W:InsOk P f (S.sz k) E)
 {xs vs r:List (El k)} {i:Int} {ds:List (D κ El)} (hwl:WL ds [.lst k xs,.int .i64 i,.lst k vs]) (hr:zio xs i vs=some r):Con P S f ds [] (.lst k r) []:=by
 unfold zio at hr
 split at hr
 ·rename_i y
  rw[zad]at hr
  split at hr
  ·rename_i h
   simp only[Bool.and_eq_true,decide_eq_true_eq]at h
   cases hr
   obtain ⟨n,rfl⟩:=Int.eq_ofNat_of_zero_le h.1.1
   exact zajq sgk fok hmd W (i:=n) (by omega) h.2 hwl
  ·cases hr
 ·cases hr
end
end Go.Proofs.YtpaidiaknfhclaaGreatDoor.Ev
namespace Go.Proofs.YtpaidiaknfhclaaGreatDoor.Ev
open Go
section
variable {κ:Type} {El:κ→Type} {S:Sg κ El} {P:Program}
structure DelOk (P:Program) (f z:Nat):Prop where
 non:∀{w:World} {base:Option Addr} {n c i:Nat},n≤c→i≤n→Calls P f #[.slice base n c,.int .i64 i,.int .i64 i] w fun e w'=>e=.returned (.slice base n c)∧w'=w
 som:∀{w:World} {b n c i j:Nat} {L:List Value} {t:TypeId},i<j→j≤n→n≤c→w.heap[b]?=some (.cells L.toArray t (0,0))→L.length=c*z→(∀v∈(L.drop (j*z)).take ((n-j)*z),v.oneCell'=true)→
  Calls P f #[.slice (some ⟨b,0,none⟩) n c,.int .i64 i,.int .i64 j] w fun e w'=>
   e=.returned (.slice (some ⟨b,0,none⟩) (i+(n-j)) c)∧∃(M0:Array Value) (zs:List Value),zs.length=(j-i)*z∧w'=(w.drew.setRow b M0).setRow b (Go.splice (Go.splice L (i*z) ((L.drop (j*z)).take ((n-j)*z))) ((i+(n-j))*z) zs).toArray
theorem zajp (sgk:SgOk S) {f:Nat} {fn:Func} {code:Code} (fok:FnOk P f fn code) (hmd:S.md f=.cons) {k:κ} (W:DelOk P f (S.sz k))
 {xs:List (El k)} {i j:Nat} {ds:List (D κ El)} (hij:i≤j) (hj:j≤xs.length) (hwl:WL ds [.lst k xs,.int .i64 (i:Int),.int .i64 (j:Int)]) :
 Con P S f ds [] (.lst k (xs.take i++xs.drop j)) []:=by
 unfold Con
 rw[hmd]
 intro _ k' xs' ds0 hds k2 xs2 hd w I J mb v0 vs hp ho ha
 subst hds
 cases hd
 have hw0:=hwl.2 0 _ _ rfl rfl
 cases hw0 with
 |leaf _ _ hw0=>
 cases hw0
 have ha:=WL.args (cs':=[.int .i64 (i:Int),.int .i64 (j:Int)]) ⟨by simpa using hwl.1,fun q d d' h1 h2=>hwl.2 (q+1) d d' (by simpa using h1) (by simpa using h2)⟩ ha
 obtain ⟨base,c,rfl,hnc,hz⟩:=ho
 obtain ⟨hvs,hav⟩:=ha
 obtain ⟨u1,u2,rfl⟩:∃u1 u2,vs = #[u1,u2]:=by
  simp at hvs
  exact ⟨vs[0],vs[1],by
   apply Array.ext
   ·simp[hvs]
   ·intro j h1 h2;simp at h2;rcases (show j=0∨j=1 by omega) with rfl|rfl<;>rfl⟩
 have hu1:u1=.int .i64 i:=(hav 0 u1 _ rfl rfl).int_inv
 have hu2:u2=.int .i64 j:=(hav 1 u2 _ rfl rfl).int_inv
 subst hu1 hu2
 obtain ⟨n,hn⟩:∃n,n=xs.length:=⟨_,rfl⟩
 have hpos:=sgk.pos k
 have hIw:∀b o,I b o→b<w.heap.size:=hp.ib
 have hres:(xs.take i++xs.drop j).length=i+(n-j):=by simp;omega
 unfold zci
 rw[MuLone.run_callFunc_enter fok.at_ fok.name fok.body _ w]
 simp only
 show Calls P f #[.slice base xs.length c,.int .i64 (i:Int),.int .i64 (j:Int)] w _
 by_cases heq:i=j
 ·subst heq
  refine (W.non hnc hj).mono (fun e w' he=>?_)
  obtain ⟨rfl,rfl⟩:=he
  have e:xs.take i++xs.drop i=xs:=by simp
  rw[e]
  refine ⟨I,⟨Nat.le_refl _,rfl,rfl,rfl,fun _ _ _=>rfl,fun _ _ h=>h,fun _ _ h=>.inl h,hIw⟩,base,c,rfl,hnc,?_⟩
  rcases hz with ⟨h,_⟩|⟨b,vals,t,rfl,rfl,hb,hvsz,hel⟩
  ·exact .inl h
  ·have hbI:∀o,¬I b o:=fun o h=>(hp.jb b o (hp.ij b o h)).2 (by simp)
   refine .inr ⟨b,vals,t,rfl,hb,hvsz,.inr (by simp),hbI,fun q hq j d hj=>?_⟩
   obtain ⟨v,a,e⟩:=hel q hq j d hj
   exact ⟨v,a,ze4 sgk e (zc5 sgk hj) (fun _ _ h=>⟨rfl,h⟩)⟩
 ·have hlt:i<j:=by omega
  rcases hz with ⟨rfl,rfl⟩|⟨b,vals,t,rfl,rfl,hb,hvsz,hel⟩
  ·exfalso;omega
  ·have hbw:b<w.heap.size:=(Array.getElem?_eq_some_iff.1 hb).1
   have hbI:∀o,¬I b o:=fun o h=>(hp.jb b o (hp.ij b o h)).2 (by simp)
   obtain ⟨L,hL⟩:∃L,L=vals.toList:=⟨_,rfl⟩
   have hLa:vals=L.toArray:=by rw[hL]
   have hLl:L.length=c*S.sz k:=by rw[hL];simpa using hvsz
   rw[hLa]at hb
   have hel':∀i (hi:i<xs.length) j d,(S.enc k xs[i])[j]?=some d→∃v,L[i*S.sz k+j]?=some v∧DR S w I J v d:=fun i hi j d hj=>by
    obtain ⟨v,a,e⟩:=hel i hi j d hj
    exact ⟨v,by rw[hL];simpa using a,e⟩
   have hnL:n*S.sz k≤L.length:=by rw[hLl];exact Nat.mul_le_mul_right _ (by omega)
   have hone:∀v∈L.take (n*S.sz k),v.oneCell'=true:=fun v hv=>by
    obtain ⟨p,hp'⟩:=List.getElem?_of_mem hv
    have hlt:=(List.getElem?_eq_some_iff.1 hp').1
    simp only[List.length_take]at hlt
    have h1:p / S.sz k<n:=(Nat.div_lt_iff_lt_mul hpos).2 (by omega)
    have h2:=Nat.mod_lt p hpos
    have h3:p % S.sz k<(S.enc k (xs[p / S.sz k]'(by omega))).length:=by rw[sgk.sz];exact h2
    obtain ⟨v',a,e⟩:=hel' (p / S.sz k) (by omega) _ _ (List.getElem?_eq_getElem h3)
    rw[Nat.div_add_mod']at a
    rw[List.getElem?_take,if_pos (by omega),a]at hp'
    cases hp'
    exact z4n e (sgk.plain k _ _ (List.getElem_mem h3))
   have hjn:j*S.sz k≤n*S.sz k:=Nat.mul_le_mul_right _ (by omega)
   have hC1:(L.drop (j*S.sz k)).take ((n-j)*S.sz k)=(L.take (n*S.sz k)).drop (j*S.sz k):=by
    rw[List.drop_take];congr 1;rw[Nat.sub_mul]
   have hone1:∀v∈(L.drop (j*S.sz k)).take ((n-j)*S.sz k),v.oneCell'=true:=fun v hv=>hone v (by rw[hC1]at hv;exact List.mem_of_mem_drop hv)
   obtain ⟨C1,hC⟩:∃C1,C1=(L.drop (j*S.sz k)).take ((n-j)*S.sz k):=⟨_,rfl⟩
   have hC1l:C1.length=n*S.sz k-j*S.sz k:=by rw[hC,hC1];simp;omega
   have hC1g:∀q,q<n*S.sz k-j*S.sz k→C1[q]?=L[j*S.sz k+q]?:=fun q hq=>by rw[hC,hC1,List.getElem?_drop,List.getElem?_take,if_pos (by omega)]
   have hij':i*S.sz k≤j*S.sz k:=Nat.mul_le_mul_right _ (by omega)
   have hm:(i+(n-j))*S.sz k=i*S.sz k+(n*S.sz k-j*S.sz k):=by rw[Nat.add_mul,Nat.sub_mul]
   have hz2:(j-i)*S.sz k=j*S.sz k-i*S.sz k:=by rw[Nat.sub_mul]
   refine (W.som hlt hj hnc hb hLl (by rw[←hn];exact hone1)).mono (fun e w' he=>?_)
   obtain ⟨rfl,M0,zs,hzl,rfl⟩:=he
   rw[←hn,←hC]
   have l1:(Go.splice L (i*S.sz k) C1).length=L.length:=length_splice _ _ _ (by omega)
   have l2:(Go.splice (Go.splice L (i*S.sz k) C1) ((i+(n-j))*S.sz k) zs).length=L.length:=by rw[length_splice _ _ _ (by omega),l1]
   generalize hM:Go.splice (Go.splice L (i*S.sz k) C1) ((i+(n-j))*S.sz k) zs=M at l2 ⊢
   have hMg:∀p,p<(i+(n-j))*S.sz k→M[p]?=if p<i*S.sz k then L[p]? else L[p+(j*S.sz k-i*S.sz k)]?:=fun p hp=>by
    rw[←hM,za6 (by omega),if_neg (by omega),za6 (by omega)]
    by_cases h:p<i*S.sz k
    ·rw[if_neg (by omega),if_pos h]
    ·rw[if_pos (by omega),if_neg h,hC1g _ (by omega)]
     congr 1;omega
   have hheap:((w.drew.setRow b M0).setRow b M.toArray).heap[b]?=some (.cells M.toArray t (0,0)):=setRow_heap _ _ _ _ _ _ (setRow_heap w.drew _ _ _ _ _ hb)
   have hoth:∀q,q≠b→((w.drew.setRow b M0).setRow b M.toArray).heap[q]?=w.heap[q]?:=fun q hq=>by rw[setRow_other _ _ _ _ hq,setRow_other _ _ _ _ hq];rfl
   have hsz:((w.drew.setRow b M0).setRow b M.toArray).heap.size=w.heap.size:=by simp only[setRow_size];rfl
   refine ⟨I,⟨by omega,rfl,rfl,rfl,fun q hq hm=>hoth q (by simpa using hm),fun _ _ h=>h,fun _ _ h=>.inl h,fun q o h=>by have:=hIw q o h;omega⟩,
    some ⟨b,0,none⟩,c,by rw[hres],by omega,.inr ⟨b,_,t,rfl,hheap,by simp[l2,hLl],.inr (by simp),hbI,?_⟩⟩
   intro q hq s d hs
   have hs':s<S.sz k:=by have:=(List.getElem?_eq_some_iff.1 hs).1;rwa [sgk.sz]at this
   rw[hres]at hq
   have hlt2:=zcx hs' hq
   by_cases hqi:q<i
   ·have e:(xs.take i++xs.drop j)[q]'(by omega)=xs[q]'(by omega):=by rw[List.getElem_append_left (by simp;omega)];simp
    rw[e]at hs
    obtain ⟨v,a,e2⟩:=hel' q (by omega) s d hs
    refine ⟨v,?_,ze4 sgk e2 (zc5 sgk hs) (fun q o h=>⟨by simp only[World.cell?];rw[hoth q (fun e=>by subst e;exact hbI o h)],h⟩)⟩
    rw[←a,List.getElem?_toArray,hMg _ hlt2,if_pos (zcx hs' hqi)]
   ·have e:(xs.take i++xs.drop j)[q]'(by omega)=xs[q+(j-i)]'(by omega):=by
     have hl:(xs.take i).length=i:=by simp;omega
     rw[List.getElem_append_right (by omega)]
     simp only[hl,List.getElem_drop]
     congr 1;omega
    rw[e]at hs
    obtain ⟨v,a,e2⟩:=hel' (q+(j-i)) (by omega) s d hs
    refine ⟨v,?_,ze4 sgk e2 (zc5 sgk hs) (fun q o h=>⟨by simp only[World.cell?];rw[hoth q (fun e=>by subst e;exact hbI o h)],h⟩)⟩
    have hqz:i*S.sz k≤q*S.sz k:=Nat.mul_le_mul_right _ (by omega)
    rw[←a,List.getElem?_toArray,hMg _ hlt2,if_neg (by omega)]
    congr 1
    rw[Nat.add_mul,hz2];omega
theorem zty (sgk:SgOk S) {f:Nat} {fn:Func} {code:Code} (fok:FnOk P f fn code) (hmd:S.md f=.cons) {k:κ} (W:DelOk P f (S.sz k))
 {xs r:List (El k)} {i j:Int} {ds:List (D κ El)} (hwl:WL ds [.lst k xs,.int .i64 i,.int .i64 j]) (hr:zmy xs i j=some r):Con P S f ds [] (.lst k r) []:=by
 unfold zmy at hr
 rw[zad]at hr
 split at hr
 ·rename_i h
  simp only[Bool.and_eq_true,decide_eq_true_eq]at h
  cases hr
  obtain ⟨n,rfl⟩:=Int.eq_ofNat_of_zero_le h.1.1.1
  obtain ⟨m,rfl⟩:=Int.eq_ofNat_of_zero_le (Int.le_trans h.1.1.1 h.1.1.2)
  exact zajp sgk fok hmd W (i:=n) (j:=m) (by omega) (by omega) hwl
 ·cases hr
end
end Go.Proofs.YtpaidiaknfhclaaGreatDoor.Ev
namespace Go.Proofs.YtpaidiaknfhclaaGreatDoor.Ev
open Go
def badC (c:Nat):Bool:=decide (c<32)||(decide (127≤c)&&decide (c≤159))||decide (65535<c)
theorem zfg {c:Nat}:badC c=true↔c<32∨(127≤c∧c≤159)∨65535<c:=by
 unfold badC;simp only[Bool.or_eq_true,Bool.and_eq_true,decide_eq_true_eq];omega
theorem zazd {a:UInt8} {r:List UInt8} {k:Nat}:(a::r).getD (k+1) 0=r.getD k 0:=by simp[List.getD]
set_option maxHeartbeats 2000000 in
theorem zkv {l:List UInt8} (hl:l≠[]):dcd l=if ((Lib.decodeL l).1=65533∧(Lib.decodeL l).2=1)∨badC (Lib.decodeL l).1=true then (0,0) else Lib.decodeL l:=by
 cases l with
 |nil=>exact absurd rfl hl
 |cons a r=>
  rw[Lib.decodeL_N]
  have ha:=a.toNat_lt
  simp only[zfg]
  rcases r with _|⟨b,_|⟨c,_|⟨d,r⟩⟩⟩
  ·simp only[List.getD_cons_zero,List.getD_cons_succ,List.getD_nil,List.length_cons,List.length_nil]
   obtain ⟨X,hX⟩:∃X,Lib.decodeN (0+1) a.toNat (0:UInt8).toNat (0:UInt8).toNat (0:UInt8).toNat=X:=⟨_,rfl⟩
   rw[hX]
   unfold Lib.decodeN at hX
   unfold dcd
   dsimp only
   split at hX
   ·subst hX
    repeat' split
    all_goals first|with_reducible rfl|(exfalso;omega)
   ·rw[if_neg (by omega),if_neg (by omega),if_neg (by omega)]at hX
    subst hX
    repeat' split
    all_goals first|with_reducible rfl|(exfalso;omega)
  ·simp only[List.getD_cons_zero,List.getD_cons_succ,List.getD_nil,List.length_cons,List.length_nil]
   have hb:=b.toNat_lt
   obtain ⟨X,hX⟩:∃X,Lib.decodeN (0+1+1) a.toNat b.toNat (0:UInt8).toNat (0:UInt8).toNat=X:=⟨_,rfl⟩
   rw[hX]
   unfold Lib.decodeN at hX
   unfold dcd
   dsimp only
   repeat' split at hX
   all_goals subst hX
   all_goals dsimp only
   all_goals repeat' split
   all_goals first|with_reducible rfl|(exfalso;omega)|(simp only[Prod.mk.injEq,and_true];omega)
  ·simp only[List.getD_cons_zero,List.getD_cons_succ,List.getD_nil,List.length_cons,List.length_nil]
   have hb:=b.toNat_lt
   have hc:=c.toNat_lt
   obtain ⟨X,hX⟩:∃X,Lib.decodeN (0+1+1+1) a.toNat b.toNat c.toNat (0:UInt8).toNat=X:=⟨_,rfl⟩
   rw[hX]
   unfold Lib.decodeN at hX
   unfold dcd
   dsimp only
   repeat' split at hX
   all_goals subst hX
   all_goals dsimp only
   all_goals repeat' split
   all_goals first|with_reducible rfl|(exfalso;omega)|(simp only[Prod.mk.injEq,and_true];omega)
  ·simp only[List.getD_cons_zero,List.getD_cons_succ,List.getD_nil,List.length_cons,List.length_nil]
   have hb:=b.toNat_lt
   have hc:=c.toNat_lt
   have hd:=d.toNat_lt
   obtain ⟨X,hX⟩:∃X,Lib.decodeN (r.length+1+1+1+1) a.toNat b.toNat c.toNat d.toNat=X:=⟨_,rfl⟩
   rw[hX]
   unfold Lib.decodeN at hX
   unfold dcd
   dsimp only
   repeat' split at hX
   all_goals subst hX
   all_goals dsimp only
   all_goals repeat' split
   all_goals first|with_reducible rfl|(exfalso;omega)|(simp only[Prod.mk.injEq,and_true];omega)
def okN:Nat→List UInt8→Bool
 |0,_=>true
 |n+1,l=>if l=[] then true else if badC (Lib.decodeL l).1 then false else okN n (l.drop (Lib.decodeL l).2)
theorem zeq {l:List UInt8} (hl:l≠[]):1≤(Lib.decodeL l).2∧(Lib.decodeL l).2≤l.length:=by
 cases l with
 |nil=>exact absurd rfl hl
 |cons a r=>
  rw[Lib.decodeL_N]
  unfold Lib.decodeN
  have:1≤(a::r).length:=by simp
  repeat' split
  all_goals simp only
  all_goals omega
theorem zaso:∀(n:Nat) (l:List UInt8),vldN n l=(Lib.validGoD n l&&okN n l):=by
 intro n
 induction n with
 |zero=>intro l;rfl
 |succ n ih=>
  intro l
  simp only[vldN,Lib.validGoD,okN]
  by_cases hl:l=[]
  ·simp[hl]
  ·simp only[hl,if_false]
   rw[zkv hl]
   by_cases h1:(Lib.decodeL l).1=65533∧(Lib.decodeL l).2=1
   ·simp[h1]
   ·by_cases h2:badC (Lib.decodeL l).1=true
    ·simp[h2]
    ·have:=zeq hl
     have hne:¬(((Lib.decodeL l).1=65533∧(Lib.decodeL l).2=1)∨badC (Lib.decodeL l).1=true):=fun h=>h.elim h1 h2
     rw[if_neg hne,if_neg (show ¬(Lib.decodeL l).2=0 by omega),if_neg h1,if_neg h2]
     exact ih _
theorem zac4:∀(n m:Nat) (l:List UInt8),l.length≤n→l.length≤m→okN n l=okN m l:=by
 intro n
 induction n with
 |zero=>intro m l h1 h2;have:l=[]:=List.length_eq_zero_iff.1 (by omega);subst this;cases m<;>simp[okN]
 |succ n ih=>
  intro m l h1 h2
  by_cases hl:l=[]
  ·subst hl;cases m<;>simp[okN]
  ·have hp:=zeq hl
   have:0<l.length:=List.length_pos_iff.2 hl
   obtain ⟨m,rfl⟩:∃k,m=k+1:=⟨m-1,by omega⟩
   simp only[okN,hl,if_false]
   split
   ·rfl
   ·exact ih m _ (by rw[List.length_drop];omega) (by rw[List.length_drop];omega)
theorem z2s (xs:List (List UInt8)) (y sep:List UInt8):Lib.join (xs++[y]) sep=if xs=[] then y else Lib.join xs sep++(sep++y):=by
 cases xs with
 |nil=>simp[Lib.join_one]
 |cons x xs=>
  rw[List.cons_append,Lib.join_cons,Lib.join_cons]
  simp[Lib.joinTail]
def pcs (l:List UInt8) (acc:List (Nat×Nat)):List (List UInt8):=acc.map fun x=>(l.take x.2).drop x.1
def J (l:List UInt8) (acc:List (Nat×Nat)):List UInt8:=Lib.join (pcs l acc) [32]
theorem zast (l:List UInt8):J l []=[]:=rfl
theorem zy5 (l:List UInt8) (acc:List (Nat×Nat)) (a b:Nat):J l (acc++[(a,b)])=if acc=[] then (l.take b).drop a else J l acc++([32]++(l.take b).drop a):=by
 unfold J pcs
 rw[List.map_append,List.map_singleton,z2s]
 simp only[List.map_eq_nil_iff]
theorem J_ne {l:List UInt8}:∀{acc:List (Nat×Nat)},(∀x∈acc,x.1<x.2∧x.2≤l.length)→acc≠[]→J l acc≠[]:=by
 intro acc h hne
 obtain ⟨x,r,rfl⟩:=List.exists_cons_of_ne_nil hne
 have hx:=h x (by simp)
 unfold J pcs
 rw[List.map_cons,Lib.join_cons]
 intro e
 have:=congrArg List.length e
 simp only[List.length_append,List.length_drop,List.length_take,List.length_nil]at this
 omega
theorem z0e {s:ByteArray} {l:List UInt8} (hl:s.data.toList=l) (p:Nat→Bool) (hp:∀c,p c=blk c):∀(f pos:Nat) (st:Option Nat) (acc:List (Nat×Nat)) (gap:Bool),
 s.size≤pos+f→pos≤s.size→vldN f (l.drop pos)=true→(∀a,st=some a→a<pos∧gap=false)→(st=none→gap=true∨acc=[])→(∀x∈acc,x.1<x.2∧x.2≤l.length)→
 J l (Lib.closeSpans s (Lib.spansFromP p s f pos st acc))=clnN f (l.drop pos) (match st with|some a=>J l (acc++[(a,pos)])|none=>J l acc) gap:=by
 have hsz:s.size=l.length:=by rw[Lib.size_eq,hl]
 intro f
 induction f with
 |zero=>
  intro pos st acc gap h1 h2 hv hs hn hacc
  have:pos=s.size:=by omega
  subst this
  simp only[Lib.spansFromP,clnN]
  cases st with
  |none=>rfl
  |some a=>rfl
 |succ f ih=>
  intro pos st acc gap h1 h2 hv hs hn hacc
  by_cases hlt:pos<s.size
  ·have hne:l.drop pos≠[]:=by simp;omega
   have hdec:Lib.decodeL (l.drop pos)=Utf8.decode s pos:=by rw[←hl];exact Lib.decodeL_drop s pos
   have hpos:=zeq hne
   rw[List.length_drop]at hpos
   have hv2:=hv
   simp only[vldN,hne,if_false]at hv2
   have hd:=zkv hne
   split at hd
   ·rw[hd]at hv2;simp at hv2
   ·rename_i hnb
    have hz:¬(dcd (l.drop pos)).2=0:=by rw[hd];omega
    rw[if_neg hz,List.drop_drop,hd,hdec]at hv2
    have hw:wid (l.drop pos)=(Utf8.decode s pos).2:=by unfold wid;rw[hd,hdec,if_neg (by rw[←hdec];omega)]
    rw[hdec]at hpos
    obtain ⟨k,hk⟩:∃k,(Utf8.decode s pos).2=k:=⟨_,rfl⟩
    rw[clnN,if_neg hne,List.drop_drop,hw,hd,hdec]
    simp only[Lib.spansFromP,hlt,if_true,hp]
    rw[hk]at hpos hv2 ⊢
    have htk:∀a,a≤pos→(l.take pos).drop a++(l.drop pos).take k=(l.take (pos+k)).drop a:=by
     intro a ha
     rw[List.take_add,List.drop_append_of_le_length (by simp;omega)]
    cases hb:blk (Utf8.decode s pos).1 with
    |true=>
     simp only[if_true]
     cases st with
     |none=>exact ih (pos+k) none acc true (by omega) (by omega) hv2 (fun a h=>by cases h) (fun _=>.inl rfl) hacc
     |some a=>
      have:=(hs a rfl).1
      exact ih (pos+k) none (acc++[(a,pos)]) true (by omega) (by omega) hv2 (fun a h=>by cases h) (fun _=>.inl rfl) (fun x hx=>by
       rcases List.mem_append.1 hx with h|h
       ·exact hacc x h
       ·simp only[List.mem_singleton]at h;subst h;exact ⟨this,by simp only;omega⟩)
    |false=>
     simp only[Bool.false_eq_true,if_false]
     cases st with
     |some a=>
      obtain ⟨ha,hg⟩:=hs a rfl
      subst hg
      rw[ih (pos+k) (some a) acc false (by omega) (by omega) hv2 (fun b h=>by cases h;exact ⟨by omega,rfl⟩) (fun h=>by cases h) hacc]
      simp only[Bool.false_and,Bool.false_eq_true,if_false]
      congr 1
      rw[zy5,zy5]
      split
      ·exact (htk a (by omega)).symm
      ·rw[←htk a (by omega)];simp
     |none=>
      rw[ih (pos+k) (some pos) acc false (by omega) (by omega) hv2 (fun b h=>by cases h;exact ⟨by omega,rfl⟩) (fun h=>by cases h) hacc]
      congr 1
      dsimp only
      rw[zy5]
      have e:=htk pos (Nat.le_refl _)
      rw[@List.drop_eq_nil_of_le _ (l.take pos) _ (by simp;omega),List.nil_append]at e
      rcases hn rfl with hg|hacc0
      ·subst hg
       by_cases h0:acc=[]
       ·subst h0;simp[zast,e]
       ·have:=J_ne hacc h0
        have hb2:(J l acc==[])=false:=by simpa using this
        simp[h0,hb2,e]
      ·subst hacc0;simp[zast,e]
  ·have:pos=s.size:=by omega
   subst this
   have hnil:l.drop s.size=[]:=by rw[hsz];simp
   rw[Lib.spansFromP_end _ _ _ _ _ _ hlt,clnN,if_pos hnil]
   cases st with
   |none=>rfl
   |some a=>rfl
theorem zw4 {s:ByteArray} {p:Nat→Bool} (hp:∀c,p c=blk c) (hv:vld s.data.toList=true):Lib.join ((Lib.goFieldsP p s).map (·.data.toList)) [32]=cln s.data.toList:=by
 have h:=z0e (s:=s) rfl p hp s.size 0 none [] false (by omega) (by omega) (by rw[List.drop_zero,Lib.size_eq];exact hv) (fun a h=>by cases h) (fun _=>.inr rfl) (fun x h=>by cases h)
 rw[List.drop_zero]at h
 have hc:cln s.data.toList=clnN s.size s.data.toList [] false:=by unfold cln;rw[Lib.size_eq]
 rw[hc]
 refine Eq.trans ?_ h
 unfold J pcs Lib.goFieldsP Lib.spansOfP
 rw[List.map_map]
 congr 1
 refine List.map_congr_left (fun x _=>?_)
 show (s.extract x.1 x.2).data.toList=(s.data.toList.take x.2).drop x.1
 rw[Lib.extract_data,List.drop_take]
theorem z8d (p:Nat→Bool) (s:ByteArray):∀(f pos:Nat) (st:Option Nat) (acc:List (Nat×Nat)),(Lib.spansFromP p s f pos st acc).1.length≤acc.length+f:=by
 intro f
 induction f with
 |zero=>intro pos st acc;exact Nat.le_refl _
 |succ f ih=>
  intro pos st acc
  unfold Lib.spansFromP
  split
  ·split
   ·cases st with
    |none=>exact Nat.le_trans (ih _ _ _) (by omega)
    |some a=>exact Nat.le_trans (ih _ _ _) (by simp;omega)
   ·cases st with
    |none=>exact Nat.le_trans (ih _ _ _) (by omega)
    |some a=>exact Nat.le_trans (ih _ _ _) (by omega)
  ·simp
theorem zxh (p:Nat→Bool) (s:ByteArray):(Lib.goFieldsP p s).length≤s.size+1:=by
 have:=z8d p s s.size 0 none []
 unfold Lib.goFieldsP Lib.spansOfP Lib.closeSpans
 rw[List.length_map]
 split
 ·rw[List.length_append];simp at this ⊢;omega
 ·simp at this;omega
theorem zaaf:∀(n:Nat) (l out:List UInt8) (gap:Bool),(clnN n l out gap).length≤out.length+2*l.length:=by
 intro n
 induction n with
 |zero=>intro l out gap;simp[clnN]
 |succ n ih=>
  intro l out gap
  rw[clnN]
  split
  ·omega
  ·have hw:1≤wid l:=by unfold wid;split<;>omega
   have hl:0<l.length:=List.length_pos_iff.2 (by assumption)
   split
   ·have:=ih (l.drop (wid l)) out true
    rw[List.length_drop]at this
    omega
   ·have:=ih (l.drop (wid l)) ((if gap&&!(out==[]) then out++[32] else out)++l.take (wid l)) false
    rw[List.length_drop]at this
    have h2:(if gap&&!(out==[]) then out++[32] else out).length≤out.length+1:=by split<;>simp
    simp only[List.length_append,List.length_take]at this
    omega
theorem zajo (s:ByteArray):(cln s.data.toList).length≤2*s.size:=by
 have:=zaaf s.data.toList.length s.data.toList [] false
 rw[Lib.size_eq]
 simpa[cln]using this
end Go.Proofs.YtpaidiaknfhclaaGreatDoor.Ev
namespace Go.Proofs
open Go.Shelf
def Tryz.laysValid_ren:Go.Shelf.Ren:=⟨fun|196=>193|259=>239|n=>n,fun|9=>9|4=>4|3=>3|5=>5|12=>12|119=>238|0=>0|46=>145|139=>241|138=>240|53=>197|n=>n,fun|3=>0|4=>1|n=>n⟩
theorem Tryz.laysValid:Go.Proofs.Lays.n196 Tryz.prog Tryz.laysValid_ren:={
 mixed:=by kernel_rfl
 f196:=Tryz.func193.trans (congrArg some (by kernel_rfl))
 f259:=Tryz.func239.trans (congrArg some (by kernel_rfl))
 t0:=Tryz.underlying0
 a0:=Tryz.isAgg0
 z0:=Tryz.sizeOf0
 v0:=Tryz.zeroValue0
 t3:=Tryz.underlying3
 a3:=Tryz.isAgg3
 z3:=Tryz.sizeOf3
 v3:=Tryz.zeroValue3
 t4:=Tryz.underlying4
 a4:=Tryz.isAgg4
 z4:=Tryz.sizeOf4
 v4:=Tryz.zeroValue4
 t5:=Tryz.underlying5
 a5:=Tryz.isAgg5
 z5:=Tryz.sizeOf5
 v5:=Tryz.zeroValue5
 t9:=Tryz.underlying9
 a9:=Tryz.isAgg9
 z9:=Tryz.sizeOf9
 v9:=Tryz.zeroValue9
 t12:=Tryz.underlying12
 a12:=Tryz.isAgg12
 z12:=Tryz.sizeOf12
 v12:=Tryz.zeroValue12
 t46:=Tryz.underlying145
 a46:=Tryz.isAgg145
 z46:=Tryz.sizeOf145
 v46:=Tryz.zeroValue145
 t53:=Tryz.underlying197
 a53:=Tryz.isAgg197
 z53:=Tryz.sizeOf197
 v53:=Tryz.zeroValue197
 t119:=Tryz.underlying238
 a119:=Tryz.isAgg238
 z119:=Tryz.sizeOf238
 t138:=Tryz.underlying240
 a138:=Tryz.isAgg240
 z138:=Tryz.sizeOf240
 v138:=Tryz.zeroValue240
 t139:=Tryz.underlying241
 a139:=Tryz.isAgg241
 z139:=Tryz.sizeOf241
 v139:=Tryz.zeroValue241
 g3:=by kernel_rfl
 g4:=by kernel_rfl}
def Tryz.lays156_ren:Go.Shelf.Ren:=⟨fun|156=>240|165=>255|166=>256|169=>257|240=>266|241=>267|276=>273|277=>274|n=>n,fun|31=>245|9=>9|3=>3|4=>4|0=>0|20=>20|72=>261|76=>264|70=>258|37=>259|75=>263|127=>276|164=>279|5=>5|80=>266|n=>n,fun|n=>n⟩
theorem Tryz.lays156:Go.Proofs.Lays.n156 Tryz.prog Tryz.lays156_ren:={
 mixed:=by kernel_rfl
 f156:=Tryz.func240.trans (congrArg some (by kernel_rfl))
 f165:=Tryz.func255.trans (congrArg some (by kernel_rfl))
 f166:=Tryz.func256.trans (congrArg some (by kernel_rfl))
 f169:=Tryz.func257.trans (congrArg some (by kernel_rfl))
 f240:=Tryz.func266.trans (congrArg some (by kernel_rfl))
 f241:=Tryz.func267.trans (congrArg some (by kernel_rfl))
 f276:=Tryz.func273.trans (congrArg some (by kernel_rfl))
 f277:=Tryz.func274.trans (congrArg some (by kernel_rfl))
 t0:=Tryz.underlying0
 a0:=Tryz.isAgg0
 z0:=Tryz.sizeOf0
 v0:=Tryz.zeroValue0
 t3:=Tryz.underlying3
 a3:=Tryz.isAgg3
 z3:=Tryz.sizeOf3
 v3:=Tryz.zeroValue3
 t4:=Tryz.underlying4
 a4:=Tryz.isAgg4
 z4:=Tryz.sizeOf4
 v4:=Tryz.zeroValue4
 t9:=Tryz.underlying9
 a9:=Tryz.isAgg9
 z9:=Tryz.sizeOf9
 v9:=Tryz.zeroValue9
 t20:=Tryz.underlying20
 a20:=Tryz.isAgg20
 z20:=Tryz.sizeOf20
 v20:=Tryz.zeroValue20
 t31:=Tryz.underlying245
 a31:=Tryz.isAgg245
 z31:=Tryz.sizeOf245
 v31:=Tryz.zeroValue245
 t37:=Tryz.underlying259
 a37:=Tryz.isAgg259
 z37:=Tryz.sizeOf259
 v37:=Tryz.zeroValue259
 t70:=Tryz.underlying258
 a70:=Tryz.isAgg258
 z70:=Tryz.sizeOf258
 v70:=Tryz.zeroValue258
 t72:=Tryz.underlying261
 a72:=Tryz.isAgg261
 z72:=Tryz.sizeOf261
 v72:=Tryz.zeroValue261
 t75:=Tryz.underlying263
 a75:=Tryz.isAgg263
 z75:=Tryz.sizeOf263
 v75:=Tryz.zeroValue263
 t76:=Tryz.underlying264
 a76:=Tryz.isAgg264
 z76:=Tryz.sizeOf264
 v76:=Tryz.zeroValue264
 t127:=Tryz.underlying276
 a127:=Tryz.isAgg276
 z127:=Tryz.sizeOf276
 v127:=Tryz.zeroValue276
 t164:=Tryz.underlying279
 a164:=Tryz.isAgg279
 z164:=Tryz.sizeOf279
 v164:=Tryz.zeroValue279}
theorem Tryz.Builder_Extra_156:Builder.Extra Tryz.prog Tryz.lays156_ren:={
 sizeBuilder:=by kernel_rfl
 liesBuilder:=by kernel_rfl
 t5:=Tryz.underlying5
 a5:=Tryz.isAgg5
 z5:=Tryz.sizeOf5
 v5:=Tryz.zeroValue5
 infoByte:=by kernel_rfl
 cellsByte:=by kernel_rfl
 sizeByte:=by kernel_rfl
 neB5:=by decide}
open Go.RowKit in
theorem Tryz.strings_Join_none (a:Option Addr) (c:Nat) (sep:ByteArray) (w:World) :
 Calls Tryz.prog 240 #[.slice a 0 c,.string sep] w fun e w'=>e=.returned (.string ⟨#[]⟩)∧w'=w:=Any.strings_Join_none Tryz.lays156 Tryz.Builder_Extra_156 a c sep w
open Go.RowKit in
theorem Tryz.strings_Join (bk o c:Nat) (xs:List ByteArray) (sep:ByteArray) (w:World) (hcells:∀(j:Nat) x,xs[j]?=some x→w.cell? ⟨bk,o+j,none⟩=some (.string x)) (hbk:bk<w.heap.size) (hN:xs.length≤140737488355328) (hcap:xs.length≤c) (hlen:(Lib.join (xs.map (·.data.toList)) sep.data.toList).length≤140737488355328) :
 Calls Tryz.prog 240 #[.slice (some ⟨bk,o,none⟩) xs.length c,.string sep] w fun e w'=>e=.returned (.string ⟨(Lib.join (xs.map (·.data.toList)) sep.data.toList).toArray⟩)∧Below w.heap.size w w':=Any.strings_Join Tryz.lays156 Tryz.Builder_Extra_156 bk o c xs sep w hcells hbk hN hcap hlen
def Tryz.lays229_ren:Go.Shelf.Ren:=⟨fun|229=>241|n=>n,fun|9=>9|40=>247|31=>245|152=>267|3=>3|0=>0|4=>4|21=>21|154=>269|n=>n,fun|n=>n⟩
theorem Tryz.lays229:Go.Proofs.Lays.n229 Tryz.prog Tryz.lays229_ren:={
 mixed:=by kernel_rfl
 f229:=Tryz.func241.trans (congrArg some (by kernel_rfl))
 t0:=Tryz.underlying0
 a0:=Tryz.isAgg0
 z0:=Tryz.sizeOf0
 v0:=Tryz.zeroValue0
 t3:=Tryz.underlying3
 a3:=Tryz.isAgg3
 z3:=Tryz.sizeOf3
 v3:=Tryz.zeroValue3
 t4:=Tryz.underlying4
 a4:=Tryz.isAgg4
 z4:=Tryz.sizeOf4
 v4:=Tryz.zeroValue4
 t9:=Tryz.underlying9
 a9:=Tryz.isAgg9
 z9:=Tryz.sizeOf9
 v9:=Tryz.zeroValue9
 t21:=Tryz.underlying21
 a21:=Tryz.isAgg21
 z21:=Tryz.sizeOf21
 v21:=Tryz.zeroValue21
 t31:=Tryz.underlying245
 a31:=Tryz.isAgg245
 z31:=Tryz.sizeOf245
 v31:=Tryz.zeroValue245
 t40:=Tryz.underlying247
 a40:=Tryz.isAgg247
 z40:=Tryz.sizeOf247
 v40:=Tryz.zeroValue247
 t152:=Tryz.underlying267
 a152:=Tryz.isAgg267
 z152:=Tryz.sizeOf267
 v152:=Tryz.zeroValue267
 t154:=Tryz.underlying269
 a154:=Tryz.isAgg269
 z154:=Tryz.sizeOf269
 v154:=Tryz.zeroValue269}
open Go.RowKit Go.Lib in
theorem Tryz.strings_FieldsFunc_runes (g:Nat) (lb:Array Value) (eg:∀args w,(callFunc g args).run Tryz.prog w=.ok (.enter g args) w) (p:Nat→Bool) (s:ByteArray) (w:World) (hs:s.size≤4294967296) (hp:PredAtRunes Tryz.prog g lb p w) :
 Calls Tryz.prog 241 #[.string s,.func (.func g) #[] lb] w fun e w'=>∃A,e=.returned (.slice (some ⟨A,0,none⟩) (Lib.goFieldsP p s).length (Lib.goFieldsP p s).length)∧w.heap.size≤A∧
  w'.ownsRow w.heap.size 9 1 (.slice (some ⟨A,0,none⟩) (Lib.goFieldsP p s).length (Lib.goFieldsP p s).length) (Lib.goFieldsP p s).length ((Lib.goFieldsP p s).map Value.string)∧Below w.heap.size w w':=Any.strings_FieldsFunc_runes Tryz.lays229 g lb eg p s w hs hp (by kernel_rfl) (by kernel_rfl)
open Go.RowKit Go.Lib in
theorem Tryz.strings_FieldsFunc (g:Nat) (lb:Array Value) (eg:∀args w,(callFunc g args).run Tryz.prog w=.ok (.enter g args) w) (p:Nat→Bool) (s:ByteArray) (w:World) (hs:s.size≤4294967296) (hp:PredAt Tryz.prog g lb encR p w) :
 Calls Tryz.prog 241 #[.string s,.func (.func g) #[] lb] w fun e w'=>∃A,e=.returned (.slice (some ⟨A,0,none⟩) (Lib.goFieldsP p s).length (Lib.goFieldsP p s).length)∧w.heap.size≤A∧
  w'.ownsRow w.heap.size 9 1 (.slice (some ⟨A,0,none⟩) (Lib.goFieldsP p s).length (Lib.goFieldsP p s).length) (Lib.goFieldsP p s).length ((Lib.goFieldsP p s).map Value.string)∧Below w.heap.size w w':=Any.strings_FieldsFunc Tryz.lays229 g lb eg p s w hs hp (by kernel_rfl) (by kernel_rfl)
def Tryz.laysSort_ren:Go.Shelf.Ren:=⟨fun|6=>59|15=>116|14=>115|28=>183|29=>184|20=>175|21=>176|22=>177|23=>178|24=>179|25=>180|26=>181|27=>182|46=>232|47=>233|48=>234|49=>235|50=>236|57=>254|n=>n,fun|22=>60|24=>63|25=>100|3=>3|39=>145|0=>0|53=>195|55=>197|4=>4|46=>188|45=>187|50=>192|5=>5|9=>9|66=>230|70=>234|76=>256|77=>37|n=>n,fun|n=>n⟩
theorem Tryz.laysSort:Go.Proofs.SlLaysF0.n6 Tryz.prog Tryz.laysSort_ren:={
 mixed:=by kernel_rfl
 f6:=⟨Tryz.f59.name,by decide,Tryz.func59.trans (congrArg some (by kernel_rfl))⟩
 f14:=⟨Tryz.f115.name,by decide,Tryz.func115.trans (congrArg some (by kernel_rfl))⟩
 f15:=Tryz.func116.trans (congrArg some (by kernel_rfl))
 f20:=⟨Tryz.f175.name,by decide,Tryz.func175.trans (congrArg some (by kernel_rfl))⟩
 f21:=⟨Tryz.f176.name,by decide,Tryz.func176.trans (congrArg some (by kernel_rfl))⟩
 f22:=⟨Tryz.f177.name,by decide,Tryz.func177.trans (congrArg some (by kernel_rfl))⟩
 f23:=⟨Tryz.f178.name,by decide,Tryz.func178.trans (congrArg some (by kernel_rfl))⟩
 f24:=⟨Tryz.f179.name,by decide,Tryz.func179.trans (congrArg some (by kernel_rfl))⟩
 f25:=⟨Tryz.f180.name,by decide,Tryz.func180.trans (congrArg some (by kernel_rfl))⟩
 f26:=⟨Tryz.f181.name,by decide,Tryz.func181.trans (congrArg some (by kernel_rfl))⟩
 f27:=⟨Tryz.f182.name,by decide,Tryz.func182.trans (congrArg some (by kernel_rfl))⟩
 f28:=Tryz.func183.trans (congrArg some (by kernel_rfl))
 f29:=Tryz.func184.trans (congrArg some (by kernel_rfl))
 f46:=⟨Tryz.f232.name,by decide,Tryz.func232.trans (congrArg some (by kernel_rfl))⟩
 f47:=Tryz.func233.trans (congrArg some (by kernel_rfl))
 f48:=Tryz.func234.trans (congrArg some (by kernel_rfl))
 f49:=⟨Tryz.f235.name,by decide,Tryz.func235.trans (congrArg some (by kernel_rfl))⟩
 f50:=⟨Tryz.f236.name,by decide,Tryz.func236.trans (congrArg some (by kernel_rfl))⟩
 f57:=⟨Tryz.f254.name,by decide,Tryz.func254.trans (congrArg some (by kernel_rfl))⟩
 t0:=Tryz.underlying0
 a0:=Tryz.isAgg0
 z0:=Tryz.sizeOf0
 v0:=Tryz.zeroValue0
 t3:=Tryz.underlying3
 a3:=Tryz.isAgg3
 z3:=Tryz.sizeOf3
 v3:=Tryz.zeroValue3
 t4:=Tryz.underlying4
 a4:=Tryz.isAgg4
 z4:=Tryz.sizeOf4
 v4:=Tryz.zeroValue4
 t5:=Tryz.underlying5
 a5:=Tryz.isAgg5
 z5:=Tryz.sizeOf5
 v5:=Tryz.zeroValue5
 t9:=Tryz.underlying9
 a9:=Tryz.isAgg9
 z9:=Tryz.sizeOf9
 v9:=Tryz.zeroValue9
 t22:=Tryz.underlying60
 a22:=Tryz.isAgg60
 z22:=Tryz.sizeOf60
 v22:=Tryz.zeroValue60
 t25:=Tryz.underlying100
 a25:=Tryz.isAgg100
 z25:=Tryz.sizeOf100
 v25:=Tryz.zeroValue100
 t39:=Tryz.underlying145
 a39:=Tryz.isAgg145
 z39:=Tryz.sizeOf145
 v39:=Tryz.zeroValue145
 t45:=Tryz.underlying187
 a45:=Tryz.isAgg187
 z45:=Tryz.sizeOf187
 v45:=Tryz.zeroValue187
 t46:=Tryz.underlying188
 a46:=Tryz.isAgg188
 z46:=Tryz.sizeOf188
 v46:=Tryz.zeroValue188
 t50:=Tryz.underlying192
 a50:=Tryz.isAgg192
 z50:=Tryz.sizeOf192
 v50:=Tryz.zeroValue192
 t53:=Tryz.underlying195
 a53:=Tryz.isAgg195
 z53:=Tryz.sizeOf195
 v53:=Tryz.zeroValue195
 t55:=Tryz.underlying197
 a55:=Tryz.isAgg197
 z55:=Tryz.sizeOf197
 v55:=Tryz.zeroValue197
 t66:=Tryz.underlying230
 a66:=Tryz.isAgg230
 z66:=Tryz.sizeOf230
 v66:=Tryz.zeroValue230
 t70:=Tryz.underlying234
 a70:=Tryz.isAgg234
 z70:=Tryz.sizeOf234
 v70:=Tryz.zeroValue234
 t76:=Tryz.underlying256
 a76:=Tryz.isAgg256
 z76:=Tryz.sizeOf256
 v76:=Tryz.zeroValue256
 t77:=Tryz.underlying37
 a77:=Tryz.isAgg37
 z77:=Tryz.sizeOf37
 v77:=Tryz.zeroValue37}
def Tryz.laysCmp_ren:Go.Shelf.Ren:=⟨fun|5=>62|7=>117|n=>n,fun|22=>3|3=>3|4=>4|n=>n,fun|n=>n⟩
theorem Tryz.laysCmp:Go.Proofs.SlLaysC2.n5 Tryz.prog Tryz.laysCmp_ren:={
 mixed:=by kernel_rfl
 f5:=⟨Tryz.f62.name,by decide,Tryz.func62.trans (congrArg some (by kernel_rfl))⟩
 f7:=⟨Tryz.f117.name,by decide,Tryz.func117.trans (congrArg some (by kernel_rfl))⟩
 t3:=Tryz.underlying3
 a3:=Tryz.isAgg3
 z3:=Tryz.sizeOf3
 v3:=Tryz.zeroValue3
 t4:=Tryz.underlying4
 a4:=Tryz.isAgg4
 z4:=Tryz.sizeOf4
 v4:=Tryz.zeroValue4
 t22:=Tryz.underlying3
 a22:=Tryz.isAgg3
 z22:=Tryz.sizeOf3
 v22:=Tryz.zeroValue3}
def Tryz.laysLen_ren:Go.Shelf.Ren:=⟨fun|125=>116|128=>183|129=>184|n=>n,fun|46=>145|3=>3|51=>195|53=>197|4=>4|5=>5|9=>9|n=>n,fun|n=>n⟩
theorem Tryz.laysLen:Go.Proofs.Lays.n125 Tryz.prog Tryz.laysLen_ren:={
 mixed:=by kernel_rfl
 f125:=Tryz.func116.trans (congrArg some (by kernel_rfl))
 f128:=Tryz.func183.trans (congrArg some (by kernel_rfl))
 f129:=Tryz.func184.trans (congrArg some (by kernel_rfl))
 t3:=Tryz.underlying3
 a3:=Tryz.isAgg3
 z3:=Tryz.sizeOf3
 v3:=Tryz.zeroValue3
 t4:=Tryz.underlying4
 a4:=Tryz.isAgg4
 z4:=Tryz.sizeOf4
 v4:=Tryz.zeroValue4
 t5:=Tryz.underlying5
 a5:=Tryz.isAgg5
 z5:=Tryz.sizeOf5
 v5:=Tryz.zeroValue5
 t9:=Tryz.underlying9
 a9:=Tryz.isAgg9
 z9:=Tryz.sizeOf9
 v9:=Tryz.zeroValue9
 t46:=Tryz.underlying145
 a46:=Tryz.isAgg145
 z46:=Tryz.sizeOf145
 v46:=Tryz.zeroValue145
 t51:=Tryz.underlying195
 a51:=Tryz.isAgg195
 z51:=Tryz.sizeOf195
 v51:=Tryz.zeroValue195
 t53:=Tryz.underlying197
 a53:=Tryz.isAgg197
 z53:=Tryz.sizeOf197
 v53:=Tryz.zeroValue197}
end Go.Proofs
namespace Go.Proofs.YtpaidiaknfhclaaGreatDoor
open Go Ev
open Go.Lib Go.RowKit
theorem z5h {X:Ending} (b:Bool) {b':Bool} (h:X=.returned (.bool b)) (e:b=b'):X=.returned (.bool b'):=e▸h
set_option maxHeartbeats 4000000 in
set_option maxRecDepth 1000000 in
theorem zy4 (s:ByteArray) (w:World) (hs:s.size≤1073741824) (hT:Lib.Utf8Tabs 0 1 w) :
 Calls Tryz.prog 126 #[.string s] w fun e w'=>e=.returned (.bool (vld s.data.toList))∧Below w.heap.size w w':=by
 have cV:Calls Tryz.prog 193 #[.string s] w _:=Any.utf8_ValidString Tryz.laysValid s w (by omega) hT
 have hvl:vld s.data.toList=(Lib.validD s.data.toList&&okN s.size s.data.toList):=by rw[Lib.size_eq];exact zaso _ _
 rw[hvl]
 clear hvl
 generalize Lib.validD s.data.toList=V at cV ⊢
 cases V with
 |false=>
  rw[Bool.false_and]
  go_enter Tryz.func126,Tryz.ntmps126
  go_wp2_with (go_at_call 193;refine cV.mono ?_;rintro e w' ⟨rfl,hb⟩)
  go_ret
  exact ⟨rfl,hb⟩
 |true=>
  rw[Bool.true_and]
  go_enter Tryz.func126,Tryz.ntmps126
  go_wp2_with (go_at_call 193;refine cV.mono ?_;rintro e w' ⟨rfl,hb⟩)
  go_loopg [4] (s.size+1) (fun gk s4 wx=>∃pos:Nat,wx.heap[w'.heap.size]?=some (.stringIter s pos)∧Below w.heap.size w wx∧
   okN gk (s.data.toList.drop pos)=okN s.size s.data.toList∧s.size≤pos+gk∧pos≤s.size)
  case atStart=>
   refine ⟨0,World.iter_heap w' s 0,hb.alloc hb.size _,?_,by omega,by omega⟩
   rw[List.drop_zero]
   exact zac4 _ _ _ (by rw[←Lib.size_eq];omega) (by rw[←Lib.size_eq];omega)
  case round=>
   obtain ⟨pos,hit,hbw,hok,hfu,hps⟩:=hrel
   have hdec:Lib.decodeL (s.data.toList.drop pos)=Utf8.decode s pos:=Lib.decodeL_drop s pos
   by_cases hlt:pos<s.size
   ·obtain ⟨g',rfl⟩:∃g',gk=g'+1:=⟨gk-1,by omega⟩
    have hnx:∀ty,(Instr.next (.pointer (some ⟨w'.heap.size,0,none⟩)) true ty).run Tryz.prog wr=_:=fun ty=>Lib.run_next_any_at wr w'.heap.size s pos ty hit hlt
    have hne:s.data.toList.drop pos≠[]:=by rw[Ne,List.drop_eq_nil_iff,←Lib.size_eq];omega
    have hwd:=zeq hne
    rw[hdec,List.length_drop,←Lib.size_eq]at hwd
    simp only[okN,hne,if_false,hdec,List.drop_drop]at hok
    obtain ⟨R,hR⟩:∃R,(Utf8.decode s pos).1=R:=⟨_,rfl⟩
    obtain ⟨K,hK⟩:∃K,(Utf8.decode s pos).2=K:=⟨_,rfl⟩
    rw[hR,hK]at hnx hok
    rw[hK]at hwd
    have hit2:=Lib.iterAt_heap wr w'.heap.size s pos (pos+K) hit
    have hbw2:=Lib.below_iterAt hbw (k:=w'.heap.size) hb.size s (pos+K)
    by_cases h1:R<32
    ·have hz:(R:Int)<32:=by omega
     have hb1:badC R=true:=zfg.2 (.inl h1)
     rw[if_pos hb1]at hok
     go_wp2
     go_ret
     first|exact ⟨rfl,hbw2⟩|exact ⟨z5h false rfl hok,hbw2⟩
    ·have hz:¬(R:Int)<32:=by omega
     by_cases h2:127≤R
     ·have hz2:(127:Int)≤(R:Int):=by omega
      by_cases h3:R≤159
      ·have hz3:(R:Int)≤159:=by omega
       have hb1:badC R=true:=zfg.2 (.inr (.inl ⟨h2,h3⟩))
       rw[if_pos hb1]at hok
       go_wp2
       go_ret
       first|exact ⟨rfl,hbw2⟩|exact ⟨z5h false rfl hok,hbw2⟩
      ·have hz3:¬(R:Int)≤159:=by omega
       by_cases h4:65535<R
       ·have hz4:(65535:Int)<(R:Int):=by omega
        have hb1:badC R=true:=zfg.2 (.inr (.inr h4))
        rw[if_pos hb1]at hok
        go_wp2
        go_ret
        first|exact ⟨rfl,hbw2⟩|exact ⟨z5h false rfl hok,hbw2⟩
       ·have hz4:¬(65535:Int)<(R:Int):=by omega
        have hb1:¬badC R=true:=fun h=>by rw[zfg]at h;omega
        rw[if_neg hb1]at hok
        go_wp2
        go_roundg g'
        case measure=>omega
        case rel=>exact ⟨pos+K,hit2,hbw2,hok,by omega,by omega⟩
     ·have hz2:¬(127:Int)≤(R:Int):=by omega
      have hz4:¬(65535:Int)<(R:Int):=by omega
      have hb1:¬badC R=true:=fun h=>by rw[zfg]at h;omega
      rw[if_neg hb1]at hok
      go_wp2
      go_roundg g'
      case measure=>omega
      case rel=>exact ⟨pos+K,hit2,hbw2,hok,by omega,by omega⟩
   ·have:pos=s.size:=by omega
    subst this
    have hnx:∀ty,(Instr.next (.pointer (some ⟨w'.heap.size,0,none⟩)) true ty).run Tryz.prog wr=_:=fun ty=>Lib.run_next_end_at wr w'.heap.size s s.size ty hit hlt
    have hnil:s.data.toList.drop s.size=[]:=by rw[Lib.size_eq];simp
    have hok2:okN s.size s.data.toList=true:=by rw[←hok,hnil];cases gk<;>simp[okN]
    go_wp2
    go_ret
    first|exact ⟨rfl,hbw⟩|exact ⟨z5h true rfl hok2.symm,hbw⟩
set_option maxRecDepth 1000000 in
theorem zwm (R:Nat) (hR:R≤1114111) (w:World):Calls Tryz.prog 242 #[.int .i32 (R:Int)] w fun e w'=>e=.returned (.bool (blk R))∧∃q,w'=w.drewN q:=by
 by_cases h1:R=32
 ·subst h1
  go_enter Tryz.func242,Tryz.ntmps242
  go_wp2
  go_ret
  exact ⟨rfl,0,rfl⟩
 ·have z1:¬(R:Int)=32:=by omega
  by_cases h2:R=160
  ·subst h2
   go_enter Tryz.func242,Tryz.ntmps242
   go_wp2
   go_ret
   exact ⟨rfl,0,rfl⟩
  ·have z2:¬(R:Int)=160:=by omega
   have hb:blk R=false:=by unfold blk;simp[h1,h2]
   go_enter Tryz.func242,Tryz.ntmps242
   go_wp2
   go_ret
   exact ⟨z5h ((R:Int)==32||(R:Int)==160) rfl (by rw[hb,Bool.or_eq_false_iff];exact ⟨by simp;omega,by simp;omega⟩),0,rfl⟩
set_option maxHeartbeats 4000000 in
set_option maxRecDepth 1000000 in
theorem zw3 (s:ByteArray) (w:World) (hs:s.size≤1073741824) (hv:vld s.data.toList=true) :
 Calls Tryz.prog 198 #[.string s] w fun e w'=>e=.returned (.string ⟨(cln s.data.toList).toArray⟩)∧Below w.heap.size w w':=by
 have eg:∀args w,(callFunc 242 args).run Tryz.prog w=.ok (.enter 242 args) w:=enters_of Tryz.func242 (by kernel_rfl) rfl
 have hp:PredAtRunes Tryz.prog 242 #[] blk w:=fun W x hx hb=>by
  exact zwm x hx W
 have cF:=Tryz.strings_FieldsFunc_runes 242 #[] eg blk s w (by omega) hp
 have hj:=zw4 (s:=s) (p:=blk) (fun _=>rfl) hv
 have hlen:(cln s.data.toList).length≤2*s.size:=zajo s
 obtain ⟨Fs,hFs⟩:∃Fs,Lib.goFieldsP blk s=Fs:=⟨_,rfl⟩
 have hfl:=zxh blk s
 rw[hFs]at hj cF hfl
 have cJ:∀A W,Below w.heap.size w W→W.ownsRow w.heap.size 9 1 (.slice (some ⟨A,0,none⟩) Fs.length Fs.length) Fs.length (Fs.map Value.string)→
  Calls Tryz.prog 240 #[.slice (some ⟨A,0,none⟩) Fs.length Fs.length,.string ⟨#[32]⟩] W fun e w'=>e=.returned (.string ⟨(cln s.data.toList).toArray⟩)∧Below w.heap.size w w':=by
  intro A W hb hrow
  by_cases h0:Fs=[]
  ·subst h0
   have:=Tryz.strings_Join_none (some ⟨A,0,none⟩) 0 ⟨#[32]⟩ W
   refine this.mono ?_
   rintro e w' ⟨rfl,rfl⟩
   rw[←hj]
   exact ⟨rfl,hb⟩
  ·obtain ⟨-,h|⟨g,cap,cur,hv2,hbg,hh,hn,hmx,hcs,hct⟩⟩:=hrow
   ·exact absurd (List.length_eq_zero_iff.1 h.2) h0
   ·injection hv2 with e1 e2 e3
    injection e1 with e1
    injection e1 with e1
    subst e1
    have hj2:(Lib.join (Fs.map (·.data.toList)) (⟨#[32]⟩:ByteArray).data.toList)=cln s.data.toList:=hj
    have:=Tryz.strings_Join A 0 Fs.length Fs ⟨#[32]⟩ W (fun j x hx=>by
     rw[Nat.mul_one]at hct
     have hj3:j<Fs.length:=(List.getElem?_eq_some_iff.1 hx).1
     have e4:cur.toList[j]?=some (Value.string x):=by
      rw[←List.getElem?_take_of_lt hj3,hct,List.getElem?_map,hx];rfl
     rw[Array.getElem?_toList]at e4
     rw[Nat.zero_add]
     simp only[World.cell?,hh]
     exact e4) (Array.getElem?_eq_some_iff.1 hh).1 (by omega) (Nat.le_refl _) (by rw[hj2];omega)
    refine this.mono ?_
    rintro e w' ⟨rfl,hb2⟩
    rw[hj2]
    exact ⟨rfl,hb.trans (hb2.mono hb.size)⟩
 clear hj hlen hFs hfl
 go_enter Tryz.func198,Tryz.ntmps198
 go_wp2_with (first|(go_at_call 241;refine cF.mono ?_;rintro e w' ⟨A,rfl,hA,hrow,hb⟩)|(go_at_call 240;refine (cJ A _ hb hrow).mono ?_;rintro e w'' ⟨rfl,hb2⟩))
 go_ret
 exact ⟨rfl,hb2⟩
end Go.Proofs.YtpaidiaknfhclaaGreatDoor
namespace Go.Proofs.YtpaidiaknfhclaaGreatDoor
open Go Ev
theorem zgj:∃i0 z,Tryz.prog.info? 53=some i0∧i0.zero=some z∧z.cells.size=10∧i0.size=10∧i0.bytes≤128:=by
 have h:(match Tryz.prog.info? 53 with|some i=>(match i.zero with|some z=>Nat.beq z.cells.size 10&&Nat.beq i.size 10&&Nat.ble i.bytes 128|none=>false)|none=>false)=true:=by kernel_rfl
 split at h
 ·rename_i i hi
  split at h
  ·rename_i z hz
   simp only[Bool.and_eq_true]at h
   exact ⟨i,z,hi,hz,Nat.eq_of_beq_eq_true h.1.1,Nat.eq_of_beq_eq_true h.1.2,Nat.le_of_ble_eq_true h.2⟩
  ·cases h
 ·cases h
set_option maxHeartbeats 4000000 in
set_option maxRecDepth 100000 in
theorem zka {w:World} {b n c i vb vo vc:Nat} {L vs:List Value} {t:TypeId} (hi:i<n) (hroom:n+1≤c) (hlim:n+1≤1073741824) (hvb:vb≠b)
 (hb:w.heap[b]?=some (.cells L.toArray t (0,0))) (hL:L.length=c*10) (hvl:vs.length=10)
 (hvs:∀j v,vs[j]?=some v→w.cell? ⟨vb,vo+j,none⟩=some v) (h1:∀v∈(L.drop (i*10)).take ((n-i)*10),v.oneCell'=true) (h2:∀v∈vs,v.oneCell'=true) :
 Calls Tryz.prog 102 #[.slice (some ⟨b,0,none⟩) n c,.int .i64 i,.slice (some ⟨vb,vo,none⟩) 1 vc] w fun e w'=>
  e=.returned (.slice (some ⟨b,0,none⟩) (n+1) c)∧w'=(w.drew.setRow b (Go.splice L ((i+1)*10) ((L.drop (i*10)).take ((n-i)*10))).toArray).setRow b (Go.splice (Go.splice L ((i+1)*10) ((L.drop (i*10)).take ((n-i)*10))) (i*10) vs).toArray:=by
 obtain ⟨i0,z0,hi0,hz0,hzs,hsz,hby⟩:=zgj
 have hz2:¬((i:Int)=(n:Int)):=by omega
 have hva:∃va ta fa,w.heap[vb]?=some (.cells va ta fa)∧0<va.size:=by
  have h:=hvs 0 _ (List.getElem?_eq_getElem (by omega))
  unfold World.cell? at h
  split at h
  ·rename_i c0 t0 f0 hc0
   exact ⟨c0,t0,f0,hc0,by have:=(Array.getElem?_eq_some_iff.1 h).1;omega⟩
  ·cases h
 obtain ⟨va,ta,fa,hva,hva0⟩:=hva
 have hov:∀lb cb,(callFunc 154 #[.slice (some ⟨vb,vo,none⟩) 1 vc,.slice (some ⟨b,(i+1)*10,none⟩) lb cb]).run Tryz.prog w=.ok (.value (.bool false)) w:=fun lb cb=>by
  rw[run_callFunc_extern Tryz.func154 (by kernel_rfl) (by kernel_rfl) (by kernel_rfl) (e:=Extern.SlicesOverlaps.overlaps #[22,22] #[4]) (by kernel_rfl),
   zc9 Tryz.underlying22 hi0 (a:=⟨vb,vo,none⟩) (b:=⟨b,(i+1)*10,none⟩) hvb hva hva0 hb (by simp only[List.size_toArray];omega)]
  rfl
 have hLn:(n+1)*10≤L.length:=by rw[hL];exact Nat.mul_le_mul_right _ hroom
 obtain ⟨C1,hC1⟩:∃C1,C1=(L.drop (i*10)).take ((n-i)*10):=⟨_,rfl⟩
 have hC1l:C1.length=(n-i)*10:=by rw[hC1];simp;omega
 obtain ⟨M1,hM1⟩:∃M1,M1=Go.splice L ((i+1)*10) C1:=⟨_,rfl⟩
 have hM1l:M1.length=L.length:=by rw[hM1];exact length_splice _ _ _ (by omega)
 rw[←hC1,←hM1]
 have hcp1:∀ty dc sc,(Builtin.copy_ #[22,22] ty #[.slice (some ⟨b,(i+1)*10,none⟩) (n-i) dc,.slice (some ⟨b,i*10,none⟩) (n+1-i) sc]).run Tryz.prog w.drew=.ok (goInt ((n-i:Nat):Int)) (w.drew.setRow b M1.toArray):=fun ty dc sc=>by
  have hmin:Nat.min (n+1-i) (n-i)=n-i:=by show min _ _=_;omega
  have:=zbc (P:=Tryz.prog) (w:=w.drew) (sT:=22) (ty:=ty) (dCap:=dc) (sCap:=sc) (dLen:=n-i) (sLen:=n+1-i) (o:=(i+1)*10) (a:=⟨b,i*10,none⟩) Tryz.underlying22 hi0 hsz hb (cs:=C1) (by rw[hmin];exact hC1l)
   (fun j v hj=>by
    rw[Addr.add_lit]
    show w.cell? _=_
    simp only[World.cell?,hb]
    rw[hC1,List.getElem?_take]at hj
    split at hj
    ·simpa using hj
    ·cases hj) (by omega) (by rw[hC1];exact h1)
  rw[hmin,←hM1]at this
  exact this
 have hcp2:∀(W:World),W=(w.drew.setRow b M1.toArray)→∀ty dc,(Builtin.copy_ #[22,22] ty #[.slice (some ⟨b,i*10,none⟩) (n+1-i) dc,.slice (some ⟨vb,vo,none⟩) 1 vc]).run Tryz.prog W=.ok (goInt 1) (W.setRow b (Go.splice M1 (i*10) vs).toArray):=fun W hW ty dc=>by
  have hmin:Nat.min 1 (n+1-i)=1:=by show min _ _=_;omega
  have:=zbc (P:=Tryz.prog) (w:=W) (sT:=22) (ty:=ty) (dCap:=dc) (sCap:=vc) (dLen:=n+1-i) (sLen:=1) (o:=i*10) (a:=⟨vb,vo,none⟩) Tryz.underlying22 hi0 hsz (g:=b) (t:=t) (L:=M1) (by rw[hW];exact setRow_heap _ _ _ _ _ _ hb) (cs:=vs) (by rw[hmin];omega)
   (fun j v hj=>by
    rw[Addr.add_lit,hW,cell_setRow_other _ _ _ _ hvb]
    exact hvs j v hj) (by omega) h2
  rw[hmin]at this
  exact this
 have hw1:IntKind.i64.wrap ((i:Int)+1)=(i:Int)+1:=by rw[IntKind.wrap_i64];omega
 have hb1:(0:Int)≤(i:Int)+1:=by omega
 have hin:i≤n:=by omega
 have htn:((i:Int)+1).toNat=i+1:=by omega
 have hb2:¬(c=i+1):=by omega
 have hb3:(i:Int)≤(n:Int)+1:=by omega
 have hb4:¬(c=i):=by omega
 have mixed:Tryz.prog.follows .mixedOrders=true:=by kernel_rfl
 clear hC1 hM1 hC1l hM1l h1 h2 hvs hL
 go_enter Tryz.func102,Tryz.ntmps102
 go_wp2_with (simp only[hov])
 go_region_law_o (refine zcw rfl _ _ 22 22 rfl _ _ (by simp[Act.eval,Act.put]) (by simp[Act.eval,Act.put]) (hcp1 _ _ _) ?_)
 go_wp2_with (at_builtin;refine zj5 rfl _ _ 22 22 rfl _ _ rfl rfl (hcp2 _ rfl _ _) ?_)
 go_ret
 exact ⟨rfl,rfl⟩
theorem zkk {i0:TypeInfo} {k c:Nat} (h:c<k) (hk:k≤1073741824) (hby:i0.bytes≤128):Builtin.nextslicecap k c*i0.bytes≤281474976710656:=
 growslice_fits h (Nat.le_trans (Nat.mul_le_mul hk hby) (by decide))
set_option maxHeartbeats 4000000 in
set_option maxRecDepth 100000 in
theorem zm3 {w:World} {b n c vb vo vc:Nat} {L vs:List Value} {t:TypeId} (hroom:n+1≤c) (hlim:n+1≤1073741824)
 (hb:w.heap[b]?=some (.cells L.toArray t (0,0))) (hL:L.length=c*10) (hvl:vs.length=10)
 (hvs:∀j v,vs[j]?=some v→w.cell? ⟨vb,vo+j,none⟩=some v) (h2:∀v∈vs,v.oneCell'=true) :
 Calls Tryz.prog 102 #[.slice (some ⟨b,0,none⟩) n c,.int .i64 n,.slice (some ⟨vb,vo,none⟩) 1 vc] w fun e w'=>
  e=.returned (.slice (some ⟨b,0,none⟩) (n+1) c)∧w'=w.setRow b (Go.splice L (n*10) vs).toArray:=by
 obtain ⟨i0,z0,hi0,hz0,hzs,hsz,hby⟩:=zgj
 have hLn:(n+1)*10≤L.length:=by rw[hL];exact Nat.mul_le_mul_right _ hroom
 have hf:=run_firstCells_some (P:=Tryz.prog) w i0.size 1 ⟨vb,vo,none⟩ 1 vc vs (by omega) (fun j v hj=>by rw[Addr.add_lit];exact hvs j v hj)
 have hap:∀ty,(Builtin.append_ #[22,22] ty #[.slice (some ⟨b,0,none⟩) n c,.slice (some ⟨vb,vo,none⟩) 1 vc]).run Tryz.prog w=.ok (.slice (some ⟨b,0,none⟩) (n+1) c) (w.setRow b (Go.splice L (n*10) vs).toArray):=fun ty=>by
  have:=zbv (P:=Tryz.prog) (w:=w) (ty:=ty) (ts:=#[22,22]) rfl rfl Tryz.underlying22 Tryz.underlying22 hi0 hf hroom hb (by simp only[List.size_toArray];rw[hsz];omega) h2
  rw[hsz]at this
  simpa[Go.splice]using this
 go_enter Tryz.func102,Tryz.ntmps102
 go_wp2_with (at_builtin;refine zbd rfl _ _ _ _ rfl _ _ rfl rfl (hap _) ?_)
 all_goals (go_ret;exact ⟨rfl,rfl⟩)
set_option maxHeartbeats 4000000 in
set_option maxRecDepth 100000 in
theorem zox {w:World} {base:Option Addr} {n c vb vo vc:Nat} {olds vs:List Value} (hnc:n≤c) (hroom:c<n+1) (hlim:n+1≤1073741824) (hvl:vs.length=10)
 (hnil:base=none→n=0) (hol:olds.length=n*10) (hos:∀a,base=some a→∀j v,olds[j]?=some v→w.cell? (a.add j)=some v)
 (hvs:∀j v,vs[j]?=some v→w.cell? ⟨vb,vo+j,none⟩=some v) :
 Calls Tryz.prog 102 #[.slice base n c,.int .i64 n,.slice (some ⟨vb,vo,none⟩) 1 vc] w fun e w'=>
  ∃cap zs,e=.returned (.slice (some ⟨w.heap.size,0,none⟩) (n+1) cap)∧w'=w.drew.alloc (.cells (olds++(vs++zs)).toArray 53)∧n+1≤cap∧zs.length=(cap-(n+1))*10:=by
 obtain ⟨i0,z0,hi0,hz0,hzs,hsz,hby⟩:=zgj
 have hf:=run_firstCells_some (P:=Tryz.prog) w.drew i0.size 1 ⟨vb,vo,none⟩ 1 vc vs (by omega) (fun j v hj=>by rw[Addr.add_lit];exact hvs j v hj)
 have hold:(Builtin.firstCells i0.size n (.slice base n c)).run Tryz.prog w.drew=.ok olds.toArray w.drew:=by
  cases base with
  |none=>
   have h0:=hnil rfl
   subst h0
   rw[List.length_eq_zero_iff.1 (by omega:olds.length=0)]
   exact run_firstCells_none w.drew _ 0 0 c
  |some a=>exact run_firstCells_some w.drew _ n a n c olds (by rw[hsz];omega) (fun j v hj=>hos a rfl j v hj)
 have hap:∀ty,(Builtin.append_ #[22,22] ty #[.slice base n c,.slice (some ⟨vb,vo,none⟩) 1 vc]).run Tryz.prog w=_:=fun ty=>
  zb7 (P:=Tryz.prog) (w:=w) (ty:=ty) (ts:=#[22,22]) rfl rfl Tryz.underlying22 Tryz.underlying22 hi0 hz0 hf hold hroom (by omega) (zkk hroom hlim hby)
 have hge:=zbz w (n+1) c 53
 obtain ⟨G,hG⟩:∃G,G=grownCap w (n+1) c 53:=⟨_,rfl⟩
 obtain ⟨zs,hzs'⟩:∃zs,zs=(Builtin.zeroCells z0.cells (G-(n+1))).toList:=⟨_,rfl⟩
 rw[←hG]at hap hge
 rw[←hzs']at hap
 have hzl:zs.length=(G-(n+1))*10:=by rw[hzs',Array.length_toList,size_zeroCells,hzs]
 clear hG hzs'
 go_enter Tryz.func102,Tryz.ntmps102
 cases base with
 |none=>
  have h0:=hnil rfl
  subst h0
  go_wp2_with (at_builtin;refine zbd rfl _ _ _ _ rfl _ _ rfl rfl (hap _) ?_)
  all_goals (go_ret;first|exact ⟨_,_,rfl,rfl,hge,hzl⟩|exact ⟨_,rfl,_,rfl,hge,hzl⟩)
 |some a=>
  obtain ⟨ab,ao,asp⟩:=a
  go_wp2_with (at_builtin;refine zbd rfl _ _ _ _ rfl _ _ rfl rfl (hap _) ?_)
  all_goals (go_ret;first|exact ⟨_,_,rfl,rfl,hge,hzl⟩|exact ⟨_,rfl,_,rfl,hge,hzl⟩)
set_option maxHeartbeats 4000000 in
set_option maxRecDepth 100000 in
theorem zm2 {w:World} {b n c i vb vo vc:Nat} {L vs:List Value} {t:TypeId} (hi:i<n) (hnc:n≤c) (hroom:c<n+1) (hlim:n+1≤1073741824) (hvb:vb≠b)
 (hb:w.heap[b]?=some (.cells L.toArray t (0,0))) (hL:L.length=c*10) (hvl:vs.length=10)
 (hvs:∀j v,vs[j]?=some v→w.cell? ⟨vb,vo+j,none⟩=some v) (h1:∀v∈(L.drop (i*10)).take ((n-i)*10),v.oneCell'=true) (h2:∀v∈vs,v.oneCell'=true) :
 Calls Tryz.prog 102 #[.slice (some ⟨b,0,none⟩) n c,.int .i64 i,.slice (some ⟨vb,vo,none⟩) 1 vc] w fun e w'=>
  ∃cap row,e=.returned (.slice (some ⟨w.heap.size,0,none⟩) (n+1) cap)∧n+1≤cap∧row.length=cap*10∧row.take (i*10)=L.take (i*10)∧
   w'.heap=(w.heap.push (.cells (Go.splice (Go.splice row (i*10) vs) ((i+1)*10) ((L.drop (i*10)).take ((n-i)*10))).toArray 53))∧w'.os=w.os∧w'.output=w.output∧w'.tape=w.tape:=by
 obtain ⟨i0,z0,hi0,hz0,hzs,hsz,hby⟩:=zgj
 have hz2:¬((i:Int)=(n:Int)):=by omega
 have hz3:(c:Int)<(n:Int)+1:=by omega
 have hLn:n*10≤L.length:=by rw[hL];exact Nat.mul_le_mul_right _ hnc
 have hbw:b<w.heap.size:=(Array.getElem?_eq_some_iff.1 hb).1
 have hvw:vb<w.heap.size:=by
  have h:=hvs 0 _ (List.getElem?_eq_getElem (by omega))
  unfold World.cell? at h
  split at h
  ·rename_i c0 t0 f0 hc0
   exact (Array.getElem?_eq_some_iff.1 hc0).1
  ·cases h
 have hkk:(n:Int)+1-(i:Int)=((n+1-i:Nat):Int):=by omega
 have hik:i+(n+1-i)=n+1:=by omega
 have hTl:(L.take (i*10)).length=i*10:=by simp;omega
 have hold:(Builtin.firstCells i0.size i (.slice (some ⟨b,0,none⟩) i c)).run Tryz.prog w.drew=.ok (L.take (i*10)).toArray w.drew:=by
  refine run_firstCells_some w.drew _ i ⟨b,0,none⟩ i c (L.take (i*10)) (by rw[hsz];exact hTl) (fun j v hj=>?_)
  rw[Addr.add_lit,Nat.zero_add]
  show w.cell? _=_
  simp only[World.cell?,hb]
  rw[List.getElem?_take]at hj
  split at hj
  ·simpa using hj
  ·cases hj
 have hrz:∀ty,(Builtin.append_ #[22,3] ty #[.slice (some ⟨b,0,none⟩) i c,.int .i64 ((n:Int)+1-(i:Int))]).run Tryz.prog w =
  .ok (.slice (some ⟨w.heap.size,0,none⟩) (n+1) (grownCap w (n+1) c 53)) (w.drew.alloc (.cells ((L.take (i*10)).toArray++Builtin.zeroCells z0.cells (n+1-i)++Builtin.zeroCells z0.cells (grownCap w (n+1) c 53-(n+1))) 53)):=fun ty=>by
  have h:=Lib.run_append_grow_zeros w 22 3 ty 53 i0 _ .i64 .i64 Tryz.underlying22 Tryz.underlying3 hi0 hz0 (some ⟨b,0,none⟩) i c _ hold (n+1-i) (by omega) (by omega) (by omega) (by omega)
   (Nat.le_trans (Nat.mul_le_mul (show n+1-i≤1073741824 by omega) hby) (by decide)) (by rw[hik];exact zkk hroom hlim hby)
  rw[hik]at h
  rw[hkk]
  exact h
 have hge:=zbz w (n+1) c 53
 obtain ⟨G,hG⟩:∃G,G=grownCap w (n+1) c 53:=⟨_,rfl⟩
 rw[←hG]at hrz hge
 have hG63:G≤9223372036854775807:=by
  have:=grownCap_le_maxLen w (n+1) c 53 (by unfold maxLen;omega)
  rw[←hG]at this
  unfold maxLen at this
  omega
 obtain ⟨R,hR⟩:∃R:List Value,R=L.take (i*10)++((Builtin.zeroCells z0.cells (n+1-i)).toList++(Builtin.zeroCells z0.cells (G-(n+1))).toList):=⟨_,rfl⟩
 have hRl:R.length=G*10:=by
  rw[hR]
  simp only[List.length_append,Array.length_toList,size_zeroCells,hzs,hTl]
  rw[←Nat.add_mul,←Nat.add_mul]
  congr 1
  omega
 have hRt:R.take (i*10)=L.take (i*10):=by rw[hR,List.take_append_of_le_length (by omega),List.take_of_length_le (by omega)]
 have hRe:(L.take (i*10)).toArray++Builtin.zeroCells z0.cells (n+1-i)++Builtin.zeroCells z0.cells (G-(n+1))=R.toArray:=by
  rw[hR];apply Array.ext';simp
 rw[hRe]at hrz
 obtain ⟨C1,hC1⟩:∃C1,C1=(L.drop (i*10)).take ((n-i)*10):=⟨_,rfl⟩
 have hC1l:C1.length=(n-i)*10:=by rw[hC1];simp;omega
 have hGn:(n+1)*10≤R.length:=by rw[hRl];exact Nat.mul_le_mul_right _ hge
 obtain ⟨M1,hM1⟩:∃M1,M1=Go.splice R (i*10) vs:=⟨_,rfl⟩
 have hM1l:M1.length=R.length:=by rw[hM1];exact length_splice _ _ _ (by omega)
 rw[←hC1]
 obtain ⟨gb,hgb⟩:∃gb,gb=w.heap.size:=⟨_,rfl⟩
 have hnew:∀W:World,W.heap=w.heap.push (.cells R.toArray 53)→W.heap[gb]?=some (.cells R.toArray 53 (0,0)):=fun W hW=>by rw[hW,hgb];simp
 have hpast:∀W:World,W.heap=w.heap.push (.cells R.toArray 53)→∀k,k<w.heap.size→W.heap[k]?=w.heap[k]?:=fun W hW k hk=>by rw[hW,Array.getElem?_push_lt hk];simp[hk]
 have hcpA:∀(W:World),W.heap=w.heap.push (.cells R.toArray 53)→∀ty dc,(Builtin.copy_ #[22,22] ty #[.slice (some ⟨gb,i*10,none⟩) (n+1-i) dc,.slice (some ⟨vb,vo,none⟩) 1 vc]).run Tryz.prog W=.ok (goInt 1) (W.setRow gb M1.toArray):=fun W hW ty dc=>by
  have hmin:Nat.min 1 (n+1-i)=1:=by show min _ _=_;omega
  have:=zbc (P:=Tryz.prog) (w:=W) (sT:=22) (ty:=ty) (dCap:=dc) (sCap:=vc) (dLen:=n+1-i) (sLen:=1) (o:=i*10) (a:=⟨vb,vo,none⟩) Tryz.underlying22 hi0 hsz (g:=gb) (t:=53) (L:=R) (hnew W hW) (cs:=vs) (by rw[hmin];omega)
   (fun j v hj=>by
    rw[Addr.add_lit]
    unfold World.cell?
    rw[show W.heap[(⟨vb,vo+j,none⟩:Addr).block]?=w.heap[vb]? from hpast W hW vb hvw]
    exact hvs j v hj) (by omega) h2
  rw[hmin,←hM1]at this
  exact this
 have hcpB:∀(W W0:World),W0.heap=w.heap.push (.cells R.toArray 53)→W.heap=(W0.setRow gb M1.toArray).heap→∀ty dc sc,(Builtin.copy_ #[22,22] ty #[.slice (some ⟨gb,(i+1)*10,none⟩) (n-i) dc,.slice (some ⟨b,i*10,none⟩) (n-i) sc]).run Tryz.prog W=.ok (goInt ((n-i:Nat):Int)) (W.setRow gb (Go.splice M1 ((i+1)*10) C1).toArray):=fun W W0 hW0 hW ty dc sc=>by
  have hmin:Nat.min (n-i) (n-i)=n-i:=by show min _ _=_;omega
  have:=zbc (P:=Tryz.prog) (w:=W) (sT:=22) (ty:=ty) (dCap:=dc) (sCap:=sc) (dLen:=n-i) (sLen:=n-i) (o:=(i+1)*10) (a:=⟨b,i*10,none⟩) Tryz.underlying22 hi0 hsz (g:=gb) (t:=53) (L:=M1) (by rw[hW];exact setRow_heap _ _ _ _ _ _ (hnew W0 hW0)) (cs:=C1) (by rw[hmin];exact hC1l)
   (fun j v hj=>by
    rw[Addr.add_lit]
    unfold World.cell?
    have e:W.heap[(⟨b,i*10+j,none⟩:Addr).block]?=w.heap[b]?:=by
     show W.heap[b]?=_
     rw[hW,setRow_other _ _ _ _ (by omega),hpast W0 hW0 b hbw]
    rw[e,hb]
    rw[hC1,List.getElem?_take]at hj
    split at hj
    ·simpa using hj
    ·cases hj) (by omega) (by rw[hC1];exact h1)
  rw[hmin]at this
  exact this
 have hw1:IntKind.i64.wrap ((i:Int)+1)=(i:Int)+1:=by rw[IntKind.wrap_i64];omega
 have hb1:(0:Int)≤(i:Int)+1:=by omega
 have hin:i≤n:=by omega
 have htn:((i:Int)+1).toNat=i+1:=by omega
 have hb3:(i:Int)≤(n:Int):=by omega
 have hGi:¬(G=i):=by omega
 have hGim:¬(G=i+1):=by omega
 have hci:¬(c=i):=by omega
 have hmixed:Tryz.prog.follows .mixedOrders=true:=by kernel_rfl
 have mixed:=hmixed
 have hfin:∀W W0:World,W0.heap=w.heap.push (.cells R.toArray 53)→W.heap=(W0.setRow gb M1.toArray).heap→(W.setRow gb (Go.splice M1 ((i+1)*10) C1).toArray).heap=w.heap.push (.cells (Go.splice M1 ((i+1)*10) C1).toArray 53):=fun W W0 hW0 hW=>by
  have h1:W.heap[gb]?=some (.cells M1.toArray 53 (0,0)):=by rw[hW];exact setRow_heap _ _ _ _ _ _ (hnew W0 hW0)
  have hsz0:W.heap.size=w.heap.size+1:=by rw[hW,setRow_size,hW0];simp
  apply Array.ext_getElem?
  intro k
  by_cases hk:k=gb
  ·subst hk
   rw[setRow_heap _ _ _ _ _ _ h1,hgb];simp
  ·rw[setRow_other _ _ _ _ hk]
   by_cases hk2:k<w.heap.size
   ·rw[hW,setRow_other _ _ _ _ hk,hpast W0 hW0 k hk2,Array.getElem?_push_lt hk2];simp[hk2]
   ·rw[Array.getElem?_eq_none (by omega),Array.getElem?_eq_none (by simp;omega)]
 have hMM:Go.splice (Go.splice R (i*10) vs) ((i+1)*10) C1=Go.splice M1 ((i+1)*10) C1:=by rw[hM1]
 subst hgb
 have hcpA':=hcpA ((w.alloc (.cells R.toArray 53)).drew) rfl
 clear hkk hcpA hik hold hG hR hRe hC1 hM1 hC1l hM1l h1 h2 hvs hL hTl
 go_enter Tryz.func102,Tryz.ntmps102
 go_wp2_with (at_builtin;refine zbd rfl _ _ _ _ rfl _ _ rfl rfl (hrz _) ?_)
 go_region_law_o (refine zcw rfl _ _ 22 22 rfl (.slice (some ⟨w.heap.size,(i+1)*10,none⟩) (n-i) (G-(i+1))) (.slice (some ⟨b,i*10,none⟩) (n-i) (c-i)) (by simp[Act.eval,Act.put]) (by simp[Act.eval,Act.put]) (hcpB (((w.alloc (.cells R.toArray 53)).drew.setRow w.heap.size M1.toArray).drew) (w.drew.alloc (.cells R.toArray 53)) rfl rfl 3 (G-(i+1)) (c-i)) ?_)
 go_wp2
 go_ret
 refine ⟨G,R,rfl,hge,hRl,hRt,?_,rfl,rfl,rfl⟩
 rw[hMM]
 exact hfin _ (w.drew.alloc (.cells R.toArray 53)) rfl rfl
end Go.Proofs.YtpaidiaknfhclaaGreatDoor
namespace Go.Proofs.YtpaidiaknfhclaaGreatDoor
open Go Ev
theorem zes:∃i0 z,Tryz.prog.info? 71=some i0∧i0.zero=some z∧z.cells.size=6∧i0.size=6∧i0.bytes≤128:=by
 have h:(match Tryz.prog.info? 71 with|some i=>(match i.zero with|some z=>Nat.beq z.cells.size 6&&Nat.beq i.size 6&&Nat.ble i.bytes 128|none=>false)|none=>false)=true:=by kernel_rfl
 split at h
 ·rename_i i hi
  split at h
  ·rename_i z hz
   simp only[Bool.and_eq_true]at h
   exact ⟨i,z,hi,hz,Nat.eq_of_beq_eq_true h.1.1,Nat.eq_of_beq_eq_true h.1.2,Nat.le_of_ble_eq_true h.2⟩
  ·cases h
 ·cases h
set_option maxHeartbeats 4000000 in
set_option maxRecDepth 100000 in
theorem zhk {w:World} {b n c i vb vo vc:Nat} {L vs:List Value} {t:TypeId} (hi:i<n) (hroom:n+1≤c) (hlim:n+1≤1073741824) (hvb:vb≠b)
 (hb:w.heap[b]?=some (.cells L.toArray t (0,0))) (hL:L.length=c*6) (hvl:vs.length=6)
 (hvs:∀j v,vs[j]?=some v→w.cell? ⟨vb,vo+j,none⟩=some v) (h1:∀v∈(L.drop (i*6)).take ((n-i)*6),v.oneCell'=true) (h2:∀v∈vs,v.oneCell'=true) :
 Calls Tryz.prog 210 #[.slice (some ⟨b,0,none⟩) n c,.int .i64 i,.slice (some ⟨vb,vo,none⟩) 1 vc] w fun e w'=>
  e=.returned (.slice (some ⟨b,0,none⟩) (n+1) c)∧w'=(w.drew.setRow b (Go.splice L ((i+1)*6) ((L.drop (i*6)).take ((n-i)*6))).toArray).setRow b (Go.splice (Go.splice L ((i+1)*6) ((L.drop (i*6)).take ((n-i)*6))) (i*6) vs).toArray:=by
 obtain ⟨i0,z0,hi0,hz0,hzs,hsz,hby⟩:=zes
 have hz2:¬((i:Int)=(n:Int)):=by omega
 have hva:∃va ta fa,w.heap[vb]?=some (.cells va ta fa)∧0<va.size:=by
  have h:=hvs 0 _ (List.getElem?_eq_getElem (by omega))
  unfold World.cell? at h
  split at h
  ·rename_i c0 t0 f0 hc0
   exact ⟨c0,t0,f0,hc0,by have:=(Array.getElem?_eq_some_iff.1 h).1;omega⟩
  ·cases h
 obtain ⟨va,ta,fa,hva,hva0⟩:=hva
 have hov:∀lb cb,(callFunc 243 #[.slice (some ⟨vb,vo,none⟩) 1 vc,.slice (some ⟨b,(i+1)*6,none⟩) lb cb]).run Tryz.prog w=.ok (.value (.bool false)) w:=fun lb cb=>by
  rw[run_callFunc_extern Tryz.func243 (by kernel_rfl) (by kernel_rfl) (by kernel_rfl) (e:=Extern.SlicesOverlaps.overlaps #[23,23] #[4]) (by kernel_rfl),
   zc9 Tryz.underlying23 hi0 (a:=⟨vb,vo,none⟩) (b:=⟨b,(i+1)*6,none⟩) hvb hva hva0 hb (by simp only[List.size_toArray];omega)]
  rfl
 have hLn:(n+1)*6≤L.length:=by rw[hL];exact Nat.mul_le_mul_right _ hroom
 obtain ⟨C1,hC1⟩:∃C1,C1=(L.drop (i*6)).take ((n-i)*6):=⟨_,rfl⟩
 have hC1l:C1.length=(n-i)*6:=by rw[hC1];simp;omega
 obtain ⟨M1,hM1⟩:∃M1,M1=Go.splice L ((i+1)*6) C1:=⟨_,rfl⟩
 have hM1l:M1.length=L.length:=by rw[hM1];exact length_splice _ _ _ (by omega)
 rw[←hC1,←hM1]
 have hcp1:∀ty dc sc,(Builtin.copy_ #[23,23] ty #[.slice (some ⟨b,(i+1)*6,none⟩) (n-i) dc,.slice (some ⟨b,i*6,none⟩) (n+1-i) sc]).run Tryz.prog w.drew=.ok (goInt ((n-i:Nat):Int)) (w.drew.setRow b M1.toArray):=fun ty dc sc=>by
  have hmin:Nat.min (n+1-i) (n-i)=n-i:=by show min _ _=_;omega
  have:=zbc (P:=Tryz.prog) (w:=w.drew) (sT:=23) (ty:=ty) (dCap:=dc) (sCap:=sc) (dLen:=n-i) (sLen:=n+1-i) (o:=(i+1)*6) (a:=⟨b,i*6,none⟩) Tryz.underlying23 hi0 hsz hb (cs:=C1) (by rw[hmin];exact hC1l)
   (fun j v hj=>by
    rw[Addr.add_lit]
    show w.cell? _=_
    simp only[World.cell?,hb]
    rw[hC1,List.getElem?_take]at hj
    split at hj
    ·simpa using hj
    ·cases hj) (by omega) (by rw[hC1];exact h1)
  rw[hmin,←hM1]at this
  exact this
 have hcp2:∀(W:World),W=(w.drew.setRow b M1.toArray)→∀ty dc,(Builtin.copy_ #[23,23] ty #[.slice (some ⟨b,i*6,none⟩) (n+1-i) dc,.slice (some ⟨vb,vo,none⟩) 1 vc]).run Tryz.prog W=.ok (goInt 1) (W.setRow b (Go.splice M1 (i*6) vs).toArray):=fun W hW ty dc=>by
  have hmin:Nat.min 1 (n+1-i)=1:=by show min _ _=_;omega
  have:=zbc (P:=Tryz.prog) (w:=W) (sT:=23) (ty:=ty) (dCap:=dc) (sCap:=vc) (dLen:=n+1-i) (sLen:=1) (o:=i*6) (a:=⟨vb,vo,none⟩) Tryz.underlying23 hi0 hsz (g:=b) (t:=t) (L:=M1) (by rw[hW];exact setRow_heap _ _ _ _ _ _ hb) (cs:=vs) (by rw[hmin];omega)
   (fun j v hj=>by
    rw[Addr.add_lit,hW,cell_setRow_other _ _ _ _ hvb]
    exact hvs j v hj) (by omega) h2
  rw[hmin]at this
  exact this
 have hw1:IntKind.i64.wrap ((i:Int)+1)=(i:Int)+1:=by rw[IntKind.wrap_i64];omega
 have hb1:(0:Int)≤(i:Int)+1:=by omega
 have hin:i≤n:=by omega
 have htn:((i:Int)+1).toNat=i+1:=by omega
 have hb2:¬(c=i+1):=by omega
 have hb3:(i:Int)≤(n:Int)+1:=by omega
 have hb4:¬(c=i):=by omega
 have mixed:Tryz.prog.follows .mixedOrders=true:=by kernel_rfl
 clear hC1 hM1 hC1l hM1l h1 h2 hvs hL
 go_enter Tryz.func210,Tryz.ntmps210
 go_wp2_with (simp only[hov])
 go_region_law_o (refine zcw rfl _ _ 23 23 rfl _ _ (by simp[Act.eval,Act.put]) (by simp[Act.eval,Act.put]) (hcp1 _ _ _) ?_)
 go_wp2_with (at_builtin;refine zj5 rfl _ _ 23 23 rfl _ _ rfl rfl (hcp2 _ rfl _ _) ?_)
 go_ret
 exact ⟨rfl,rfl⟩
theorem zha {i0:TypeInfo} {k c:Nat} (h:c<k) (hk:k≤1073741824) (hby:i0.bytes≤128):Builtin.nextslicecap k c*i0.bytes≤281474976710656:=
 growslice_fits h (Nat.le_trans (Nat.mul_le_mul hk hby) (by decide))
set_option maxHeartbeats 4000000 in
set_option maxRecDepth 100000 in
theorem zim {w:World} {b n c vb vo vc:Nat} {L vs:List Value} {t:TypeId} (hroom:n+1≤c) (hlim:n+1≤1073741824)
 (hb:w.heap[b]?=some (.cells L.toArray t (0,0))) (hL:L.length=c*6) (hvl:vs.length=6)
 (hvs:∀j v,vs[j]?=some v→w.cell? ⟨vb,vo+j,none⟩=some v) (h2:∀v∈vs,v.oneCell'=true) :
 Calls Tryz.prog 210 #[.slice (some ⟨b,0,none⟩) n c,.int .i64 n,.slice (some ⟨vb,vo,none⟩) 1 vc] w fun e w'=>
  e=.returned (.slice (some ⟨b,0,none⟩) (n+1) c)∧w'=w.setRow b (Go.splice L (n*6) vs).toArray:=by
 obtain ⟨i0,z0,hi0,hz0,hzs,hsz,hby⟩:=zes
 have hLn:(n+1)*6≤L.length:=by rw[hL];exact Nat.mul_le_mul_right _ hroom
 have hf:=run_firstCells_some (P:=Tryz.prog) w i0.size 1 ⟨vb,vo,none⟩ 1 vc vs (by omega) (fun j v hj=>by rw[Addr.add_lit];exact hvs j v hj)
 have hap:∀ty,(Builtin.append_ #[23,23] ty #[.slice (some ⟨b,0,none⟩) n c,.slice (some ⟨vb,vo,none⟩) 1 vc]).run Tryz.prog w=.ok (.slice (some ⟨b,0,none⟩) (n+1) c) (w.setRow b (Go.splice L (n*6) vs).toArray):=fun ty=>by
  have:=zbv (P:=Tryz.prog) (w:=w) (ty:=ty) (ts:=#[23,23]) rfl rfl Tryz.underlying23 Tryz.underlying23 hi0 hf hroom hb (by simp only[List.size_toArray];rw[hsz];omega) h2
  rw[hsz]at this
  simpa[Go.splice]using this
 go_enter Tryz.func210,Tryz.ntmps210
 go_wp2_with (at_builtin;refine zbd rfl _ _ _ _ rfl _ _ rfl rfl (hap _) ?_)
 all_goals (go_ret;exact ⟨rfl,rfl⟩)
set_option maxHeartbeats 4000000 in
set_option maxRecDepth 100000 in
theorem zkc {w:World} {base:Option Addr} {n c vb vo vc:Nat} {olds vs:List Value} (hnc:n≤c) (hroom:c<n+1) (hlim:n+1≤1073741824) (hvl:vs.length=6)
 (hnil:base=none→n=0) (hol:olds.length=n*6) (hos:∀a,base=some a→∀j v,olds[j]?=some v→w.cell? (a.add j)=some v)
 (hvs:∀j v,vs[j]?=some v→w.cell? ⟨vb,vo+j,none⟩=some v) :
 Calls Tryz.prog 210 #[.slice base n c,.int .i64 n,.slice (some ⟨vb,vo,none⟩) 1 vc] w fun e w'=>
  ∃cap zs,e=.returned (.slice (some ⟨w.heap.size,0,none⟩) (n+1) cap)∧w'=w.drew.alloc (.cells (olds++(vs++zs)).toArray 71)∧n+1≤cap∧zs.length=(cap-(n+1))*6:=by
 obtain ⟨i0,z0,hi0,hz0,hzs,hsz,hby⟩:=zes
 have hf:=run_firstCells_some (P:=Tryz.prog) w.drew i0.size 1 ⟨vb,vo,none⟩ 1 vc vs (by omega) (fun j v hj=>by rw[Addr.add_lit];exact hvs j v hj)
 have hold:(Builtin.firstCells i0.size n (.slice base n c)).run Tryz.prog w.drew=.ok olds.toArray w.drew:=by
  cases base with
  |none=>
   have h0:=hnil rfl
   subst h0
   rw[List.length_eq_zero_iff.1 (by omega:olds.length=0)]
   exact run_firstCells_none w.drew _ 0 0 c
  |some a=>exact run_firstCells_some w.drew _ n a n c olds (by rw[hsz];omega) (fun j v hj=>hos a rfl j v hj)
 have hap:∀ty,(Builtin.append_ #[23,23] ty #[.slice base n c,.slice (some ⟨vb,vo,none⟩) 1 vc]).run Tryz.prog w=_:=fun ty=>
  zb7 (P:=Tryz.prog) (w:=w) (ty:=ty) (ts:=#[23,23]) rfl rfl Tryz.underlying23 Tryz.underlying23 hi0 hz0 hf hold hroom (by omega) (zha hroom hlim hby)
 have hge:=zbz w (n+1) c 71
 obtain ⟨G,hG⟩:∃G,G=grownCap w (n+1) c 71:=⟨_,rfl⟩
 obtain ⟨zs,hzs'⟩:∃zs,zs=(Builtin.zeroCells z0.cells (G-(n+1))).toList:=⟨_,rfl⟩
 rw[←hG]at hap hge
 rw[←hzs']at hap
 have hzl:zs.length=(G-(n+1))*6:=by rw[hzs',Array.length_toList,size_zeroCells,hzs]
 clear hG hzs'
 go_enter Tryz.func210,Tryz.ntmps210
 cases base with
 |none=>
  have h0:=hnil rfl
  subst h0
  go_wp2_with (at_builtin;refine zbd rfl _ _ _ _ rfl _ _ rfl rfl (hap _) ?_)
  all_goals (go_ret;first|exact ⟨_,_,rfl,rfl,hge,hzl⟩|exact ⟨_,rfl,_,rfl,hge,hzl⟩)
 |some a=>
  obtain ⟨ab,ao,asp⟩:=a
  go_wp2_with (at_builtin;refine zbd rfl _ _ _ _ rfl _ _ rfl rfl (hap _) ?_)
  all_goals (go_ret;first|exact ⟨_,_,rfl,rfl,hge,hzl⟩|exact ⟨_,rfl,_,rfl,hge,hzl⟩)
set_option maxHeartbeats 4000000 in
set_option maxRecDepth 100000 in
theorem zil {w:World} {b n c i vb vo vc:Nat} {L vs:List Value} {t:TypeId} (hi:i<n) (hnc:n≤c) (hroom:c<n+1) (hlim:n+1≤1073741824) (hvb:vb≠b)
 (hb:w.heap[b]?=some (.cells L.toArray t (0,0))) (hL:L.length=c*6) (hvl:vs.length=6)
 (hvs:∀j v,vs[j]?=some v→w.cell? ⟨vb,vo+j,none⟩=some v) (h1:∀v∈(L.drop (i*6)).take ((n-i)*6),v.oneCell'=true) (h2:∀v∈vs,v.oneCell'=true) :
 Calls Tryz.prog 210 #[.slice (some ⟨b,0,none⟩) n c,.int .i64 i,.slice (some ⟨vb,vo,none⟩) 1 vc] w fun e w'=>
  ∃cap row,e=.returned (.slice (some ⟨w.heap.size,0,none⟩) (n+1) cap)∧n+1≤cap∧row.length=cap*6∧row.take (i*6)=L.take (i*6)∧
   w'.heap=(w.heap.push (.cells (Go.splice (Go.splice row (i*6) vs) ((i+1)*6) ((L.drop (i*6)).take ((n-i)*6))).toArray 71))∧w'.os=w.os∧w'.output=w.output∧w'.tape=w.tape:=by
 obtain ⟨i0,z0,hi0,hz0,hzs,hsz,hby⟩:=zes
 have hz2:¬((i:Int)=(n:Int)):=by omega
 have hz3:(c:Int)<(n:Int)+1:=by omega
 have hLn:n*6≤L.length:=by rw[hL];exact Nat.mul_le_mul_right _ hnc
 have hbw:b<w.heap.size:=(Array.getElem?_eq_some_iff.1 hb).1
 have hvw:vb<w.heap.size:=by
  have h:=hvs 0 _ (List.getElem?_eq_getElem (by omega))
  unfold World.cell? at h
  split at h
  ·rename_i c0 t0 f0 hc0
   exact (Array.getElem?_eq_some_iff.1 hc0).1
  ·cases h
 have hkk:(n:Int)+1-(i:Int)=((n+1-i:Nat):Int):=by omega
 have hik:i+(n+1-i)=n+1:=by omega
 have hTl:(L.take (i*6)).length=i*6:=by simp;omega
 have hold:(Builtin.firstCells i0.size i (.slice (some ⟨b,0,none⟩) i c)).run Tryz.prog w.drew=.ok (L.take (i*6)).toArray w.drew:=by
  refine run_firstCells_some w.drew _ i ⟨b,0,none⟩ i c (L.take (i*6)) (by rw[hsz];exact hTl) (fun j v hj=>?_)
  rw[Addr.add_lit,Nat.zero_add]
  show w.cell? _=_
  simp only[World.cell?,hb]
  rw[List.getElem?_take]at hj
  split at hj
  ·simpa using hj
  ·cases hj
 have hrz:∀ty,(Builtin.append_ #[23,3] ty #[.slice (some ⟨b,0,none⟩) i c,.int .i64 ((n:Int)+1-(i:Int))]).run Tryz.prog w =
  .ok (.slice (some ⟨w.heap.size,0,none⟩) (n+1) (grownCap w (n+1) c 71)) (w.drew.alloc (.cells ((L.take (i*6)).toArray++Builtin.zeroCells z0.cells (n+1-i)++Builtin.zeroCells z0.cells (grownCap w (n+1) c 71-(n+1))) 71)):=fun ty=>by
  have h:=Lib.run_append_grow_zeros w 23 3 ty 71 i0 _ .i64 .i64 Tryz.underlying23 Tryz.underlying3 hi0 hz0 (some ⟨b,0,none⟩) i c _ hold (n+1-i) (by omega) (by omega) (by omega) (by omega)
   (Nat.le_trans (Nat.mul_le_mul (show n+1-i≤1073741824 by omega) hby) (by decide)) (by rw[hik];exact zha hroom hlim hby)
  rw[hik]at h
  rw[hkk]
  exact h
 have hge:=zbz w (n+1) c 71
 obtain ⟨G,hG⟩:∃G,G=grownCap w (n+1) c 71:=⟨_,rfl⟩
 rw[←hG]at hrz hge
 have hG63:G≤9223372036854775807:=by
  have:=grownCap_le_maxLen w (n+1) c 71 (by unfold maxLen;omega)
  rw[←hG]at this
  unfold maxLen at this
  omega
 obtain ⟨R,hR⟩:∃R:List Value,R=L.take (i*6)++((Builtin.zeroCells z0.cells (n+1-i)).toList++(Builtin.zeroCells z0.cells (G-(n+1))).toList):=⟨_,rfl⟩
 have hRl:R.length=G*6:=by
  rw[hR]
  simp only[List.length_append,Array.length_toList,size_zeroCells,hzs,hTl]
  rw[←Nat.add_mul,←Nat.add_mul]
  congr 1
  omega
 have hRt:R.take (i*6)=L.take (i*6):=by rw[hR,List.take_append_of_le_length (by omega),List.take_of_length_le (by omega)]
 have hRe:(L.take (i*6)).toArray++Builtin.zeroCells z0.cells (n+1-i)++Builtin.zeroCells z0.cells (G-(n+1))=R.toArray:=by
  rw[hR];apply Array.ext';simp
 rw[hRe]at hrz
 obtain ⟨C1,hC1⟩:∃C1,C1=(L.drop (i*6)).take ((n-i)*6):=⟨_,rfl⟩
 have hC1l:C1.length=(n-i)*6:=by rw[hC1];simp;omega
 have hGn:(n+1)*6≤R.length:=by rw[hRl];exact Nat.mul_le_mul_right _ hge
 obtain ⟨M1,hM1⟩:∃M1,M1=Go.splice R (i*6) vs:=⟨_,rfl⟩
 have hM1l:M1.length=R.length:=by rw[hM1];exact length_splice _ _ _ (by omega)
 rw[←hC1]
 obtain ⟨gb,hgb⟩:∃gb,gb=w.heap.size:=⟨_,rfl⟩
 have hnew:∀W:World,W.heap=w.heap.push (.cells R.toArray 71)→W.heap[gb]?=some (.cells R.toArray 71 (0,0)):=fun W hW=>by rw[hW,hgb];simp
 have hpast:∀W:World,W.heap=w.heap.push (.cells R.toArray 71)→∀k,k<w.heap.size→W.heap[k]?=w.heap[k]?:=fun W hW k hk=>by rw[hW,Array.getElem?_push_lt hk];simp[hk]
 have hcpA:∀(W:World),W.heap=w.heap.push (.cells R.toArray 71)→∀ty dc,(Builtin.copy_ #[23,23] ty #[.slice (some ⟨gb,i*6,none⟩) (n+1-i) dc,.slice (some ⟨vb,vo,none⟩) 1 vc]).run Tryz.prog W=.ok (goInt 1) (W.setRow gb M1.toArray):=fun W hW ty dc=>by
  have hmin:Nat.min 1 (n+1-i)=1:=by show min _ _=_;omega
  have:=zbc (P:=Tryz.prog) (w:=W) (sT:=23) (ty:=ty) (dCap:=dc) (sCap:=vc) (dLen:=n+1-i) (sLen:=1) (o:=i*6) (a:=⟨vb,vo,none⟩) Tryz.underlying23 hi0 hsz (g:=gb) (t:=71) (L:=R) (hnew W hW) (cs:=vs) (by rw[hmin];omega)
   (fun j v hj=>by
    rw[Addr.add_lit]
    unfold World.cell?
    rw[show W.heap[(⟨vb,vo+j,none⟩:Addr).block]?=w.heap[vb]? from hpast W hW vb hvw]
    exact hvs j v hj) (by omega) h2
  rw[hmin,←hM1]at this
  exact this
 have hcpB:∀(W W0:World),W0.heap=w.heap.push (.cells R.toArray 71)→W.heap=(W0.setRow gb M1.toArray).heap→∀ty dc sc,(Builtin.copy_ #[23,23] ty #[.slice (some ⟨gb,(i+1)*6,none⟩) (n-i) dc,.slice (some ⟨b,i*6,none⟩) (n-i) sc]).run Tryz.prog W=.ok (goInt ((n-i:Nat):Int)) (W.setRow gb (Go.splice M1 ((i+1)*6) C1).toArray):=fun W W0 hW0 hW ty dc sc=>by
  have hmin:Nat.min (n-i) (n-i)=n-i:=by show min _ _=_;omega
  have:=zbc (P:=Tryz.prog) (w:=W) (sT:=23) (ty:=ty) (dCap:=dc) (sCap:=sc) (dLen:=n-i) (sLen:=n-i) (o:=(i+1)*6) (a:=⟨b,i*6,none⟩) Tryz.underlying23 hi0 hsz (g:=gb) (t:=71) (L:=M1) (by rw[hW];exact setRow_heap _ _ _ _ _ _ (hnew W0 hW0)) (cs:=C1) (by rw[hmin];exact hC1l)
   (fun j v hj=>by
    rw[Addr.add_lit]
    unfold World.cell?
    have e:W.heap[(⟨b,i*6+j,none⟩:Addr).block]?=w.heap[b]?:=by
     show W.heap[b]?=_
     rw[hW,setRow_other _ _ _ _ (by omega),hpast W0 hW0 b hbw]
    rw[e,hb]
    rw[hC1,List.getElem?_take]at hj
    split at hj
    ·simpa using hj
    ·cases hj) (by omega) (by rw[hC1];exact h1)
  rw[hmin]at this
  exact this
 have hw1:IntKind.i64.wrap ((i:Int)+1)=(i:Int)+1:=by rw[IntKind.wrap_i64];omega
 have hb1:(0:Int)≤(i:Int)+1:=by omega
 have hin:i≤n:=by omega
 have htn:((i:Int)+1).toNat=i+1:=by omega
 have hb3:(i:Int)≤(n:Int):=by omega
 have hGi:¬(G=i):=by omega
 have hGim:¬(G=i+1):=by omega
 have hci:¬(c=i):=by omega
 have hmixed:Tryz.prog.follows .mixedOrders=true:=by kernel_rfl
 have mixed:=hmixed
 have hfin:∀W W0:World,W0.heap=w.heap.push (.cells R.toArray 71)→W.heap=(W0.setRow gb M1.toArray).heap→(W.setRow gb (Go.splice M1 ((i+1)*6) C1).toArray).heap=w.heap.push (.cells (Go.splice M1 ((i+1)*6) C1).toArray 71):=fun W W0 hW0 hW=>by
  have h1:W.heap[gb]?=some (.cells M1.toArray 71 (0,0)):=by rw[hW];exact setRow_heap _ _ _ _ _ _ (hnew W0 hW0)
  have hsz0:W.heap.size=w.heap.size+1:=by rw[hW,setRow_size,hW0];simp
  apply Array.ext_getElem?
  intro k
  by_cases hk:k=gb
  ·subst hk
   rw[setRow_heap _ _ _ _ _ _ h1,hgb];simp
  ·rw[setRow_other _ _ _ _ hk]
   by_cases hk2:k<w.heap.size
   ·rw[hW,setRow_other _ _ _ _ hk,hpast W0 hW0 k hk2,Array.getElem?_push_lt hk2];simp[hk2]
   ·rw[Array.getElem?_eq_none (by omega),Array.getElem?_eq_none (by simp;omega)]
 have hMM:Go.splice (Go.splice R (i*6) vs) ((i+1)*6) C1=Go.splice M1 ((i+1)*6) C1:=by rw[hM1]
 subst hgb
 have hcpA':=hcpA ((w.alloc (.cells R.toArray 71)).drew) rfl
 clear hkk hcpA hik hold hG hR hRe hC1 hM1 hC1l hM1l h1 h2 hvs hL hTl
 go_enter Tryz.func210,Tryz.ntmps210
 go_wp2_with (at_builtin;refine zbd rfl _ _ _ _ rfl _ _ rfl rfl (hrz _) ?_)
 go_region_law_o (refine zcw rfl _ _ 23 23 rfl (.slice (some ⟨w.heap.size,(i+1)*6,none⟩) (n-i) (G-(i+1))) (.slice (some ⟨b,i*6,none⟩) (n-i) (c-i)) (by simp[Act.eval,Act.put]) (by simp[Act.eval,Act.put]) (hcpB (((w.alloc (.cells R.toArray 71)).drew.setRow w.heap.size M1.toArray).drew) (w.drew.alloc (.cells R.toArray 71)) rfl rfl 3 (G-(i+1)) (c-i)) ?_)
 go_wp2
 go_ret
 refine ⟨G,R,rfl,hge,hRl,hRt,?_,rfl,rfl,rfl⟩
 rw[hMM]
 exact hfin _ (w.drew.alloc (.cells R.toArray 71)) rfl rfl
end Go.Proofs.YtpaidiaknfhclaaGreatDoor
namespace Go.Proofs.YtpaidiaknfhclaaGreatDoor
open Go Ev
theorem zgk:∃i0 z,Tryz.prog.info? 73=some i0∧i0.zero=some z∧z.cells.size=6∧i0.size=6∧i0.bytes≤128:=by
 have h:(match Tryz.prog.info? 73 with|some i=>(match i.zero with|some z=>Nat.beq z.cells.size 6&&Nat.beq i.size 6&&Nat.ble i.bytes 128|none=>false)|none=>false)=true:=by kernel_rfl
 split at h
 ·rename_i i hi
  split at h
  ·rename_i z hz
   simp only[Bool.and_eq_true]at h
   exact ⟨i,z,hi,hz,Nat.eq_of_beq_eq_true h.1.1,Nat.eq_of_beq_eq_true h.1.2,Nat.le_of_ble_eq_true h.2⟩
  ·cases h
 ·cases h
set_option maxHeartbeats 4000000 in
set_option maxRecDepth 100000 in
theorem zkb {w:World} {b n c i vb vo vc:Nat} {L vs:List Value} {t:TypeId} (hi:i<n) (hroom:n+1≤c) (hlim:n+1≤1073741824) (hvb:vb≠b)
 (hb:w.heap[b]?=some (.cells L.toArray t (0,0))) (hL:L.length=c*6) (hvl:vs.length=6)
 (hvs:∀j v,vs[j]?=some v→w.cell? ⟨vb,vo+j,none⟩=some v) (h1:∀v∈(L.drop (i*6)).take ((n-i)*6),v.oneCell'=true) (h2:∀v∈vs,v.oneCell'=true) :
 Calls Tryz.prog 168 #[.slice (some ⟨b,0,none⟩) n c,.int .i64 i,.slice (some ⟨vb,vo,none⟩) 1 vc] w fun e w'=>
  e=.returned (.slice (some ⟨b,0,none⟩) (n+1) c)∧w'=(w.drew.setRow b (Go.splice L ((i+1)*6) ((L.drop (i*6)).take ((n-i)*6))).toArray).setRow b (Go.splice (Go.splice L ((i+1)*6) ((L.drop (i*6)).take ((n-i)*6))) (i*6) vs).toArray:=by
 obtain ⟨i0,z0,hi0,hz0,hzs,hsz,hby⟩:=zgk
 have hz2:¬((i:Int)=(n:Int)):=by omega
 have hva:∃va ta fa,w.heap[vb]?=some (.cells va ta fa)∧0<va.size:=by
  have h:=hvs 0 _ (List.getElem?_eq_getElem (by omega))
  unfold World.cell? at h
  split at h
  ·rename_i c0 t0 f0 hc0
   exact ⟨c0,t0,f0,hc0,by have:=(Array.getElem?_eq_some_iff.1 h).1;omega⟩
  ·cases h
 obtain ⟨va,ta,fa,hva,hva0⟩:=hva
 have hov:∀lb cb,(callFunc 223 #[.slice (some ⟨vb,vo,none⟩) 1 vc,.slice (some ⟨b,(i+1)*6,none⟩) lb cb]).run Tryz.prog w=.ok (.value (.bool false)) w:=fun lb cb=>by
  rw[run_callFunc_extern Tryz.func223 (by kernel_rfl) (by kernel_rfl) (by kernel_rfl) (e:=Extern.SlicesOverlaps.overlaps #[24,24] #[4]) (by kernel_rfl),
   zc9 Tryz.underlying24 hi0 (a:=⟨vb,vo,none⟩) (b:=⟨b,(i+1)*6,none⟩) hvb hva hva0 hb (by simp only[List.size_toArray];omega)]
  rfl
 have hLn:(n+1)*6≤L.length:=by rw[hL];exact Nat.mul_le_mul_right _ hroom
 obtain ⟨C1,hC1⟩:∃C1,C1=(L.drop (i*6)).take ((n-i)*6):=⟨_,rfl⟩
 have hC1l:C1.length=(n-i)*6:=by rw[hC1];simp;omega
 obtain ⟨M1,hM1⟩:∃M1,M1=Go.splice L ((i+1)*6) C1:=⟨_,rfl⟩
 have hM1l:M1.length=L.length:=by rw[hM1];exact length_splice _ _ _ (by omega)
 rw[←hC1,←hM1]
 have hcp1:∀ty dc sc,(Builtin.copy_ #[24,24] ty #[.slice (some ⟨b,(i+1)*6,none⟩) (n-i) dc,.slice (some ⟨b,i*6,none⟩) (n+1-i) sc]).run Tryz.prog w.drew=.ok (goInt ((n-i:Nat):Int)) (w.drew.setRow b M1.toArray):=fun ty dc sc=>by
  have hmin:Nat.min (n+1-i) (n-i)=n-i:=by show min _ _=_;omega
  have:=zbc (P:=Tryz.prog) (w:=w.drew) (sT:=24) (ty:=ty) (dCap:=dc) (sCap:=sc) (dLen:=n-i) (sLen:=n+1-i) (o:=(i+1)*6) (a:=⟨b,i*6,none⟩) Tryz.underlying24 hi0 hsz hb (cs:=C1) (by rw[hmin];exact hC1l)
   (fun j v hj=>by
    rw[Addr.add_lit]
    show w.cell? _=_
    simp only[World.cell?,hb]
    rw[hC1,List.getElem?_take]at hj
    split at hj
    ·simpa using hj
    ·cases hj) (by omega) (by rw[hC1];exact h1)
  rw[hmin,←hM1]at this
  exact this
 have hcp2:∀(W:World),W=(w.drew.setRow b M1.toArray)→∀ty dc,(Builtin.copy_ #[24,24] ty #[.slice (some ⟨b,i*6,none⟩) (n+1-i) dc,.slice (some ⟨vb,vo,none⟩) 1 vc]).run Tryz.prog W=.ok (goInt 1) (W.setRow b (Go.splice M1 (i*6) vs).toArray):=fun W hW ty dc=>by
  have hmin:Nat.min 1 (n+1-i)=1:=by show min _ _=_;omega
  have:=zbc (P:=Tryz.prog) (w:=W) (sT:=24) (ty:=ty) (dCap:=dc) (sCap:=vc) (dLen:=n+1-i) (sLen:=1) (o:=i*6) (a:=⟨vb,vo,none⟩) Tryz.underlying24 hi0 hsz (g:=b) (t:=t) (L:=M1) (by rw[hW];exact setRow_heap _ _ _ _ _ _ hb) (cs:=vs) (by rw[hmin];omega)
   (fun j v hj=>by
    rw[Addr.add_lit,hW,cell_setRow_other _ _ _ _ hvb]
    exact hvs j v hj) (by omega) h2
  rw[hmin]at this
  exact this
 have hw1:IntKind.i64.wrap ((i:Int)+1)=(i:Int)+1:=by rw[IntKind.wrap_i64];omega
 have hb1:(0:Int)≤(i:Int)+1:=by omega
 have hin:i≤n:=by omega
 have htn:((i:Int)+1).toNat=i+1:=by omega
 have hb2:¬(c=i+1):=by omega
 have hb3:(i:Int)≤(n:Int)+1:=by omega
 have hb4:¬(c=i):=by omega
 have mixed:Tryz.prog.follows .mixedOrders=true:=by kernel_rfl
 clear hC1 hM1 hC1l hM1l h1 h2 hvs hL
 go_enter Tryz.func168,Tryz.ntmps168
 go_wp2_with (simp only[hov])
 go_region_law_o (refine zcw rfl _ _ 24 24 rfl _ _ (by simp[Act.eval,Act.put]) (by simp[Act.eval,Act.put]) (hcp1 _ _ _) ?_)
 go_wp2_with (at_builtin;refine zj5 rfl _ _ 24 24 rfl _ _ rfl rfl (hcp2 _ rfl _ _) ?_)
 go_ret
 exact ⟨rfl,rfl⟩
theorem zkl {i0:TypeInfo} {k c:Nat} (h:c<k) (hk:k≤1073741824) (hby:i0.bytes≤128):Builtin.nextslicecap k c*i0.bytes≤281474976710656:=
 growslice_fits h (Nat.le_trans (Nat.mul_le_mul hk hby) (by decide))
set_option maxHeartbeats 4000000 in
set_option maxRecDepth 100000 in
theorem zm5 {w:World} {b n c vb vo vc:Nat} {L vs:List Value} {t:TypeId} (hroom:n+1≤c) (hlim:n+1≤1073741824)
 (hb:w.heap[b]?=some (.cells L.toArray t (0,0))) (hL:L.length=c*6) (hvl:vs.length=6)
 (hvs:∀j v,vs[j]?=some v→w.cell? ⟨vb,vo+j,none⟩=some v) (h2:∀v∈vs,v.oneCell'=true) :
 Calls Tryz.prog 168 #[.slice (some ⟨b,0,none⟩) n c,.int .i64 n,.slice (some ⟨vb,vo,none⟩) 1 vc] w fun e w'=>
  e=.returned (.slice (some ⟨b,0,none⟩) (n+1) c)∧w'=w.setRow b (Go.splice L (n*6) vs).toArray:=by
 obtain ⟨i0,z0,hi0,hz0,hzs,hsz,hby⟩:=zgk
 have hLn:(n+1)*6≤L.length:=by rw[hL];exact Nat.mul_le_mul_right _ hroom
 have hf:=run_firstCells_some (P:=Tryz.prog) w i0.size 1 ⟨vb,vo,none⟩ 1 vc vs (by omega) (fun j v hj=>by rw[Addr.add_lit];exact hvs j v hj)
 have hap:∀ty,(Builtin.append_ #[24,24] ty #[.slice (some ⟨b,0,none⟩) n c,.slice (some ⟨vb,vo,none⟩) 1 vc]).run Tryz.prog w=.ok (.slice (some ⟨b,0,none⟩) (n+1) c) (w.setRow b (Go.splice L (n*6) vs).toArray):=fun ty=>by
  have:=zbv (P:=Tryz.prog) (w:=w) (ty:=ty) (ts:=#[24,24]) rfl rfl Tryz.underlying24 Tryz.underlying24 hi0 hf hroom hb (by simp only[List.size_toArray];rw[hsz];omega) h2
  rw[hsz]at this
  simpa[Go.splice]using this
 go_enter Tryz.func168,Tryz.ntmps168
 go_wp2_with (at_builtin;refine zbd rfl _ _ _ _ rfl _ _ rfl rfl (hap _) ?_)
 all_goals (go_ret;exact ⟨rfl,rfl⟩)
set_option maxHeartbeats 4000000 in
set_option maxRecDepth 100000 in
theorem zoy {w:World} {base:Option Addr} {n c vb vo vc:Nat} {olds vs:List Value} (hnc:n≤c) (hroom:c<n+1) (hlim:n+1≤1073741824) (hvl:vs.length=6)
 (hnil:base=none→n=0) (hol:olds.length=n*6) (hos:∀a,base=some a→∀j v,olds[j]?=some v→w.cell? (a.add j)=some v)
 (hvs:∀j v,vs[j]?=some v→w.cell? ⟨vb,vo+j,none⟩=some v) :
 Calls Tryz.prog 168 #[.slice base n c,.int .i64 n,.slice (some ⟨vb,vo,none⟩) 1 vc] w fun e w'=>
  ∃cap zs,e=.returned (.slice (some ⟨w.heap.size,0,none⟩) (n+1) cap)∧w'=w.drew.alloc (.cells (olds++(vs++zs)).toArray 73)∧n+1≤cap∧zs.length=(cap-(n+1))*6:=by
 obtain ⟨i0,z0,hi0,hz0,hzs,hsz,hby⟩:=zgk
 have hf:=run_firstCells_some (P:=Tryz.prog) w.drew i0.size 1 ⟨vb,vo,none⟩ 1 vc vs (by omega) (fun j v hj=>by rw[Addr.add_lit];exact hvs j v hj)
 have hold:(Builtin.firstCells i0.size n (.slice base n c)).run Tryz.prog w.drew=.ok olds.toArray w.drew:=by
  cases base with
  |none=>
   have h0:=hnil rfl
   subst h0
   rw[List.length_eq_zero_iff.1 (by omega:olds.length=0)]
   exact run_firstCells_none w.drew _ 0 0 c
  |some a=>exact run_firstCells_some w.drew _ n a n c olds (by rw[hsz];omega) (fun j v hj=>hos a rfl j v hj)
 have hap:∀ty,(Builtin.append_ #[24,24] ty #[.slice base n c,.slice (some ⟨vb,vo,none⟩) 1 vc]).run Tryz.prog w=_:=fun ty=>
  zb7 (P:=Tryz.prog) (w:=w) (ty:=ty) (ts:=#[24,24]) rfl rfl Tryz.underlying24 Tryz.underlying24 hi0 hz0 hf hold hroom (by omega) (zkl hroom hlim hby)
 have hge:=zbz w (n+1) c 73
 obtain ⟨G,hG⟩:∃G,G=grownCap w (n+1) c 73:=⟨_,rfl⟩
 obtain ⟨zs,hzs'⟩:∃zs,zs=(Builtin.zeroCells z0.cells (G-(n+1))).toList:=⟨_,rfl⟩
 rw[←hG]at hap hge
 rw[←hzs']at hap
 have hzl:zs.length=(G-(n+1))*6:=by rw[hzs',Array.length_toList,size_zeroCells,hzs]
 clear hG hzs'
 go_enter Tryz.func168,Tryz.ntmps168
 cases base with
 |none=>
  have h0:=hnil rfl
  subst h0
  go_wp2_with (at_builtin;refine zbd rfl _ _ _ _ rfl _ _ rfl rfl (hap _) ?_)
  all_goals (go_ret;first|exact ⟨_,_,rfl,rfl,hge,hzl⟩|exact ⟨_,rfl,_,rfl,hge,hzl⟩)
 |some a=>
  obtain ⟨ab,ao,asp⟩:=a
  go_wp2_with (at_builtin;refine zbd rfl _ _ _ _ rfl _ _ rfl rfl (hap _) ?_)
  all_goals (go_ret;first|exact ⟨_,_,rfl,rfl,hge,hzl⟩|exact ⟨_,rfl,_,rfl,hge,hzl⟩)
set_option maxHeartbeats 4000000 in
set_option maxRecDepth 100000 in
theorem zm4 {w:World} {b n c i vb vo vc:Nat} {L vs:List Value} {t:TypeId} (hi:i<n) (hnc:n≤c) (hroom:c<n+1) (hlim:n+1≤1073741824) (hvb:vb≠b)
 (hb:w.heap[b]?=some (.cells L.toArray t (0,0))) (hL:L.length=c*6) (hvl:vs.length=6)
 (hvs:∀j v,vs[j]?=some v→w.cell? ⟨vb,vo+j,none⟩=some v) (h1:∀v∈(L.drop (i*6)).take ((n-i)*6),v.oneCell'=true) (h2:∀v∈vs,v.oneCell'=true) :
 Calls Tryz.prog 168 #[.slice (some ⟨b,0,none⟩) n c,.int .i64 i,.slice (some ⟨vb,vo,none⟩) 1 vc] w fun e w'=>
  ∃cap row,e=.returned (.slice (some ⟨w.heap.size,0,none⟩) (n+1) cap)∧n+1≤cap∧row.length=cap*6∧row.take (i*6)=L.take (i*6)∧
   w'.heap=(w.heap.push (.cells (Go.splice (Go.splice row (i*6) vs) ((i+1)*6) ((L.drop (i*6)).take ((n-i)*6))).toArray 73))∧w'.os=w.os∧w'.output=w.output∧w'.tape=w.tape:=by
 obtain ⟨i0,z0,hi0,hz0,hzs,hsz,hby⟩:=zgk
 have hz2:¬((i:Int)=(n:Int)):=by omega
 have hz3:(c:Int)<(n:Int)+1:=by omega
 have hLn:n*6≤L.length:=by rw[hL];exact Nat.mul_le_mul_right _ hnc
 have hbw:b<w.heap.size:=(Array.getElem?_eq_some_iff.1 hb).1
 have hvw:vb<w.heap.size:=by
  have h:=hvs 0 _ (List.getElem?_eq_getElem (by omega))
  unfold World.cell? at h
  split at h
  ·rename_i c0 t0 f0 hc0
   exact (Array.getElem?_eq_some_iff.1 hc0).1
  ·cases h
 have hkk:(n:Int)+1-(i:Int)=((n+1-i:Nat):Int):=by omega
 have hik:i+(n+1-i)=n+1:=by omega
 have hTl:(L.take (i*6)).length=i*6:=by simp;omega
 have hold:(Builtin.firstCells i0.size i (.slice (some ⟨b,0,none⟩) i c)).run Tryz.prog w.drew=.ok (L.take (i*6)).toArray w.drew:=by
  refine run_firstCells_some w.drew _ i ⟨b,0,none⟩ i c (L.take (i*6)) (by rw[hsz];exact hTl) (fun j v hj=>?_)
  rw[Addr.add_lit,Nat.zero_add]
  show w.cell? _=_
  simp only[World.cell?,hb]
  rw[List.getElem?_take]at hj
  split at hj
  ·simpa using hj
  ·cases hj
 have hrz:∀ty,(Builtin.append_ #[24,3] ty #[.slice (some ⟨b,0,none⟩) i c,.int .i64 ((n:Int)+1-(i:Int))]).run Tryz.prog w =
  .ok (.slice (some ⟨w.heap.size,0,none⟩) (n+1) (grownCap w (n+1) c 73)) (w.drew.alloc (.cells ((L.take (i*6)).toArray++Builtin.zeroCells z0.cells (n+1-i)++Builtin.zeroCells z0.cells (grownCap w (n+1) c 73-(n+1))) 73)):=fun ty=>by
  have h:=Lib.run_append_grow_zeros w 24 3 ty 73 i0 _ .i64 .i64 Tryz.underlying24 Tryz.underlying3 hi0 hz0 (some ⟨b,0,none⟩) i c _ hold (n+1-i) (by omega) (by omega) (by omega) (by omega)
   (Nat.le_trans (Nat.mul_le_mul (show n+1-i≤1073741824 by omega) hby) (by decide)) (by rw[hik];exact zkl hroom hlim hby)
  rw[hik]at h
  rw[hkk]
  exact h
 have hge:=zbz w (n+1) c 73
 obtain ⟨G,hG⟩:∃G,G=grownCap w (n+1) c 73:=⟨_,rfl⟩
 rw[←hG]at hrz hge
 have hG63:G≤9223372036854775807:=by
  have:=grownCap_le_maxLen w (n+1) c 73 (by unfold maxLen;omega)
  rw[←hG]at this
  unfold maxLen at this
  omega
 obtain ⟨R,hR⟩:∃R:List Value,R=L.take (i*6)++((Builtin.zeroCells z0.cells (n+1-i)).toList++(Builtin.zeroCells z0.cells (G-(n+1))).toList):=⟨_,rfl⟩
 have hRl:R.length=G*6:=by
  rw[hR]
  simp only[List.length_append,Array.length_toList,size_zeroCells,hzs,hTl]
  rw[←Nat.add_mul,←Nat.add_mul]
  congr 1
  omega
 have hRt:R.take (i*6)=L.take (i*6):=by rw[hR,List.take_append_of_le_length (by omega),List.take_of_length_le (by omega)]
 have hRe:(L.take (i*6)).toArray++Builtin.zeroCells z0.cells (n+1-i)++Builtin.zeroCells z0.cells (G-(n+1))=R.toArray:=by
  rw[hR];apply Array.ext';simp
 rw[hRe]at hrz
 obtain ⟨C1,hC1⟩:∃C1,C1=(L.drop (i*6)).take ((n-i)*6):=⟨_,rfl⟩
 have hC1l:C1.length=(n-i)*6:=by rw[hC1];simp;omega
 have hGn:(n+1)*6≤R.length:=by rw[hRl];exact Nat.mul_le_mul_right _ hge
 obtain ⟨M1,hM1⟩:∃M1,M1=Go.splice R (i*6) vs:=⟨_,rfl⟩
 have hM1l:M1.length=R.length:=by rw[hM1];exact length_splice _ _ _ (by omega)
 rw[←hC1]
 obtain ⟨gb,hgb⟩:∃gb,gb=w.heap.size:=⟨_,rfl⟩
 have hnew:∀W:World,W.heap=w.heap.push (.cells R.toArray 73)→W.heap[gb]?=some (.cells R.toArray 73 (0,0)):=fun W hW=>by rw[hW,hgb];simp
 have hpast:∀W:World,W.heap=w.heap.push (.cells R.toArray 73)→∀k,k<w.heap.size→W.heap[k]?=w.heap[k]?:=fun W hW k hk=>by rw[hW,Array.getElem?_push_lt hk];simp[hk]
 have hcpA:∀(W:World),W.heap=w.heap.push (.cells R.toArray 73)→∀ty dc,(Builtin.copy_ #[24,24] ty #[.slice (some ⟨gb,i*6,none⟩) (n+1-i) dc,.slice (some ⟨vb,vo,none⟩) 1 vc]).run Tryz.prog W=.ok (goInt 1) (W.setRow gb M1.toArray):=fun W hW ty dc=>by
  have hmin:Nat.min 1 (n+1-i)=1:=by show min _ _=_;omega
  have:=zbc (P:=Tryz.prog) (w:=W) (sT:=24) (ty:=ty) (dCap:=dc) (sCap:=vc) (dLen:=n+1-i) (sLen:=1) (o:=i*6) (a:=⟨vb,vo,none⟩) Tryz.underlying24 hi0 hsz (g:=gb) (t:=73) (L:=R) (hnew W hW) (cs:=vs) (by rw[hmin];omega)
   (fun j v hj=>by
    rw[Addr.add_lit]
    unfold World.cell?
    rw[show W.heap[(⟨vb,vo+j,none⟩:Addr).block]?=w.heap[vb]? from hpast W hW vb hvw]
    exact hvs j v hj) (by omega) h2
  rw[hmin,←hM1]at this
  exact this
 have hcpB:∀(W W0:World),W0.heap=w.heap.push (.cells R.toArray 73)→W.heap=(W0.setRow gb M1.toArray).heap→∀ty dc sc,(Builtin.copy_ #[24,24] ty #[.slice (some ⟨gb,(i+1)*6,none⟩) (n-i) dc,.slice (some ⟨b,i*6,none⟩) (n-i) sc]).run Tryz.prog W=.ok (goInt ((n-i:Nat):Int)) (W.setRow gb (Go.splice M1 ((i+1)*6) C1).toArray):=fun W W0 hW0 hW ty dc sc=>by
  have hmin:Nat.min (n-i) (n-i)=n-i:=by show min _ _=_;omega
  have:=zbc (P:=Tryz.prog) (w:=W) (sT:=24) (ty:=ty) (dCap:=dc) (sCap:=sc) (dLen:=n-i) (sLen:=n-i) (o:=(i+1)*6) (a:=⟨b,i*6,none⟩) Tryz.underlying24 hi0 hsz (g:=gb) (t:=73) (L:=M1) (by rw[hW];exact setRow_heap _ _ _ _ _ _ (hnew W0 hW0)) (cs:=C1) (by rw[hmin];exact hC1l)
   (fun j v hj=>by
    rw[Addr.add_lit]
    unfold World.cell?
    have e:W.heap[(⟨b,i*6+j,none⟩:Addr).block]?=w.heap[b]?:=by
     show W.heap[b]?=_
     rw[hW,setRow_other _ _ _ _ (by omega),hpast W0 hW0 b hbw]
    rw[e,hb]
    rw[hC1,List.getElem?_take]at hj
    split at hj
    ·simpa using hj
    ·cases hj) (by omega) (by rw[hC1];exact h1)
  rw[hmin]at this
  exact this
 have hw1:IntKind.i64.wrap ((i:Int)+1)=(i:Int)+1:=by rw[IntKind.wrap_i64];omega
 have hb1:(0:Int)≤(i:Int)+1:=by omega
 have hin:i≤n:=by omega
 have htn:((i:Int)+1).toNat=i+1:=by omega
 have hb3:(i:Int)≤(n:Int):=by omega
 have hGi:¬(G=i):=by omega
 have hGim:¬(G=i+1):=by omega
 have hci:¬(c=i):=by omega
 have hmixed:Tryz.prog.follows .mixedOrders=true:=by kernel_rfl
 have mixed:=hmixed
 have hfin:∀W W0:World,W0.heap=w.heap.push (.cells R.toArray 73)→W.heap=(W0.setRow gb M1.toArray).heap→(W.setRow gb (Go.splice M1 ((i+1)*6) C1).toArray).heap=w.heap.push (.cells (Go.splice M1 ((i+1)*6) C1).toArray 73):=fun W W0 hW0 hW=>by
  have h1:W.heap[gb]?=some (.cells M1.toArray 73 (0,0)):=by rw[hW];exact setRow_heap _ _ _ _ _ _ (hnew W0 hW0)
  have hsz0:W.heap.size=w.heap.size+1:=by rw[hW,setRow_size,hW0];simp
  apply Array.ext_getElem?
  intro k
  by_cases hk:k=gb
  ·subst hk
   rw[setRow_heap _ _ _ _ _ _ h1,hgb];simp
  ·rw[setRow_other _ _ _ _ hk]
   by_cases hk2:k<w.heap.size
   ·rw[hW,setRow_other _ _ _ _ hk,hpast W0 hW0 k hk2,Array.getElem?_push_lt hk2];simp[hk2]
   ·rw[Array.getElem?_eq_none (by omega),Array.getElem?_eq_none (by simp;omega)]
 have hMM:Go.splice (Go.splice R (i*6) vs) ((i+1)*6) C1=Go.splice M1 ((i+1)*6) C1:=by rw[hM1]
 subst hgb
 have hcpA':=hcpA ((w.alloc (.cells R.toArray 73)).drew) rfl
 clear hkk hcpA hik hold hG hR hRe hC1 hM1 hC1l hM1l h1 h2 hvs hL hTl
 go_enter Tryz.func168,Tryz.ntmps168
 go_wp2_with (at_builtin;refine zbd rfl _ _ _ _ rfl _ _ rfl rfl (hrz _) ?_)
 go_region_law_o (refine zcw rfl _ _ 24 24 rfl (.slice (some ⟨w.heap.size,(i+1)*6,none⟩) (n-i) (G-(i+1))) (.slice (some ⟨b,i*6,none⟩) (n-i) (c-i)) (by simp[Act.eval,Act.put]) (by simp[Act.eval,Act.put]) (hcpB (((w.alloc (.cells R.toArray 73)).drew.setRow w.heap.size M1.toArray).drew) (w.drew.alloc (.cells R.toArray 73)) rfl rfl 3 (G-(i+1)) (c-i)) ?_)
 go_wp2
 go_ret
 refine ⟨G,R,rfl,hge,hRl,hRt,?_,rfl,rfl,rfl⟩
 rw[hMM]
 exact hfin _ (w.drew.alloc (.cells R.toArray 73)) rfl rfl
end Go.Proofs.YtpaidiaknfhclaaGreatDoor
namespace Go.Proofs.YtpaidiaknfhclaaGreatDoor
open Go Ev
theorem zxd:∃i0 z,Tryz.prog.info? 75=some i0∧i0.zero=some z∧z.cells.size=11∧i0.size=11∧∀v∈z.cells,v.oneCell'=true:=by
 have h:(match Tryz.prog.info? 75 with|some i=>(match i.zero with|some z=>Nat.beq z.cells.size 11&&Nat.beq i.size 11&&z.cells.toList.all (·.oneCell')|none=>false)|none=>false)=true:=by kernel_rfl
 split at h
 ·rename_i i hi
  split at h
  ·rename_i z hz
   simp only[Bool.and_eq_true]at h
   exact ⟨i,z,hi,hz,Nat.eq_of_beq_eq_true h.1.1,Nat.eq_of_beq_eq_true h.1.2,fun v hv=>List.all_eq_true.1 h.2 v (by simpa using hv)⟩
  ·cases h
 ·cases h
set_option maxHeartbeats 4000000 in
set_option maxRecDepth 100000 in
theorem zmu {w:World} {base:Option Addr} {n c i:Nat} (hnc:n≤c) (hi:i≤n) :
 Calls Tryz.prog 225 #[.slice base n c,.int .i64 i,.int .i64 i] w fun e w'=>e=.returned (.slice base n c)∧w'=w:=by
 cases base with
 |none=>
  go_enter Tryz.func225,Tryz.ntmps225
  go_wp2
  all_goals (go_ret;exact ⟨rfl,rfl⟩)
 |some a=>
  obtain ⟨ab,ao,asp⟩:=a
  go_enter Tryz.func225,Tryz.ntmps225
  go_wp2
  all_goals (go_ret;exact ⟨rfl,rfl⟩)
set_option maxHeartbeats 4000000 in
set_option maxRecDepth 100000 in
theorem zmv {w:World} {b n c i j:Nat} {L:List Value} {t:TypeId} (hij:i<j) (hj:j≤n) (hnc:n≤c)
 (hb:w.heap[b]?=some (.cells L.toArray t (0,0))) (hL:L.length=c*11) (h1:∀v∈(L.drop (j*11)).take ((n-j)*11),v.oneCell'=true) :
 Calls Tryz.prog 225 #[.slice (some ⟨b,0,none⟩) n c,.int .i64 i,.int .i64 j] w fun e w'=>
  e=.returned (.slice (some ⟨b,0,none⟩) (i+(n-j)) c)∧∃(M0:Array Value) (zs:List Value),zs.length=(j-i)*11∧w'=(w.drew.setRow b M0).setRow b (Go.splice (Go.splice L (i*11) ((L.drop (j*11)).take ((n-j)*11))) ((i+(n-j))*11) zs).toArray:=by
 obtain ⟨i0,z0,hi0,hz0,hzs,hsz,hz1⟩:=zxd
 have hLn:n*11≤L.length:=by rw[hL];exact Nat.mul_le_mul_right _ hnc
 obtain ⟨C1,hC1⟩:∃C1,C1=(L.drop (j*11)).take ((n-j)*11):=⟨_,rfl⟩
 have hC1l:C1.length=(n-j)*11:=by rw[hC1];simp;omega
 obtain ⟨M1,hM1⟩:∃M1,M1=Go.splice L (i*11) C1:=⟨_,rfl⟩
 have hM1l:M1.length=L.length:=by rw[hM1];exact length_splice _ _ _ (by omega)
 rw[←hC1,←hM1]
 obtain ⟨A,hA,hsrc⟩:∃A:Addr,(if c=j then some (⟨b,0,none⟩:Addr) else some ⟨b,j*11,none⟩)=some A∧∀q v,C1[q]?=some v→w.drew.cell? (A.add q)=some v:=by
  by_cases h:c=j
  ·refine ⟨⟨b,0,none⟩,by simp[h],fun q v hq=>?_⟩
   have:=(List.getElem?_eq_some_iff.1 hq).1
   omega
  ·refine ⟨⟨b,j*11,none⟩,by simp[h],fun q v hq=>?_⟩
   rw[Addr.add_lit]
   show w.cell? _=_
   simp only[World.cell?,hb]
   rw[hC1,List.getElem?_take]at hq
   split at hq
   ·simpa using hq
   ·cases hq
 have hf:∀xc,(Builtin.firstCells i0.size (n-j) (.slice (some A) (n-j) xc)).run Tryz.prog w.drew=.ok C1.toArray w.drew:=fun xc=>run_firstCells_some (P:=Tryz.prog) w.drew i0.size (n-j) A (n-j) xc C1 (by rw[hsz];exact hC1l) hsrc
 have hone:∀v∈C1,v.oneCell'=true:=by rw[hC1];exact h1
 have hap:∀ty xc,(Builtin.append_ #[25,25] ty #[.slice (some ⟨b,0,none⟩) i c,.slice (some A) (n-j) xc]).run Tryz.prog w.drew=.ok (.slice (some ⟨b,0,none⟩) (i+(n-j)) c) (w.drew.setRow b M1.toArray):=fun ty xc=>by
  have:=zbv (P:=Tryz.prog) (w:=w.drew) (ty:=ty) (ts:=#[25,25]) rfl rfl Tryz.underlying25 Tryz.underlying25 hi0 (hf xc) (sLen:=i) (sCap:=c) (by omega) hb (by simp only[List.size_toArray];rw[hsz];omega) hone
  rw[hsz]at this
  rw[hM1]
  simpa[Go.splice]using this
 obtain ⟨zs,hzs'⟩:∃zs,zs=(Builtin.zeroCells z0.cells (j-i)).toList:=⟨_,rfl⟩
 have hzl:zs.length=(j-i)*11:=by rw[hzs',Array.length_toList,Go.size_zeroCells,hzs]
 have hcl:∀ty cc,(Builtin.clear_ #[25] ty #[.slice (some ⟨b,(i+(n-j))*11,none⟩) (n-(i+(n-j))) cc]).run Tryz.prog (w.drew.setRow b M1.toArray)=.ok (.tuple #[]) ((w.drew.setRow b M1.toArray).setRow b (Go.splice M1 ((i+(n-j))*11) zs).toArray):=fun ty cc=>by
  have e:n-(i+(n-j))=j-i:=by omega
  rw[e,hzs']
  exact zjs (P:=Tryz.prog) (w:=w.drew.setRow b M1.toArray) Tryz.underlying25 hi0 hz0 (by omega) (setRow_heap _ _ _ _ _ _ hb) (by rw[hzs];omega) hz1
 have hic:i≤c:=by omega
 have hjc:j≤c:=by omega
 have mixed:Tryz.prog.follows .mixedOrders=true:=by kernel_rfl
 clear hC1 hM1 hC1l hM1l h1 hL hf hone hzs'
 go_enter Tryz.func225,Tryz.ntmps225
 go_wp2_with fail
 go_region_law_o (refine zl8 rfl (.tmp 22) (.tmp 25) 25 25 rfl (.slice (some ⟨b,0,none⟩) i c) (.slice (some A) (n-j) (c-j)) (by simp[Act.eval,Act.put]) (by simp[Act.eval,Act.put]) (hap _ _) ?_)
 go_wp2
 go_ret
 exact ⟨rfl,_,zs,hzl,rfl⟩
end Go.Proofs.YtpaidiaknfhclaaGreatDoor
namespace Go.Proofs.YtpaidiaknfhclaaGreatDoor
open Go Ev
theorem zxe:∃i0 z,Tryz.prog.info? 73=some i0∧i0.zero=some z∧z.cells.size=6∧i0.size=6∧∀v∈z.cells,v.oneCell'=true:=by
 have h:(match Tryz.prog.info? 73 with|some i=>(match i.zero with|some z=>Nat.beq z.cells.size 6&&Nat.beq i.size 6&&z.cells.toList.all (·.oneCell')|none=>false)|none=>false)=true:=by kernel_rfl
 split at h
 ·rename_i i hi
  split at h
  ·rename_i z hz
   simp only[Bool.and_eq_true]at h
   exact ⟨i,z,hi,hz,Nat.eq_of_beq_eq_true h.1.1,Nat.eq_of_beq_eq_true h.1.2,fun v hv=>List.all_eq_true.1 h.2 v (by simpa using hv)⟩
  ·cases h
 ·cases h
set_option maxHeartbeats 4000000 in
set_option maxRecDepth 100000 in
theorem zmw {w:World} {base:Option Addr} {n c i:Nat} (hnc:n≤c) (hi:i≤n) :
 Calls Tryz.prog 187 #[.slice base n c,.int .i64 i,.int .i64 i] w fun e w'=>e=.returned (.slice base n c)∧w'=w:=by
 cases base with
 |none=>
  go_enter Tryz.func187,Tryz.ntmps187
  go_wp2
  all_goals (go_ret;exact ⟨rfl,rfl⟩)
 |some a=>
  obtain ⟨ab,ao,asp⟩:=a
  go_enter Tryz.func187,Tryz.ntmps187
  go_wp2
  all_goals (go_ret;exact ⟨rfl,rfl⟩)
set_option maxHeartbeats 4000000 in
set_option maxRecDepth 100000 in
theorem zmx {w:World} {b n c i j:Nat} {L:List Value} {t:TypeId} (hij:i<j) (hj:j≤n) (hnc:n≤c)
 (hb:w.heap[b]?=some (.cells L.toArray t (0,0))) (hL:L.length=c*6) (h1:∀v∈(L.drop (j*6)).take ((n-j)*6),v.oneCell'=true) :
 Calls Tryz.prog 187 #[.slice (some ⟨b,0,none⟩) n c,.int .i64 i,.int .i64 j] w fun e w'=>
  e=.returned (.slice (some ⟨b,0,none⟩) (i+(n-j)) c)∧∃(M0:Array Value) (zs:List Value),zs.length=(j-i)*6∧w'=(w.drew.setRow b M0).setRow b (Go.splice (Go.splice L (i*6) ((L.drop (j*6)).take ((n-j)*6))) ((i+(n-j))*6) zs).toArray:=by
 obtain ⟨i0,z0,hi0,hz0,hzs,hsz,hz1⟩:=zxe
 have hLn:n*6≤L.length:=by rw[hL];exact Nat.mul_le_mul_right _ hnc
 obtain ⟨C1,hC1⟩:∃C1,C1=(L.drop (j*6)).take ((n-j)*6):=⟨_,rfl⟩
 have hC1l:C1.length=(n-j)*6:=by rw[hC1];simp;omega
 obtain ⟨M1,hM1⟩:∃M1,M1=Go.splice L (i*6) C1:=⟨_,rfl⟩
 have hM1l:M1.length=L.length:=by rw[hM1];exact length_splice _ _ _ (by omega)
 rw[←hC1,←hM1]
 obtain ⟨A,hA,hsrc⟩:∃A:Addr,(if c=j then some (⟨b,0,none⟩:Addr) else some ⟨b,j*6,none⟩)=some A∧∀q v,C1[q]?=some v→w.drew.cell? (A.add q)=some v:=by
  by_cases h:c=j
  ·refine ⟨⟨b,0,none⟩,by simp[h],fun q v hq=>?_⟩
   have:=(List.getElem?_eq_some_iff.1 hq).1
   omega
  ·refine ⟨⟨b,j*6,none⟩,by simp[h],fun q v hq=>?_⟩
   rw[Addr.add_lit]
   show w.cell? _=_
   simp only[World.cell?,hb]
   rw[hC1,List.getElem?_take]at hq
   split at hq
   ·simpa using hq
   ·cases hq
 have hf:∀xc,(Builtin.firstCells i0.size (n-j) (.slice (some A) (n-j) xc)).run Tryz.prog w.drew=.ok C1.toArray w.drew:=fun xc=>run_firstCells_some (P:=Tryz.prog) w.drew i0.size (n-j) A (n-j) xc C1 (by rw[hsz];exact hC1l) hsrc
 have hone:∀v∈C1,v.oneCell'=true:=by rw[hC1];exact h1
 have hap:∀ty xc,(Builtin.append_ #[24,24] ty #[.slice (some ⟨b,0,none⟩) i c,.slice (some A) (n-j) xc]).run Tryz.prog w.drew=.ok (.slice (some ⟨b,0,none⟩) (i+(n-j)) c) (w.drew.setRow b M1.toArray):=fun ty xc=>by
  have:=zbv (P:=Tryz.prog) (w:=w.drew) (ty:=ty) (ts:=#[24,24]) rfl rfl Tryz.underlying24 Tryz.underlying24 hi0 (hf xc) (sLen:=i) (sCap:=c) (by omega) hb (by simp only[List.size_toArray];rw[hsz];omega) hone
  rw[hsz]at this
  rw[hM1]
  simpa[Go.splice]using this
 obtain ⟨zs,hzs'⟩:∃zs,zs=(Builtin.zeroCells z0.cells (j-i)).toList:=⟨_,rfl⟩
 have hzl:zs.length=(j-i)*6:=by rw[hzs',Array.length_toList,Go.size_zeroCells,hzs]
 have hcl:∀ty cc,(Builtin.clear_ #[24] ty #[.slice (some ⟨b,(i+(n-j))*6,none⟩) (n-(i+(n-j))) cc]).run Tryz.prog (w.drew.setRow b M1.toArray)=.ok (.tuple #[]) ((w.drew.setRow b M1.toArray).setRow b (Go.splice M1 ((i+(n-j))*6) zs).toArray):=fun ty cc=>by
  have e:n-(i+(n-j))=j-i:=by omega
  rw[e,hzs']
  exact zjs (P:=Tryz.prog) (w:=w.drew.setRow b M1.toArray) Tryz.underlying24 hi0 hz0 (by omega) (setRow_heap _ _ _ _ _ _ hb) (by rw[hzs];omega) hz1
 have hic:i≤c:=by omega
 have hjc:j≤c:=by omega
 have mixed:Tryz.prog.follows .mixedOrders=true:=by kernel_rfl
 clear hC1 hM1 hC1l hM1l h1 hL hf hone hzs'
 go_enter Tryz.func187,Tryz.ntmps187
 go_wp2_with fail
 go_region_law_o (refine zl8 rfl (.tmp 22) (.tmp 25) 24 24 rfl (.slice (some ⟨b,0,none⟩) i c) (.slice (some A) (n-j) (c-j)) (by simp[Act.eval,Act.put]) (by simp[Act.eval,Act.put]) (hap _ _) ?_)
 go_wp2
 go_ret
 exact ⟨rfl,_,zs,hzl,rfl⟩
end Go.Proofs.YtpaidiaknfhclaaGreatDoor
namespace Go.Proofs.YtpaidiaknfhclaaGreatDoor
open Go Ev
open Go.Lib Go.RowKit
theorem zazf {X:Ending} (a:Int) {b:Int} (h:X=.returned (.int .i64 a)) (e:a=b):X=.returned (.int .i64 b):=e▸h
theorem zapb (b cap:Nat) (x y z:Int) (w:World) (h0:w.cell? ⟨b,0,none⟩=some (.int .i64 x)) (h1:w.cell? ⟨b,1,none⟩=some (.int .i64 y)) (h2:w.cell? ⟨b,2,none⟩=some (.int .i64 z)) :
 Calls Tryz.prog 61 #[.slice (some ⟨b,0,none⟩) 3 cap] w fun e w'=>e=.returned (.int .i64 (zf7 x (zf7 y z)))∧w'=w:=by
 obtain ⟨R,hR⟩:∃R,R=zf7 x (zf7 y z):=⟨_,rfl⟩
 have r0:x≠0→x=R:=fun h=>by rw[hR];unfold zf7;rw[if_neg h]
 have r1:x=0→y≠0→y=R:=fun h h'=>by rw[hR];unfold zf7;rw[if_pos h,if_neg h']
 have r2:x=0→y=0→z=R:=fun h h'=>by rw[hR];unfold zf7;rw[if_pos h,if_pos h']
 rw[←hR]
 clear hR
 go_enter Tryz.func61,Tryz.ntmps61
 go_wp2
 go_loop [2,8] (fun r i=>∃k:Nat,k≤3∧i=.int .i64 k∧r=.int .i64 0∧(1≤k→x=0)∧(2≤k→y=0)∧(3≤k→z=0)) (fun _ i=>3-(intOf i).toNat)
 case atStart=>exact ⟨0,by omega,rfl,rfl,by omega,by omega,by omega⟩
 case round=>
  obtain ⟨k,hk,rfl,rfl,k1,k2,k3⟩:=hrel
  rcases (by omega:k=0∨k=1∨k=2∨k=3) with rfl|rfl|rfl|rfl
  ·clear k1 k2 k3
   have H1:Hid ((x != 0)=true→x=R):=fun h=>r0 (by simpa using h)
   clear r0 r1 r2
   go_wp2
   all_goals first
    |(rw[←H1.out (by assumption)];go_ret;exact ⟨rfl,rfl⟩)
    |(go_round;(case rel=>exact ⟨1,by omega,by go_num,rfl,fun _=>by simp_all,by omega,by omega⟩);(case measure=>simp[intOf]))
  ·have H1:Hid ((y != 0)=true→y=R):=fun h=>r1 (k1 (by omega)) (by simpa using h)
   have H0:Hid (x=0):=k1 (by omega)
   clear k1 k2 k3 r0 r1 r2
   go_wp2
   all_goals first
    |(rw[←H1.out (by assumption)];go_ret;exact ⟨rfl,rfl⟩)
    |(go_round;(case rel=>exact ⟨2,by omega,by go_num,rfl,fun _=>H0.out,fun _=>by simp_all,by omega⟩);(case measure=>simp[intOf]))
  ·have H1:Hid (z=R):=r2 (k1 (by omega)) (k2 (by omega))
   have H0:Hid (x=0∧y=0):=⟨k1 (by omega),k2 (by omega)⟩
   clear k1 k2 k3 r0 r1 r2
   go_wp2
   all_goals first
    |(rw[←H1.out];go_ret;exact ⟨rfl,rfl⟩)
    |(go_round;(case rel=>exact ⟨3,by omega,by go_num,rfl,fun _=>H0.out.1,fun _=>H0.out.2,fun _=>by simp_all⟩);(case measure=>simp[intOf]))
  ·have H1:Hid (0=R):=(k3 (by omega)).symm.trans (r2 (k1 (by omega)) (k2 (by omega)))
   clear k1 k2 k3 r0 r1 r2
   go_wp2
   rw[←H1.out]
   go_ret
   exact ⟨rfl,rfl⟩
def encC (x:Weed_candidate):List Value:=[.int .i64 x.id_,.int .i64 x.record,.int .i64 x.loans,.int .i64 x.last]
def cfC (a b:Weed_candidate):Int:=zf7 (Go.Lib.compareInt a.loans b.loans) (zf7 (Go.Lib.compareInt a.last b.last) (Go.Lib.compareInt a.id_ b.id_))
set_option maxHeartbeats 4000000 in
theorem zaag (a b:Weed_candidate) (W:World):Calls Tryz.prog 60 #[.agg (encC a).toArray,.agg (encC b).toArray] W fun e w'=>e=.returned (.int .i64 (cfC a b))∧∃q os',w'=Go.Sort.grow (W.drewN q) os':=by
 obtain ⟨i1,c1,l1,s1⟩:=a
 obtain ⟨i2,c2,l2,s2⟩:=b
 have hcon:∀(x y:Int) (W':World),Calls Tryz.prog 62 #[.int .i64 x,.int .i64 y] W' fun e w'=>e=.returned (.int .i64 (Go.Lib.compareInt x y))∧w'=W':=fun x y W'=>AnyG.cmp_Compare_int Tryz.laysCmp x y W'
 show Calls Tryz.prog 60 #[.agg #[.int .i64 i1,.int .i64 c1,.int .i64 l1,.int .i64 s1],.agg #[.int .i64 i2,.int .i64 c2,.int .i64 l2,.int .i64 s2]] W fun e w'=>e=.returned (.int .i64 (zf7 (Go.Lib.compareInt l1 l2) (zf7 (Go.Lib.compareInt s1 s2) (Go.Lib.compareInt i1 i2))))∧∃q os',w'=Go.Sort.grow (W.drewN q) os'
 have k1:=hcon l1 l2
 have k2:=hcon s1 s2
 have k3:=hcon i1 i2
 clear hcon
 generalize Go.Lib.compareInt l1 l2=r1 at *
 generalize Go.Lib.compareInt s1 s2=r2 at *
 generalize Go.Lib.compareInt i1 i2=r3 at *
 go_enter Tryz.func60,Tryz.ntmps60
 go_wp2
 go_region_held3 (fun w'=>w'.cell? ⟨W.heap.size,0,none⟩=some (.int .i64 i1)∧w'.cell? ⟨W.heap.size,2,none⟩=some (.int .i64 l1)∧w'.cell? ⟨W.heap.size,3,none⟩=some (.int .i64 s1)∧w'.cell? ⟨W.heap.size+1,0,none⟩=some (.int .i64 i2)∧w'.cell? ⟨W.heap.size+1,2,none⟩=some (.int .i64 l2)∧w'.cell? ⟨W.heap.size+1,3,none⟩=some (.int .i64 s2)) (go_keep)
  (first
   |(go_at_call_of 62 (Value.int .i64 l1);refine (k1 _).mono ?_;rintro e w' ⟨rfl,rfl⟩)
   |(go_at_call_of 62 (Value.int .i64 s1);refine (k2 _).mono ?_;rintro e w' ⟨rfl,rfl⟩)
   |(go_at_call_of 62 (Value.int .i64 i1);refine (k3 _).mono ?_;rintro e w' ⟨rfl,rfl⟩)
   |(go_at_call 61;refine (zapb _ _ r1 r2 r3 _ (by go_simp) (by go_simp) (by go_simp)).mono ?_;rintro e w' ⟨rfl,rfl⟩))
 all_goals go_wp2
 all_goals go_ret
 exact ⟨rfl,1,_,by rw[Go.Sort.alloc_eq_grow,Go.Sort.alloc_eq_grow,Go.Sort.alloc_eq_grow,Go.Sort.grow_grow,Go.Sort.grow_grow];rfl⟩
end Go.Proofs.YtpaidiaknfhclaaGreatDoor
namespace Go.Proofs.YtpaidiaknfhclaaGreatDoor
open Go Ev
open Go.Sort
set_option maxRecDepth 100000
theorem ztx (a b:Weed_candidate):cfC a b<0↔a.loans<b.loans∨(a.loans=b.loans∧(a.last<b.last∨(a.last=b.last∧a.id_<b.id_))):=by
 unfold cfC zf7 Go.Lib.compareInt
 by_cases h1:a.loans<b.loans
 ·simp[h1]
 ·by_cases h2:a.loans>b.loans
  ·have:¬a.loans=b.loans:=by omega
   simp[h1,h2,this]
  ·have h3:a.loans=b.loans:=by omega
   by_cases h4:a.last<b.last
   ·simp[h3,h4]
   ·by_cases h5:a.last>b.last
    ·have:¬a.last=b.last:=by omega
     simp[h3,h4,h5,this]
    ·have h6:a.last=b.last:=by omega
     by_cases h7:a.id_<b.id_
     ·simp[h3,h6,h7]
     ·by_cases h8:a.id_>b.id_
      ·simp[h3,h6,h7,h8]
      ·simp[h3,h6,h7,h8]
theorem zq6:SWO (ltOf cfC) where
 irrefl x:=by
  have h:=ztx x x
  unfold ltOf
  rw[decide_eq_false_iff_not,h];omega
 trans x y z h1 h2:=by
  unfold ltOf at *
  simp only[decide_eq_true_eq,ztx]at *
  omega
 ntrans x y z h1 h2:=by
  unfold ltOf at *
  simp only[decide_eq_false_iff_not,ztx]at *
  omega
theorem zajn {w:World} {I J:Nat→Nat→Prop} {xs:List Weed_candidate} {vals:Array Value}
 (hc:∀i (hi:i<xs.length) j d,(sg.enc Kd.kWeed_candidate xs[i])[j]?=some d→∃v,vals[i*sg.sz Kd.kWeed_candidate+j]?=some v∧DR sg w I J v d) :
 ∀i (hi:i<xs.length) j v,(encC xs[i])[j]?=some v→vals[i*4+j]?=some v:=by
 intro i hi j v hv
 have key:∀n,(sg.enc Kd.kWeed_candidate xs[i])[j]?=some (.int .i64 n)→v=.int .i64 n→vals[i*4+j]?=some v:=by
  intro n h1 h2
  obtain ⟨u,h3,h4⟩:=hc i hi j _ h1
  rw[h2,←h4.int_inv];exact h3
 match j,hv with
 |0,hv=>exact key _ rfl (Option.some.inj hv).symm
 |1,hv=>exact key _ rfl (Option.some.inj hv).symm
 |2,hv=>exact key _ rfl (Option.some.inj hv).symm
 |3,hv=>exact key _ rfl (Option.some.inj hv).symm
 |j+4,hv=>simp[encC]at hv
theorem z2f {xs:List Weed_candidate} {i j:Nat} (hi:i<xs.length) (hj:j<4):(encC xs[i])[j]?=some (flatK encC 4 xs.toArray)[i*4+j]!:=by
 have h:i*4+j<xs.toArray.size*4:=by simp;omega
 rw[get_flatK _ _ _ _ h]
 have e1:(i*4+j) / 4=i:=by omega
 have e2:(i*4+j) % 4=j:=by omega
 rw[e1,e2]
 have e3:xs.toArray[i]! = xs[i]:=by simp[hi]
 rw[e3]
 have:j<(encC xs[i]).length:=hj
 rw[List.getElem?_eq_getElem this,List.getElem!_eq_getElem?_getD,List.getElem?_eq_getElem this]
 rfl
theorem zanu {w:World} {xs:List Weed_candidate} {blk:Nat} {vals:Array Value} {t:TypeId} (hb:w.heap[blk]?=some (.cells vals t (0,0)))
 (hc:∀i (hi:i<xs.length) j v,(encC xs[i])[j]?=some v→vals[i*4+j]?=some v):HoldsK encC 4 w blk 0 xs.toArray:=by
 intro t ht
 have ht:t<xs.length*4:=by simpa using ht
 have e:t=t / 4*4+t % 4:=by omega
 have h1:=z2f (xs:=xs) (i:=t / 4) (j:=t % 4) (by omega) (by omega)
 rw[←e]at h1
 have h2:=hc (t / 4) (by omega) (t % 4) _ h1
 rw[←e]at h2
 refine ⟨?_,?_⟩
 ·simp only[World.cell?,hb,Nat.zero_add,h2]
  rfl
 ·simp[World.frozen?,hb]
theorem zaa0 {w:World} {I J:Nat→Nat→Prop} {F:Array Value} {blk q:Nat} {vals:Array Value} {t:TypeId} {os:Array Obj} (hp:Pre sg w I J [blk]) (hb:w.heap[blk]?=some (.cells vals t (0,0))) (hy:F.size≤vals.size) :
 GrowM [blk] w (grow (putRow id (Sort.ahead w q) blk 0 F) os) I I∧
 ∃vals',(grow (putRow id (Sort.ahead w q) blk 0 F) os).heap[blk]?=some (.cells vals' t (0,0))∧vals'.size=vals.size∧∀i,i<F.size→vals'[i]?=some F[i]!:=by
 have hlt:blk<w.heap.size:=(Array.getElem?_eq_some_iff.1 hb).1
 have hh:(grow (putRow id (Sort.ahead w q) blk 0 F) os).heap=w.heap.modify blk (onCells (putCells id 0 F))++os:=rfl
 have hsz:(w.heap.modify blk (onCells (putCells id 0 F))).size=w.heap.size:=by simp
 have hget:∀b,b<w.heap.size→(grow (putRow id (Sort.ahead w q) blk 0 F) os).heap[b]?=if blk=b then (w.heap[b]?).map (onCells (putCells id 0 F)) else w.heap[b]?:=by
  intro b hb
  rw[hh,Array.getElem?_append_left (by rw[hsz];exact hb),Array.getElem?_modify]
 refine ⟨⟨?_,rfl,rfl,rfl,fun b h1 h2=>?_,fun _ _ h=>h,fun _ _ h=>.inl h,fun b o h=>?_⟩,putCells id 0 F vals,?_,?_,?_⟩
 ·rw[hh,Array.size_append,hsz];omega
 ·rw[hget b h1,if_neg (fun e=>h2 (by simp[e]))]
 ·have:=hp.ib b o h
  rw[hh,Array.size_append,hsz];omega
 ·rw[hget blk hlt,if_pos rfl,hb]
  rfl
 ·simp[putCells]
 ·intro i hi
  unfold putCells
  rw[Array.getElem?_mapIdx,Array.getElem?_eq_getElem (by omega)]
  simp[hi]
theorem zxj {mb:List Nat} {w:World} {I:Nat→Nat→Prop} (h:∀b o,I b o→b<w.heap.size):GrowM mb w w I I:=⟨Nat.le_refl _,rfl,rfl,rfl,fun _ _ _=>rfl,fun _ _ h=>h,fun _ _ h=>.inl h,h⟩
theorem zaio {w:World} {I J:Nat→Nat→Prop} {vs:Array Value} (h:Args sg w I J vs [.fn 60 [] []]):vs = #[.func (.func 60) #[] #[]]:=by
 obtain ⟨h1,h2⟩:=h
 have h1:vs.size=1:=h1
 obtain ⟨v,hv⟩:∃v,vs[0]?=some v:=⟨vs[0],by simp[h1]⟩
 have h3:=h2 0 v _ hv rfl
 cases h3 with
 |fn f p c ps cs hp hc k1 k2=>
  have hp:p = #[]:=Array.eq_empty_of_size_eq_zero hp
  have hc:c = #[]:=Array.eq_empty_of_size_eq_zero hc
  subst hp
  subst hc
  refine Array.ext (by simp[h1]) (fun i hi _=>?_)
  have:i=0:=by omega
  subst this
  have:=(Array.getElem?_eq_some_iff.1 hv).2
  simpa using this
theorem z0f (blk off size:Nat) (w:World):CmpLays Tryz.prog 60 #[] encC 4 cfC blk off size w:=fun m os dk _ x y=>zaag x y (sortWorldK encC 4 w blk off m dk os)
theorem zac7 (xs:List Weed_candidate):(pdqL cfC xs).length=xs.length:=by
 have h:=(pdq_sorts (ltOf cfC) zq6 xs.toArray 0 xs.toArray.size (Lib.bitLen xs.toArray.size) true true (Nat.zero_le _) (Nat.le_refl _) (Or.inl rfl)).1.1
 show (pdq (ltOf cfC) xs.toArray 0 xs.length (Go.Lib.bitLen xs.length) true true).toList.length=_
 simpa using h
theorem zayq:fnB Tryz.prog 59 Tryz.f59 []=true:=by kernel_rfl
theorem z2a:∀args w,(callFunc 60 args).run Tryz.prog w=.ok (.enter 60 args) w:=enters_of Tryz.func60 (by kernel_rfl) rfl
theorem zaln:∀ds a r,zzd.dec ds=some a→zaf6 a=some r→Con Tryz.prog sg 59 ds [] (zahp.enc r) []:=by
 intro ds a r hd hf
 obtain ⟨code,fok,-,-⟩:=zbe Tryz.func59 zayq
 have hac:CCOk zzd:=CCOk.cons (zai.lst _) (CCOk.cons (zai.fnc _ CCOk.nil CCOk.nil) CCOk.nil)
 have hds:=hac ds a hd
 have hmd:sg.md 59=.inpl:=by kernel_rfl
 unfold Con
 rw[hmd]
 obtain ⟨zs,u⟩:=a
 have hds:WL ds [.lst .kWeed_candidate zs,.fn 60 [] []]:=hds
 have hf:(bif decide (zs.length≤LIM) then some (pdqL cfC zs) else none)=some r:=hf
 intro _ k xs ds0 he xs' hr w I J mb v0 vs hp ho hargs
 subst he
 have hr:(D.lst Kd.kWeed_candidate r:DD)=D.lst k xs':=hr
 cases hr
 have hw0:=hds.2 0 _ _ rfl rfl
 cases hw0 with
 |leaf _ _ hw0=>
 cases hw0
 have hargs:=WL.args (cs':=[.fn 60 [] []]) ⟨by simpa using hds.1,fun q d d' h1 h2=>hds.2 (q+1) d d' h1 h2⟩ hargs
 have:=zaio hargs
 subst this
 cases hlim:decide (zs.length≤LIM) with
 |false=>rw[hlim]at hf;cases hf
 |true=>
  rw[hlim]at hf
  have hl:=of_decide_eq_true hlim
  unfold LIM at hl
  have hf:some (pdqL cfC zs)=some r:=hf
  cases hf
  have hlen:=zac7 zs
  unfold zci
  rw[show (#[v0]++#[Value.func (.func 60) #[] #[]]) = #[v0,Value.func (.func 60) #[] #[]] from rfl,MuLone.run_callFunc_enter fok.at_ fok.name fok.body _ w]
  simp only
  obtain ⟨base,cap,rfl,hcap,ho⟩:=ho
  rcases ho with ⟨rfl,rfl⟩|⟨blk,vals,t,rfl,rfl,hb,hv,hc⟩
  ·have hz:zs=[]:=List.length_eq_zero_iff.1 (by omega)
   subst hz
   have h:=AnyF.slices_SortFunc_none Tryz.laysSort base 0 (.func (.func 60) #[] #[]) w
   refine h.mono (fun e w' he=>?_)
   obtain ⟨rfl,rfl⟩:=he
   exact ⟨rfl,hlen,I,zxj hp.ib,base,0,by rw[List.length_eq_zero_iff.1 hlen],by rw[hlen];simp,.inl ⟨rfl,rfl⟩⟩
  ·have hc2:=zajn hc
   have hv:vals.size=cap*4:=hv
   have h:=AnyQ.slices_SortFunc_eq Tryz.laysSort 4 Tryz.isAgg63 Tryz.sizeOf63 encC (fun _=>rfl) (fun x v hv=>by simp[encC]at hv;rcases hv with rfl|rfl|rfl|rfl<;>rfl) cfC zq6 60 #[] blk 0 cap zs.toArray w z2a (z0f blk 0 zs.toArray.size w) (zanu hb hc2) (Array.getElem?_eq_some_iff.1 hb).1 (by simp;omega)
   refine h.mono (fun e w' he=>?_)
   obtain ⟨rfl,n,os,rfl⟩:=he
   obtain ⟨g,vals',h1,h2,h3⟩:=zaa0 (q:=n) (os:=os) (F:=flatK encC 4 (pdqL cfC zs).toArray) hp hb (by simp;omega)
   refine ⟨rfl,hlen,I,g,some ⟨blk,0,none⟩,cap,by rw[hlen],by omega,.inr ⟨blk,vals',t,rfl,rfl,h1,by rw[h2];exact hv,?_⟩⟩
   intro i hi j d hd
   have key:∀n,j<4→(encC (pdqL cfC zs)[i])[j]?=some (.int .i64 n)→d=.int .i64 n→∃v,vals'[i*4+j]?=some v∧∀W,DR sg W I I v d:=by
    intro n hj e1 e2
    have h4:=z2f (xs:=pdqL cfC zs) hi hj
    have h5:=h3 (i*4+j) (by simp;omega)
    rw[←h4,e1]at h5
    exact ⟨_,h5,fun W=>by rw[e2];exact .int _ _⟩
   match j,hd with
   |0,hd=>obtain ⟨v,q1,q2⟩:=key _ (by omega) rfl (Option.some.inj hd).symm;exact ⟨v,q1,q2 _⟩
   |1,hd=>obtain ⟨v,q1,q2⟩:=key _ (by omega) rfl (Option.some.inj hd).symm;exact ⟨v,q1,q2 _⟩
   |2,hd=>obtain ⟨v,q1,q2⟩:=key _ (by omega) rfl (Option.some.inj hd).symm;exact ⟨v,q1,q2 _⟩
   |3,hd=>obtain ⟨v,q1,q2⟩:=key _ (by omega) rfl (Option.some.inj hd).symm;exact ⟨v,q1,q2 _⟩
   |j+4,hd=>exact absurd (show (none:Option DD)=some d from hd) (by simp)
end Go.Proofs.YtpaidiaknfhclaaGreatDoor
namespace Go.Proofs.YtpaidiaknfhclaaGreatDoor
set_option maxRecDepth 100000
open Ev
open Go
theorem zau8:fnB Tryz.prog 102 Tryz.f102 []=true:=by kernel_rfl
theorem zxo:InsOk Tryz.prog 102 (sg.sz Kd.kItem) 53:=⟨zka,zm3,zox,zm2⟩
theorem zalz:∀ds a r,zzi.dec ds=some a→zagb a=some r→Con Tryz.prog sg 102 ds [] (zaht.enc r) []:=by
 intro ds a r hd hf
 obtain ⟨code,fok,-,-⟩:=zbe Tryz.func102 zau8
 have hac:CCOk zzi:=CCOk.cons (zai.lst _) (CCOk.cons (zai.int _) (CCOk.cons (zai.lst _) CCOk.nil))
 exact zmo good.sgk fok (by kernel_rfl) zxo (hac ds a hd) hf
theorem zavk:fnB Tryz.prog 210 Tryz.f210 []=true:=by kernel_rfl
theorem zow:InsOk Tryz.prog 210 (sg.sz Kd.kPatron) 71:=⟨zhk,zim,zkc,zil⟩
theorem zalw:∀ds a r,zzg.dec ds=some a→zaf9 a=some r→Con Tryz.prog sg 210 ds [] (zahq.enc r) []:=by
 intro ds a r hd hf
 obtain ⟨code,fok,-,-⟩:=zbe Tryz.func210 zavk
 have hac:CCOk zzg:=CCOk.cons (zai.lst _) (CCOk.cons (zai.int _) (CCOk.cons (zai.lst _) CCOk.nil))
 exact zmo good.sgk fok (by kernel_rfl) zow (hac ds a hd) hf
theorem zavg:fnB Tryz.prog 168 Tryz.f168 []=true:=by kernel_rfl
theorem zxp:InsOk Tryz.prog 168 (sg.sz Kd.kLoan) 73:=⟨zkb,zm5,zoy,zm4⟩
theorem zaly:∀ds a r,zzh.dec ds=some a→zaga a=some r→Con Tryz.prog sg 168 ds [] (zahs.enc r) []:=by
 intro ds a r hd hf
 obtain ⟨code,fok,-,-⟩:=zbe Tryz.func168 zavg
 have hac:CCOk zzh:=CCOk.cons (zai.lst _) (CCOk.cons (zai.int _) (CCOk.cons (zai.lst _) CCOk.nil))
 exact zmo good.sgk fok (by kernel_rfl) zxp (hac ds a hd) hf
theorem zavl:fnB Tryz.prog 225 Tryz.f225 []=true:=by kernel_rfl
theorem zxb:DelOk Tryz.prog 225 (sg.sz Kd.kHold):=⟨zmu,zmv⟩
theorem zal1:∀ds a r,zzk.dec ds=some a→zagd a=some r→Con Tryz.prog sg 225 ds [] (zahv.enc r) []:=by
 intro ds a r hd hf
 obtain ⟨code,fok,-,-⟩:=zbe Tryz.func225 zavl
 have hac:CCOk zzk:=CCOk.cons (zai.lst _) (CCOk.cons (zai.int _) (CCOk.cons (zai.int _) CCOk.nil))
 exact zty good.sgk fok (by kernel_rfl) zxb (hac ds a hd) hf
theorem zavi:fnB Tryz.prog 187 Tryz.f187 []=true:=by kernel_rfl
theorem zxc:DelOk Tryz.prog 187 (sg.sz Kd.kLoan):=⟨zmw,zmx⟩
theorem zal0:∀ds a r,zzj.dec ds=some a→zagc a=some r→Con Tryz.prog sg 187 ds [] (zahu.enc r) []:=by
 intro ds a r hd hf
 obtain ⟨code,fok,-,-⟩:=zbe Tryz.func187 zavi
 have hac:CCOk zzj:=CCOk.cons (zai.lst _) (CCOk.cons (zai.int _) (CCOk.cons (zai.int _) CCOk.nil))
 exact zty good.sgk fok (by kernel_rfl) zxc (hac ds a hd) hf
end Go.Proofs.YtpaidiaknfhclaaGreatDoor
namespace Go.Proofs.YtpaidiaknfhclaaGreatDoor
open Go Ev
open Go.Lib Go.RowKit
set_option maxRecDepth 100000
theorem znv {w:World} {I:Nat→Nat→Prop} (h:zma sg w I):Lib.Utf8Tabs 0 1 w:=by
 constructor
 ·intro c hc
  have hl:c<zay.length:=by simp[zay];exact hc
  obtain ⟨v,h1,-,h3⟩:=h 0 .ku8 zay (by kernel_rfl) c hl 0 (.int .u8 zay[c]) rfl
  rw[h3.int_inv]at h1
  have e:zay[c]=(Lib.firstT c:Int):=by simp[zay]
  rw[e]at h1
  have h1:w.cell? ⟨0,c*1+0,none⟩=_:=h1
  rw[Nat.mul_one,Nat.add_zero]at h1
  exact h1
 ·intro i hi
  have hl:i<zao.length:=by simp[zao];exact hi
  obtain ⟨v,h1,-,h3⟩:=h 1 .kUtf8_acceptRange zao (by kernel_rfl) i hl 0 (.int .u8 zao[i].lo) rfl
  obtain ⟨v',k1,-,k3⟩:=h 1 .kUtf8_acceptRange zao (by kernel_rfl) i hl 1 (.int .u8 zao[i].hi) rfl
  rw[h3.int_inv]at h1
  rw[k3.int_inv]at k1
  have e:zao[i]=⟨(Lib.accLo i:Int),(Lib.accHi i:Int)⟩:=by simp[zao]
  rw[e]at h1 k1
  have h1:w.cell? ⟨1,i*2+0,none⟩=_:=h1
  have k1:w.cell? ⟨1,i*2+1,none⟩=_:=k1
  rw[Nat.mul_comm,Nat.add_zero]at h1
  rw[Nat.mul_comm]at k1
  exact ⟨h1,k1⟩
theorem zky {w w':World} {I:Nat→Nat→Prop} (hi:∀b o,I b o→b<w.heap.size) (h:Below w.heap.size w w'):Grow w w' I I:=
 ⟨h.size,h.os,h.output,h.tape,h.block,fun _ _ h=>h,fun _ _ h=>.inl h,fun b o hb=>Nat.lt_of_lt_of_le (hi b o hb) h.size⟩
theorem z8e {w:World} {I J:Nat→Nat→Prop} {vs:Array Value} {l:List UInt8} (ha:Args sg w I J vs [.str l]):∃b:ByteArray,vs = #[.string b]∧l=b.data.toList:=by
 obtain ⟨h1,h2⟩:=ha
 have h1:vs.size=1:=h1
 have h0:=h2 0 vs[0] (.str l) (Array.getElem?_eq_getElem (by omega)) rfl
 generalize hv:vs[0]=v at h0
 cases h0 with
 |str b=>
  refine ⟨b,?_,rfl⟩
  apply Array.ext
  ·simp[h1]
  ·intro i hi1 hi2
   have:i=0:=by omega
   subst this
   simpa using hv
theorem zavb:fnB Tryz.prog 126 Tryz.f126 [4]=true:=by kernel_rfl
theorem z1c:∀ds a r,zko.dec ds=some a→zaf5 a=some r→Con Tryz.prog sg 126 ds [] (zahi.enc r) []:=by
 intro ds a r hd hf
 obtain ⟨code,fok,-,-⟩:=zbe Tryz.func126 zavb
 have hac:CCOk zko:=CCOk.cons zai.str CCOk.nil
 have hw:=hac ds a hd
 obtain ⟨l,⟨⟩⟩:=a
 unfold Con
 rw[show sg.md 126=.data by kernel_rfl]
 intro _ w I J vs hp ha
 obtain ⟨b,rfl,rfl⟩:=z8e (l:=l) (hw.args ha)
 replace hf:(bif decide (b.data.toList.length≤LIM) then some (vld b.data.toList) else none)=some r:=hf
 rw[zad]at hf
 split at hf
 ·rename_i hle
  cases hf
  rw[decide_eq_true_eq,←Lib.size_eq]at hle
  unfold zci
  rw[MuLone.run_callFunc_enter fok.at_ fok.name fok.body _ w]
  refine (zy4 b w hle (znv hp.gl)).mono ?_
  rintro e w' ⟨rfl,hb⟩
  exact ⟨I,zky hp.ib hb,.bool _⟩
 ·cases hf
theorem zavj:fnB Tryz.prog 198 Tryz.f198 []=true:=by kernel_rfl
theorem zalt:∀ds a r,zzf.dec ds=some a→zaf8 a=some r→Con Tryz.prog sg 198 ds [] (z5d.enc r) []:=by
 intro ds a r hd hf
 obtain ⟨code,fok,-,-⟩:=zbe Tryz.func198 zavj
 have hac:CCOk zzf:=CCOk.cons zai.str CCOk.nil
 have hw:=hac ds a hd
 obtain ⟨l,⟨⟩⟩:=a
 unfold Con
 rw[show sg.md 198=.data by kernel_rfl]
 intro _ w I J vs hp ha
 obtain ⟨b,rfl,rfl⟩:=z8e (l:=l) (hw.args ha)
 replace hf:(bif decide (b.data.toList.length≤LIM)&&vld b.data.toList then some (cln b.data.toList) else none)=some r:=hf
 rw[zad]at hf
 split at hf
 ·rename_i hle
  cases hf
  rw[Bool.and_eq_true,decide_eq_true_eq,←Lib.size_eq]at hle
  unfold zci
  rw[MuLone.run_callFunc_enter fok.at_ fok.name fok.body _ w]
  refine (zw3 b w hle.1 hle.2).mono ?_
  rintro e w' ⟨rfl,hb⟩
  exact ⟨I,zky hp.ib hb,.str ⟨(cln b.data.toList).toArray⟩⟩
 ·cases hf
theorem zak1:∀ds a r,zadx.dec ds=some a→zaf4 a=some r→Con Tryz.prog sg 276 ds [] (zahh.enc r) []:=fun ds a r hd hf=>by cases hf
end Go.Proofs.YtpaidiaknfhclaaGreatDoor

namespace Go.Proofs.YtpaidiaknfhclaaGreatDoor
set_option maxRecDepth 100000
open Ev
open Go (IntKind)
open Go
noncomputable abbrev ZP:=Tryz.prog
theorem zaj4:SG ZP sg 98 @zap4:=conE good Tryz.func98 (by kernel_rfl) (by kernel_rfl) cg0 (fun a=>by kernel_rfl)
theorem zaum:SG ZP sg 127 @zahz:=conE good Tryz.func127 (by kernel_rfl) (by kernel_rfl) cg0 (fun a=>by kernel_rfl)
theorem zop:fnB ZP 63 Tryz.f63 [2]=true:=by kernel_rfl
theorem zat7:CG ZP sg @zais:=(cgc zaum cg0)
theorem zan3:zae ZP sg 0 Tryz.f63 @zvw 2:=zar z2w good Tryz.func63 zop zat7 zaa (fun a=>by kernel_rfl) (by kernel_rfl) (fun _ _=>rfl)
theorem zauk:SG ZP sg 63 @zax3:=conD (loops:=zvw) good Tryz.func63 zop (by kernel_rfl) zat7 (all_cons zan3 zaa) (fun a=>by kernel_rfl)
theorem zoh:SG ZP sg 77 @zwb:=conE good Tryz.func77 (by kernel_rfl) (by kernel_rfl) (cgc zauk cg0) (fun a=>by kernel_rfl)
theorem z1k:SG ZP sg 100 @z68:=conE good Tryz.func100 (by kernel_rfl) (by kernel_rfl) cg0 (fun a=>by kernel_rfl)
theorem zalb:SG ZP sg 101 @z67:=conE good Tryz.func101 (by kernel_rfl) (by kernel_rfl) cg0 (fun a=>by kernel_rfl)
theorem ztn:CG ZP sg @zwr:=(cgc zalb cg0)
theorem zxs:zae ZP sg 0 Tryz.f63 @zit 2:=zar zk1 good Tryz.func63 zop ztn zaa (fun a=>by kernel_rfl) (by kernel_rfl) (fun _ _=>rfl)
theorem z0l:SG ZP sg 63 @z5o:=conD (loops:=zit) good Tryz.func63 zop (by kernel_rfl) ztn (all_cons zxs zaa) (fun a=>by kernel_rfl)
theorem z1e:SG ZP sg 103 @zaq2:=conS (loops:=l0) (ids:=[]) good Tryz.func103 (by kernel_rfl) (by kernel_rfl) cg0 zaa (fun a=>by kernel_rfl) (by kernel_rfl)
theorem zmp:SG ZP sg 36 @z6f:=conE good Tryz.func36 (by kernel_rfl) (by kernel_rfl) cg0 (fun a=>by kernel_rfl)
theorem zald:SG ZP sg 76 @z7a:=conE good Tryz.func76 (by kernel_rfl) (by kernel_rfl) (cgc zmp (cgc (sgP z1c) cg0)) (fun a=>by kernel_rfl)
theorem zmq:SG ZP sg 128 @z6o:=conE good Tryz.func128 (by kernel_rfl) (by kernel_rfl) cg0 (fun a=>by kernel_rfl)
theorem zalr:SG ZP sg 194 @zarn:=conE good Tryz.func194 (by kernel_rfl) (by kernel_rfl) (cgc zmq cg0) (fun a=>by kernel_rfl)
theorem zala:SG ZP sg 195 @zaq3:=conE good Tryz.func195 (by kernel_rfl) (by kernel_rfl) (cgc zmq cg0) (fun a=>by kernel_rfl)
theorem z0z:SG ZP sg 197 @zaqh:=conE good Tryz.func197 (by kernel_rfl) (by kernel_rfl) cg0 (fun a=>by kernel_rfl)
theorem zalk:SG ZP sg 196 @zarg:=conE good Tryz.func196 (by kernel_rfl) (by kernel_rfl) (cgc z0z cg0) (fun a=>by kernel_rfl)
theorem z1l:SG ZP sg 129 @z7b:=conE good Tryz.func129 (by kernel_rfl) (by kernel_rfl) (cgc zmq (cgc zalr (cgc zala (cgc zalk (cgc z0z cg0))))) (fun a=>by kernel_rfl)
theorem zavw:fnB ZP 78 Tryz.f78 [5]=true:=by kernel_rfl
theorem zaei:CG ZP sg @z9g:=(cgc z1k (cgc zmq (cgc z1l cg0)))
theorem zabr:zae ZP sg 0 Tryz.f78 @zpm 5:=zar zun good Tryz.func78 zavw zaei zaa (fun a=>by kernel_rfl) (by kernel_rfl) (fun _ _=>rfl)
theorem zaj6:SG ZP sg 78 @z5v:=conD (loops:=zpm) good Tryz.func78 zavw (by kernel_rfl) zaei (all_cons zabr zaa) (fun a=>by kernel_rfl)
theorem zaaw:fnB ZP 37 Tryz.f37 [4,10,16]=true:=by kernel_rfl
theorem z99:CG ZP sg @zaiv:=(cgc zald (cgc zoh (cgc zaj6 cg0)))
theorem zan6:zae ZP sg 0 Tryz.f37 @zhq 4:=zar z23 good Tryz.func37 zaaw z99 zaa (fun a=>by kernel_rfl) (by kernel_rfl) (fun _ _=>rfl)
theorem zack:zae ZP sg 0 Tryz.f37 @zhq 10:=zar zvg good Tryz.func37 zaaw z99 zaa (fun a=>by kernel_rfl) (by kernel_rfl) (fun _ _=>rfl)
theorem zacl:zae ZP sg 0 Tryz.f37 @zhq 16:=zar zvh good Tryz.func37 zaaw z99 zaa (fun a=>by kernel_rfl) (by kernel_rfl) (fun _ _=>rfl)
theorem zauo:SG ZP sg 37 @zax5:=conD (loops:=zhq) good Tryz.func37 zaaw (by kernel_rfl) z99 (all_cons zan6 (all_cons zack (all_cons zacl zaa))) (fun a=>by kernel_rfl)
theorem zakc:SG ZP sg 130 @z54:=conE good Tryz.func130 (by kernel_rfl) (by kernel_rfl) (cgc (sgP z1c) (cgc (sgP zalt) cg0)) (fun a=>by kernel_rfl)
theorem zavx:fnB ZP 79 Tryz.f79 [5]=true:=by kernel_rfl
theorem zaef:CG ZP sg @z9d:=(cgc zakc cg0)
theorem zabo:zae ZP sg 0 Tryz.f79 @zpj 5:=zar zuk good Tryz.func79 zavx zaef zaa (fun a=>by kernel_rfl) (by kernel_rfl) (fun _ _=>rfl)
theorem z0p:SG ZP sg 79 @z5t:=conD (loops:=zpj) good Tryz.func79 zavx (by kernel_rfl) zaef (all_cons zabo zaa) (fun a=>by kernel_rfl)
theorem zamq:SG ZP sg 131 @z7x:=conE good Tryz.func131 (by kernel_rfl) (by kernel_rfl) cg0 (fun a=>by kernel_rfl)
theorem zamn:SG ZP sg 132 @z7w:=conE good Tryz.func132 (by kernel_rfl) (by kernel_rfl) cg0 (fun a=>by kernel_rfl)
theorem zavy:fnB ZP 80 Tryz.f80 [4]=true:=by kernel_rfl
theorem zaeh:CG ZP sg @z9f:=(cgc zamq (cgc zamn cg0))
theorem zabq:zae ZP sg 0 Tryz.f80 @zpl 4:=zar zum good Tryz.func80 zavy zaeh zaa (fun a=>by kernel_rfl) (by kernel_rfl) (fun _ _=>rfl)
theorem z0r:SG ZP sg 80 @z5u:=conD (loops:=zpl) good Tryz.func80 zavy (by kernel_rfl) zaeh (all_cons zabq zaa) (fun a=>by kernel_rfl)
theorem zrc:SG ZP sg 199 @zaqf:=conE good Tryz.func199 (by kernel_rfl) (by kernel_rfl) cg0 (fun a=>by kernel_rfl)
theorem zaml:SG ZP sg 200 @zar1:=conE good Tryz.func200 (by kernel_rfl) (by kernel_rfl) (cgc zrc cg0) (fun a=>by kernel_rfl)
theorem zalu:SG ZP sg 133 @z7i:=conE good Tryz.func133 (by kernel_rfl) (by kernel_rfl) (cgc zrc (cgc zaml cg0)) (fun a=>by kernel_rfl)
theorem zak7:SG ZP sg 135 @z6y:=conE good Tryz.func135 (by kernel_rfl) (by kernel_rfl) cg0 (fun a=>by kernel_rfl)
theorem zkw:fnB ZP 134 Tryz.f134 [2,5]=true:=by kernel_rfl
theorem zajg:CG ZP sg @zaiu:=(cgc zak7 cg0)
theorem z30:zae ZP sg 0 Tryz.f134 @zne 5:=zar z2z good Tryz.func134 zkw zajg zaa (fun a=>by kernel_rfl) (by kernel_rfl) (fun _ _=>rfl)
theorem zan5:zae ZP sg 0 Tryz.f134 @zne 2:=zar z2y good Tryz.func134 zkw zajg (all_cons z30 zaa) (fun a=>by kernel_rfl) (by kernel_rfl) (fun _ _=>rfl)
theorem zaun:SG ZP sg 134 @zah0:=conD (loops:=zne) good Tryz.func134 zkw (by kernel_rfl) zajg (all_cons zan5 (all_cons z30 zaa)) (fun a=>by kernel_rfl)
theorem zals:SG ZP sg 136 @z7h:=conE good Tryz.func136 (by kernel_rfl) (by kernel_rfl) cg0 (fun a=>by kernel_rfl)
theorem zmm:CG ZP sg @zwz:=(cgc zals cg0)
theorem zle:zae ZP sg 0 Tryz.f134 @zfu 5:=zar zla good Tryz.func134 zkw zmm zaa (fun a=>by kernel_rfl) (by kernel_rfl) (fun _ _=>rfl)
theorem zx0:zae ZP sg 0 Tryz.f134 @zfu 2:=zar zk9 good Tryz.func134 zkw zmm (all_cons zle zaa) (fun a=>by kernel_rfl) (by kernel_rfl) (fun _ _=>rfl)
theorem z1t:SG ZP sg 134 @zqp:=conD (loops:=zfu) good Tryz.func134 zkw (by kernel_rfl) zmm (all_cons zx0 (all_cons zle zaa)) (fun a=>by kernel_rfl)
theorem zavz:fnB ZP 81 Tryz.f81 [4]=true:=by kernel_rfl
theorem zat9:CG ZP sg @zaix:=(cgc zalu (cgc (sgi zaun (sgi z1t sg0)) cg0))
theorem zan9:zae ZP sg 0 Tryz.f81 @zvy 4:=zar z27 good Tryz.func81 zavz zat9 zaa (fun a=>by kernel_rfl) (by kernel_rfl) (fun _ _=>rfl)
theorem zauq:SG ZP sg 81 @zah1:=conD (loops:=zvy) good Tryz.func81 zavz (by kernel_rfl) zat9 (all_cons zan9 zaa) (fun a=>by kernel_rfl)
theorem zamw:SG ZP sg 201 @zar8:=conE good Tryz.func201 (by kernel_rfl) (by kernel_rfl) cg0 (fun a=>by kernel_rfl)
theorem z1m:SG ZP sg 202 @zarc:=conE good Tryz.func202 (by kernel_rfl) (by kernel_rfl) cg0 (fun a=>by kernel_rfl)
theorem zakf:SG ZP sg 137 @z58:=conE good Tryz.func137 (by kernel_rfl) (by kernel_rfl) (cgc zamw (cgc z1m cg0)) (fun a=>by kernel_rfl)
theorem zav0:fnB ZP 82 Tryz.f82 [4]=true:=by kernel_rfl
theorem zaek:CG ZP sg @z9i:=(cgc zakf cg0)
theorem zabt:zae ZP sg 0 Tryz.f82 @zpo 4:=zar zup good Tryz.func82 zav0 zaek zaa (fun a=>by kernel_rfl) (by kernel_rfl) (fun _ _=>rfl)
theorem z0s:SG ZP sg 82 @z5x:=conD (loops:=zpo) good Tryz.func82 zav0 (by kernel_rfl) zaek (all_cons zabt zaa) (fun a=>by kernel_rfl)
theorem z06:SG ZP sg 203 @zaqu:=conE good Tryz.func203 (by kernel_rfl) (by kernel_rfl) cg0 (fun a=>by kernel_rfl)
theorem zak3:SG ZP sg 138 @z6t:=conE good Tryz.func138 (by kernel_rfl) (by kernel_rfl) (cgc z06 cg0) (fun a=>by kernel_rfl)
theorem z1f:SG ZP sg 139 @z62:=conE good Tryz.func139 (by kernel_rfl) (by kernel_rfl) cg0 (fun a=>by kernel_rfl)
theorem zafp:fnB ZP 204 Tryz.f204 [2]=true:=by kernel_rfl
theorem zaer:CG ZP sg @z9p:=(cgc z1f cg0)
theorem zab0:zae ZP sg 0 Tryz.f204 @zpv 2:=zar zuw good Tryz.func204 zafp zaer zaa (fun a=>by kernel_rfl) (by kernel_rfl) (fun _ _=>rfl)
theorem zaj9:SG ZP sg 204 @zaqb:=conD (loops:=zpv) good Tryz.func204 zafp (by kernel_rfl) zaer (all_cons zab0 zaa) (fun a=>by kernel_rfl)
theorem zamr:SG ZP sg 140 @z7y:=conE good Tryz.func140 (by kernel_rfl) (by kernel_rfl) (cgc z1f (cgc zaj9 cg0)) (fun a=>by kernel_rfl)
theorem zav1:fnB ZP 83 Tryz.f83 [4]=true:=by kernel_rfl
theorem zauf:CG ZP sg @zaja:=(cgc zak3 (cgc zamr cg0))
theorem zaop:zae ZP sg 0 Tryz.f83 @zv4 4:=zar z3q good Tryz.func83 zav1 zauf zaa (fun a=>by kernel_rfl) (by kernel_rfl) (fun _ _=>rfl)
theorem zau1:SG ZP sg 83 @zah7:=conD (loops:=zv4) good Tryz.func83 zav1 (by kernel_rfl) zauf (all_cons zaop zaa) (fun a=>by kernel_rfl)
theorem zrg:SG ZP sg 143 @z6s:=conE good Tryz.func143 (by kernel_rfl) (by kernel_rfl) cg0 (fun a=>by kernel_rfl)
theorem z07:SG ZP sg 142 @z6p:=conE good Tryz.func142 (by kernel_rfl) (by kernel_rfl) (cgc zrg cg0) (fun a=>by kernel_rfl)
theorem zafq:fnB ZP 205 Tryz.f205 [2]=true:=by kernel_rfl
theorem zaes:CG ZP sg @z9q:=(cgc z07 cg0)
theorem zab1:zae ZP sg 0 Tryz.f205 @zpw 2:=zar zux good Tryz.func205 zafq zaes zaa (fun a=>by kernel_rfl) (by kernel_rfl) (fun _ _=>rfl)
theorem zaka:SG ZP sg 205 @zaqc:=conD (loops:=zpw) good Tryz.func205 zafq (by kernel_rfl) zaes (all_cons zab1 zaa) (fun a=>by kernel_rfl)
theorem zams:SG ZP sg 141 @z7z:=conE good Tryz.func141 (by kernel_rfl) (by kernel_rfl) (cgc z07 (cgc zaka cg0)) (fun a=>by kernel_rfl)
theorem zav2:fnB ZP 84 Tryz.f84 [8]=true:=by kernel_rfl
theorem zaue:CG ZP sg @zai9:=(cgc zams cg0)
theorem zaoo:zae ZP sg 0 Tryz.f84 @zv3 8:=zar z3p good Tryz.func84 zav2 zaue zaa (fun a=>by kernel_rfl) (by kernel_rfl) (fun _ _=>rfl)
theorem zaff:SG ZP sg 84 @zah6:=conD (loops:=zv3) good Tryz.func84 zav2 (by kernel_rfl) zaue (all_cons zaoo zaa) (fun a=>by kernel_rfl)
theorem zaax:fnB ZP 38 Tryz.f38 [4,12,18]=true:=by kernel_rfl
theorem zaad:CG ZP sg @zai6:=(cgc zmp (cgc z0p (cgc z0r (cgc zauq (cgc z0s (cgc zau1 (cgc zaff cg0)))))))
theorem zaok:zae ZP sg 0 Tryz.f38 @zhu 4:=zar z3k good Tryz.func38 zaax zaad zaa (fun a=>by kernel_rfl) (by kernel_rfl) (fun _ _=>rfl)
theorem zaco:zae ZP sg 0 Tryz.f38 @zhu 12:=zar zvl good Tryz.func38 zaax zaad zaa (fun a=>by kernel_rfl) (by kernel_rfl) (fun _ _=>rfl)
theorem zacp:zae ZP sg 0 Tryz.f38 @zhu 18:=zar zvm good Tryz.func38 zaax zaad zaa (fun a=>by kernel_rfl) (by kernel_rfl) (fun _ _=>rfl)
theorem zauy:SG ZP sg 38 @zayb:=conD (loops:=zhu) good Tryz.func38 zaax (by kernel_rfl) zaad (all_cons zaok (all_cons zaco (all_cons zacp zaa))) (fun a=>by kernel_rfl)
theorem zak2:SG ZP sg 207 @z6r:=conE good Tryz.func207 (by kernel_rfl) (by kernel_rfl) cg0 (fun a=>by kernel_rfl)
theorem zt2:fnB ZP 206 Tryz.f206 [2]=true:=by kernel_rfl
theorem zaud:CG ZP sg @zai2:=(cgc zak2 cg0)
theorem zaof:zae ZP sg 0 Tryz.f206 @zv2 2:=zar z3d good Tryz.func206 zt2 zaud zaa (fun a=>by kernel_rfl) (by kernel_rfl) (fun _ _=>rfl)
theorem zauu:SG ZP sg 206 @zax9:=conD (loops:=zv2) good Tryz.func206 zt2 (by kernel_rfl) zaud (all_cons zaof zaa) (fun a=>by kernel_rfl)
theorem z0j:SG ZP sg 144 @zapu:=conE good Tryz.func144 (by kernel_rfl) (by kernel_rfl) (cgc zauu cg0) (fun a=>by kernel_rfl)
theorem zri:SG ZP sg 86 @zaq4:=conE good Tryz.func86 (by kernel_rfl) (by kernel_rfl) (cgc z0j cg0) (fun a=>by kernel_rfl)
theorem zak6:SG ZP sg 85 @z6w:=conE good Tryz.func85 (by kernel_rfl) (by kernel_rfl) (cgc zri cg0) (fun a=>by kernel_rfl)
theorem zaay:fnB ZP 39 Tryz.f39 [3,9,15]=true:=by kernel_rfl
theorem zaaa:CG ZP sg @zaiw:=(cgc zoh (cgc zak6 cg0))
theorem zan7:zae ZP sg 0 Tryz.f39 @zhr 3:=zar z24 good Tryz.func39 zaay zaaa zaa (fun a=>by kernel_rfl) (by kernel_rfl) (fun _ _=>rfl)
theorem zan8:zae ZP sg 0 Tryz.f39 @zhr 9:=zar z26 good Tryz.func39 zaay zaaa zaa (fun a=>by kernel_rfl) (by kernel_rfl) (fun _ _=>rfl)
theorem zacm:zae ZP sg 0 Tryz.f39 @zhr 15:=zar zvi good Tryz.func39 zaay zaaa zaa (fun a=>by kernel_rfl) (by kernel_rfl) (fun _ _=>rfl)
theorem zaup:SG ZP sg 39 @zax6:=conD (loops:=zhr) good Tryz.func39 zaay (by kernel_rfl) zaaa (all_cons zan7 (all_cons zan8 (all_cons zacm zaa))) (fun a=>by kernel_rfl)
theorem zq9:SG ZP sg 122 @zap7:=conE good Tryz.func122 (by kernel_rfl) (by kernel_rfl) cg0 (fun a=>by kernel_rfl)
theorem z09:SG ZP sg 186 @z6x:=conE good Tryz.func186 (by kernel_rfl) (by kernel_rfl) cg0 (fun a=>by kernel_rfl)
theorem zt1:fnB ZP 185 Tryz.f185 [2]=true:=by kernel_rfl
theorem zauc:CG ZP sg @zai0:=(cgc z09 cg0)
theorem zaoc:zae ZP sg 0 Tryz.f185 @zv1 2:=zar z3a good Tryz.func185 zt1 zauc zaa (fun a=>by kernel_rfl) (by kernel_rfl) (fun _ _=>rfl)
theorem zaus:SG ZP sg 185 @zax7:=conD (loops:=zv1) good Tryz.func185 zt1 (by kernel_rfl) zauc (all_cons zaoc zaa) (fun a=>by kernel_rfl)
theorem zra:SG ZP sg 121 @zaqe:=conE good Tryz.func121 (by kernel_rfl) (by kernel_rfl) (cgc zaus (cgc z09 cg0)) (fun a=>by kernel_rfl)
theorem z0y:SG ZP sg 69 @z56:=conE good Tryz.func69 (by kernel_rfl) (by kernel_rfl) (cgc zra (cgc zq9 cg0)) (fun a=>by kernel_rfl)
theorem zavq:fnB ZP 40 Tryz.f40 [2]=true:=by kernel_rfl
theorem zae6:CG ZP sg @z94:=(cgc z0y cg0)
theorem zacf:zae ZP sg 0 Tryz.f40 @zqa 2:=zar zvb good Tryz.func40 zavq zae6 zaa (fun a=>by kernel_rfl) (by kernel_rfl) (fun _ _=>rfl)
theorem zakt:SG ZP sg 40 @zaqo:=conD (loops:=zqa) good Tryz.func40 zavq (by kernel_rfl) zae6 (all_cons zacf zaa) (fun a=>by kernel_rfl)
theorem zalc:SG ZP sg 145 @z69:=conE good Tryz.func145 (by kernel_rfl) (by kernel_rfl) cg0 (fun a=>by kernel_rfl)
theorem zex:fnB ZP 110 Tryz.f110 [2]=true:=by kernel_rfl
theorem zat8:CG ZP sg @zait:=(cgc zalc cg0)
theorem zan4:zae ZP sg 0 Tryz.f110 @zvx 2:=zar z2x good Tryz.func110 zex zat8 zaa (fun a=>by kernel_rfl) (by kernel_rfl) (fun _ _=>rfl)
theorem zaul:SG ZP sg 110 @zax4:=conD (loops:=zvx) good Tryz.func110 zex (by kernel_rfl) zat8 (all_cons zan4 zaa) (fun a=>by kernel_rfl)
theorem zq7:SG ZP sg 87 @z5w:=conE good Tryz.func87 (by kernel_rfl) (by kernel_rfl) (cgc zaul cg0) (fun a=>by kernel_rfl)
theorem zanm:fnB ZP 41 Tryz.f41 [2,16]=true:=by kernel_rfl
theorem zz9:CG ZP sg @z88:=(cgc zoh (cgc zq7 cg0))
theorem zabj:zae ZP sg 0 Tryz.f41 @ziy 2:=zar zuf good Tryz.func41 zanm zz9 zaa (fun a=>by kernel_rfl) (by kernel_rfl) (fun _ _=>rfl)
theorem z3x:zae ZP sg 0 Tryz.f41 @ziy 16:=zar zo3 good Tryz.func41 zanm zz9 zaa (fun a=>by kernel_rfl) (by kernel_rfl) (fun _ _=>rfl)
theorem zaj0:SG ZP sg 41 @zap0:=conD (loops:=ziy) good Tryz.func41 zanm (by kernel_rfl) zz9 (all_cons zabj (all_cons z3x zaa)) (fun a=>by kernel_rfl)
theorem zam6:SG ZP sg 23 @zasg:=conE good Tryz.func23 (by kernel_rfl) (by kernel_rfl) (cgc zmp (cgc zauo (cgc zauy (cgc zaup (cgc zakt (cgc zaj0 cg0)))))) (fun a=>by kernel_rfl)
theorem zafd:SG ZP sg 53 @zahy:=conE good Tryz.func53 (by kernel_rfl) (by kernel_rfl) (cgc zam6 (cgc z0l (cgc zoh (cgc z1k (cgc (sgP zalz) (cgc z1e cg0)))))) (fun a=>by kernel_rfl)
theorem zak5:SG ZP sg 208 @z6v:=conE good Tryz.func208 (by kernel_rfl) (by kernel_rfl) cg0 (fun a=>by kernel_rfl)
theorem ztw:CG ZP sg @zw1:=(cgc zak5 cg0)
theorem zx2:zae ZP sg 0 Tryz.f206 @zi7 2:=zar zlc good Tryz.func206 zt2 ztw zaa (fun a=>by kernel_rfl) (by kernel_rfl) (fun _ _=>rfl)
theorem z1z:SG ZP sg 206 @z8b:=conD (loops:=zi7) good Tryz.func206 zt2 (by kernel_rfl) ztw (all_cons zx2 zaa) (fun a=>by kernel_rfl)
theorem zalx:SG ZP sg 211 @zarr:=conS (loops:=l0) (ids:=[]) good Tryz.func211 (by kernel_rfl) (by kernel_rfl) cg0 zaa (fun a=>by kernel_rfl) (by kernel_rfl)
theorem zal2:SG ZP sg 209 @zars:=conE good Tryz.func209 (by kernel_rfl) (by kernel_rfl) (cgc z0p cg0) (fun a=>by kernel_rfl)
theorem zak0:SG ZP sg 153 @zaqw:=conE good Tryz.func153 (by kernel_rfl) (by kernel_rfl) (cgc z0j (cgc z1z (cgc zal2 (cgc (sgP zalw) (cgc zalx cg0))))) (fun a=>by kernel_rfl)
theorem zalq:SG ZP sg 99 @zarm:=conE good Tryz.func99 (by kernel_rfl) (by kernel_rfl) (cgc zak0 cg0) (fun a=>by kernel_rfl)
theorem zalj:SG ZP sg 52 @z7d:=conE good Tryz.func52 (by kernel_rfl) (by kernel_rfl) (cgc zafd (cgc zaj4 (cgc zalq cg0))) (fun a=>by kernel_rfl)
theorem zmr:SG ZP sg 64 @zaq1:=conN (loops:=l0) (ids:=[]) good Tryz.func64 (by kernel_rfl) (by kernel_rfl) cg0 zaa (fun a=>by kernel_rfl)
theorem zf8:SG ZP sg 67 @zayd:=conM (loops:=l0) (ids:=[]) good Tryz.func67 (by kernel_rfl) (by kernel_rfl) cg0 zaa (fun a b=>by kernel_rfl)
theorem zms:SG ZP sg 65 @zaq7:=conM (loops:=l0) (ids:=[]) good Tryz.func65 (by kernel_rfl) (by kernel_rfl) (cgc zf8 (cgc zoh cg0)) zaa (fun a b=>by kernel_rfl)
theorem zalo:SG ZP sg 156 @zarj:=conS (loops:=l0) (ids:=[]) good Tryz.func156 (by kernel_rfl) (by kernel_rfl) cg0 zaa (fun a=>by kernel_rfl) (by kernel_rfl)
theorem zfs:SG ZP sg 104 @zapy:=conM (loops:=l0) (ids:=[]) good Tryz.func104 (by kernel_rfl) (by kernel_rfl) (cgc zf8 (cgc z1e (cgc z1l (cgc zalo cg0)))) zaa (fun a b=>by kernel_rfl)
theorem zrb:SG ZP sg 260 @zsv:=conE good Tryz.func260 (by kernel_rfl) (by kernel_rfl) cg0 (fun a=>by kernel_rfl)
theorem z2c:fnB ZP 275 Tryz.f275 [1,4]=true:=by kernel_rfl
theorem zaji:CG ZP sg @zai5:=(cgc zrb cg0)
theorem z33:zae ZP sg MA Tryz.f275 @zng 4:=zar z3j good Tryz.func275 z2c zaji zaa (fun a=>by kernel_rfl) (by kernel_rfl) (fun _ _=>rfl)
theorem zaoj:zae ZP sg MA Tryz.f275 @zng 1:=zar z3i good Tryz.func275 z2c zaji (all_cons z33 zaa) (fun a=>by kernel_rfl) (by kernel_rfl) (fun _ _=>rfl)
theorem zaux:SG ZP sg 275 @zah4:=conI (loops:=zng) good Tryz.func275 z2c (by kernel_rfl) zaji (all_cons zaoj (all_cons z33 zaa)) (fun a=>by kernel_rfl)
theorem zt3:fnB ZP 269 Tryz.f269 [2,7,9]=true:=by kernel_rfl
theorem zaab:CG ZP sg @zai3:=(cgc zrb (cgc zaux (cgc (sgP zak1) cg0)))
theorem zaog:zae ZP sg MA Tryz.f269 @zhs 2:=zar z3e good Tryz.func269 zt3 zaab zaa (fun a=>by kernel_rfl) (by kernel_rfl) (fun _ _=>rfl)
theorem z32:zae ZP sg MA Tryz.f269 @zhs 9:=zar z3g good Tryz.func269 zt3 zaab zaa (fun a=>by kernel_rfl) (by kernel_rfl) (fun _ _=>rfl)
theorem zaoh:zae ZP sg MA Tryz.f269 @zhs 7:=zar z3f good Tryz.func269 zt3 zaab (all_cons z32 zaa) (fun a=>by kernel_rfl) (by kernel_rfl) (fun _ _=>rfl)
theorem zauv:SG ZP sg 269 @zaya:=conI (loops:=zhs) good Tryz.func269 zt3 (by kernel_rfl) zaab (all_cons zaog (all_cons zaoh (all_cons z32 zaa))) (fun a=>by kernel_rfl)
theorem zalv:SG ZP sg 259 @z7j:=conI (loops:=l0) (ids:=[]) good Tryz.func259 (by kernel_rfl) (by kernel_rfl) (cgc zrb (cgc zauv cg0)) zaa (fun a=>by kernel_rfl)
theorem zafz:fnB ZP 246 Tryz.f246 [3]=true:=by kernel_rfl
theorem zaub:CG ZP sg @zaiz:=(cgc zalv cg0)
theorem zaob:zae ZP sg 0 Tryz.f246 @zv0 3:=zar z29 good Tryz.func246 zafz zaub zaa (fun a=>by kernel_rfl) (by kernel_rfl) (fun _ _=>rfl)
theorem zaur:SG ZP sg 246 @zah2:=conD (loops:=zv0) good Tryz.func246 zafz (by kernel_rfl) zaub (all_cons zaob zaa) (fun a=>by kernel_rfl)
theorem zafr:fnB ZP 213 Tryz.f213 [3]=true:=by kernel_rfl
theorem zaex:CG ZP sg @z9v:=(cgc zaur cg0)
theorem zab6:zae ZP sg 0 Tryz.f213 @zp1 3:=zar zu2 good Tryz.func213 zafr zaex zaa (fun a=>by kernel_rfl) (by kernel_rfl) (fun _ _=>rfl)
theorem zakj:SG ZP sg 213 @zaqm:=conD (loops:=zp1) good Tryz.func213 zafr (by kernel_rfl) zaex (all_cons zab6 zaa) (fun a=>by kernel_rfl)
theorem z1w:SG ZP sg 157 @zar2:=conE good Tryz.func157 (by kernel_rfl) (by kernel_rfl) (cgc zakj cg0) (fun a=>by kernel_rfl)
theorem zalg:SG ZP sg 247 @z7c:=conE good Tryz.func247 (by kernel_rfl) (by kernel_rfl) cg0 (fun a=>by kernel_rfl)
theorem ztq:CG ZP sg @zwu:=(cgc zalg cg0)
theorem zxv:zae ZP sg 0 Tryz.f110 @zi1 2:=zar zk4 good Tryz.func110 zex ztq zaa (fun a=>by kernel_rfl) (by kernel_rfl) (fun _ _=>rfl)
theorem z00:SG ZP sg 110 @z59:=conD (loops:=zi1) good Tryz.func110 zex (by kernel_rfl) ztq (all_cons zxv zaa) (fun a=>by kernel_rfl)
theorem zrd:SG ZP sg 214 @zaql:=conE good Tryz.func214 (by kernel_rfl) (by kernel_rfl) (cgc z00 cg0) (fun a=>by kernel_rfl)
theorem z1x:SG ZP sg 158 @zar5:=conE good Tryz.func158 (by kernel_rfl) (by kernel_rfl) (cgc zrd cg0) (fun a=>by kernel_rfl)
theorem z1j:SG ZP sg 68 @zaq8:=conM (loops:=l0) (ids:=[]) good Tryz.func68 (by kernel_rfl) (by kernel_rfl) (cgc zfs cg0) zaa (fun a b=>by kernel_rfl)
theorem zamg:SG ZP sg 270 @zarx:=conE good Tryz.func270 (by kernel_rfl) (by kernel_rfl) cg0 (fun a=>by kernel_rfl)
theorem zakd:SG ZP sg 261 @z57:=conE good Tryz.func261 (by kernel_rfl) (by kernel_rfl) (cgc zamg cg0) (fun a=>by kernel_rfl)
theorem zaf2:fnB ZP 262 Tryz.f262 [3]=true:=by kernel_rfl
theorem zaec:CG ZP sg @z85:=cg0
theorem zabg:zae ZP sg 0 Tryz.f262 @zpg 3:=zar zub good Tryz.func262 zaf2 zaec zaa (fun a=>by kernel_rfl) (by kernel_rfl) (fun _ _=>rfl)
theorem zajx:SG ZP sg 262 @z5n:=conD (loops:=zpg) good Tryz.func262 zaf2 (by kernel_rfl) zaec (all_cons zabg zaa) (fun a=>by kernel_rfl)
theorem zaf0:fnB ZP 248 Tryz.f248 [3]=true:=by kernel_rfl
theorem zad7:CG ZP sg @z80:=(cgc zakd (cgc zajx cg0))
theorem zabb:zae ZP sg 0 Tryz.f248 @zpb 3:=zar zt6 good Tryz.func248 zaf0 zad7 zaa (fun a=>by kernel_rfl) (by kernel_rfl) (fun _ _=>rfl)
theorem zajt:SG ZP sg 248 @zapv:=conD (loops:=zpb) good Tryz.func248 zaf0 (by kernel_rfl) zad7 (all_cons zabb zaa) (fun a=>by kernel_rfl)
theorem zalf:SG ZP sg 220 @zara:=conE good Tryz.func220 (by kernel_rfl) (by kernel_rfl) (cgc zajt cg0) (fun a=>by kernel_rfl)
theorem zre:SG ZP sg 162 @zaqx:=conE good Tryz.func162 (by kernel_rfl) (by kernel_rfl) (cgc zri (cgc zalf cg0)) (fun a=>by kernel_rfl)
theorem zrf:SG ZP sg 165 @zaqy:=conE good Tryz.func165 (by kernel_rfl) (by kernel_rfl) (cgc zmp cg0) (fun a=>by kernel_rfl)
theorem z1q:SG ZP sg 117 @zaro:=conE good Tryz.func117 (by kernel_rfl) (by kernel_rfl) cg0 (fun a=>by kernel_rfl)
theorem zamx:SG ZP sg 271 @z74:=conE good Tryz.func271 (by kernel_rfl) (by kernel_rfl) (cgc z1q cg0) (fun a=>by kernel_rfl)
theorem zamd:SG ZP sg 272 @z7t:=conE good Tryz.func272 (by kernel_rfl) (by kernel_rfl) cg0 (fun a=>by kernel_rfl)
theorem zaf3:fnB ZP 263 Tryz.f263 [3]=true:=by kernel_rfl
theorem zaem:CG ZP sg @z9k:=(cgc zamx (cgc zamd cg0))
theorem zabv:zae ZP sg 0 Tryz.f263 @zpq 3:=zar zur good Tryz.func263 zaf3 zaem zaa (fun a=>by kernel_rfl) (by kernel_rfl) (fun _ _=>rfl)
theorem zaj7:SG ZP sg 263 @zap8:=conD (loops:=zpq) good Tryz.func263 zaf3 (by kernel_rfl) zaem (all_cons zabv zaa) (fun a=>by kernel_rfl)
theorem zaf1:fnB ZP 251 Tryz.f251 [3]=true:=by kernel_rfl
theorem zael:CG ZP sg @z9j:=cg0
theorem zabu:zae ZP sg 0 Tryz.f251 @zpp 3:=zar zuq good Tryz.func251 zaf1 zael zaa (fun a=>by kernel_rfl) (by kernel_rfl) (fun _ _=>rfl)
theorem z0t:SG ZP sg 251 @z5y:=conD (loops:=zpp) good Tryz.func251 zaf1 (by kernel_rfl) zael (all_cons zabu zaa) (fun a=>by kernel_rfl)
theorem zam5:SG ZP sg 265 @zasf:=conE good Tryz.func265 (by kernel_rfl) (by kernel_rfl) cg0 (fun a=>by kernel_rfl)
theorem zrm:SG ZP sg 253 @z7e:=conE good Tryz.func253 (by kernel_rfl) (by kernel_rfl) (cgc zam5 cg0) (fun a=>by kernel_rfl)
theorem z1b:SG ZP sg 249 @zsx:=conE good Tryz.func249 (by kernel_rfl) (by kernel_rfl) (cgc zrg (cgc z0t (cgc zrm (cgc zaj7 cg0)))) (fun a=>by kernel_rfl)
theorem zafv:fnB ZP 221 Tryz.f221 [2]=true:=by kernel_rfl
theorem zaug:CG ZP sg @zajb:=(cgc z1b cg0)
theorem zaoq:zae ZP sg 0 Tryz.f221 @zv5 2:=zar z3r good Tryz.func221 zafv zaug zaa (fun a=>by kernel_rfl) (by kernel_rfl) (fun _ _=>rfl)
theorem zafg:SG ZP sg 221 @zah8:=conD (loops:=zv5) good Tryz.func221 zafv (by kernel_rfl) zaug (all_cons zaoq zaa) (fun a=>by kernel_rfl)
theorem zafy:fnB ZP 231 Tryz.f231 [9]=true:=by kernel_rfl
theorem zad6:CG ZP sg @z8z:=(cgc zrg (cgc zafg cg0))
theorem zaba:zae ZP sg 0 Tryz.f231 @zpa 9:=zar zt5 good Tryz.func231 zafy zad6 zaa (fun a=>by kernel_rfl) (by kernel_rfl) (fun _ _=>rfl)
theorem zajs:SG ZP sg 231 @zapt:=conD (loops:=zpa) good Tryz.func231 zafy (by kernel_rfl) zad6 (all_cons zaba zaa) (fun a=>by kernel_rfl)
theorem zam1:SG ZP sg 174 @zasb:=conM (loops:=l0) (ids:=[]) good Tryz.func174 (by kernel_rfl) (by kernel_rfl) (cgc zf8 (cgc zrf (cgc zajs cg0))) zaa (fun a b=>by kernel_rfl)
theorem z1g:SG ZP sg 215 @z63:=conE good Tryz.func215 (by kernel_rfl) (by kernel_rfl) cg0 (fun a=>by kernel_rfl)
theorem ztr:CG ZP sg @zwv:=(cgc z1g cg0)
theorem zxw:zae ZP sg 0 Tryz.f110 @zi2 2:=zar zk5 good Tryz.func110 zex ztr zaa (fun a=>by kernel_rfl) (by kernel_rfl) (fun _ _=>rfl)
theorem z01:SG ZP sg 110 @z6a:=conD (loops:=zi2) good Tryz.func110 zex (by kernel_rfl) ztr (all_cons zxw zaa) (fun a=>by kernel_rfl)
theorem zakb:SG ZP sg 57 @zaqd:=conE good Tryz.func57 (by kernel_rfl) (by kernel_rfl) (cgc z01 (cgc z1g cg0)) (fun a=>by kernel_rfl)
theorem z1u:SG ZP sg 226 @zaru:=conS (loops:=l0) (ids:=[]) good Tryz.func226 (by kernel_rfl) (by kernel_rfl) cg0 zaa (fun a=>by kernel_rfl) (by kernel_rfl)
theorem zamo:SG ZP sg 216 @zar4:=conE good Tryz.func216 (by kernel_rfl) (by kernel_rfl) (cgc z1u cg0) (fun a=>by kernel_rfl)
theorem z0v:SG ZP sg 160 @zaqa:=conE good Tryz.func160 (by kernel_rfl) (by kernel_rfl) (cgc zakb (cgc zrc (cgc zrd (cgc zamo cg0)))) (fun a=>by kernel_rfl)
theorem zrl:SG ZP sg 159 @zaq6:=conM (loops:=l0) (ids:=[]) good Tryz.func159 (by kernel_rfl) (by kernel_rfl) (cgc zf8 cg0) zaa (fun a b=>by kernel_rfl)
theorem z1p:SG ZP sg 114 @zarl:=conM (loops:=l0) (ids:=[]) good Tryz.func114 (by kernel_rfl) (by kernel_rfl) (cgc zfs (cgc zrl (cgc z0v (cgc zre (cgc zam1 cg0))))) zaa (fun a b=>by kernel_rfl)
theorem z1v:SG ZP sg 105 @zarv:=conM (loops:=l0) (ids:=[]) good Tryz.func105 (by kernel_rfl) (by kernel_rfl) (cgc z1j (cgc zfs (cgc z1p (cgc z1w (cgc z1x (cgc zrl (cgc z0v cg0))))))) zaa (fun a b=>by kernel_rfl)
theorem z0i:SG ZP sg 72 @zaps:=conM (loops:=l0) (ids:=[]) good Tryz.func72 (by kernel_rfl) (by kernel_rfl) cg0 zaa (fun a b=>by kernel_rfl)
theorem zak8:SG ZP sg 54 @z6z:=conE good Tryz.func54 (by kernel_rfl) (by kernel_rfl) (cgc zmr (cgc zms (cgc z0i (cgc zfs (cgc z1v cg0))))) (fun a=>by kernel_rfl)
theorem zaft:fnB ZP 218 Tryz.f218 [3]=true:=by kernel_rfl
theorem zaey:CG ZP sg @z9w:=cg0
theorem zab7:zae ZP sg 0 Tryz.f218 @zp2 3:=zar zu3 good Tryz.func218 zaft zaey zaa (fun a=>by kernel_rfl) (by kernel_rfl) (fun _ _=>rfl)
theorem zakk:SG ZP sg 218 @zaqn:=conD (loops:=zp2) good Tryz.func218 zaft (by kernel_rfl) zaey (all_cons zab7 zaa) (fun a=>by kernel_rfl)
theorem zafn:fnB ZP 163 Tryz.f163 [3]=true:=by kernel_rfl
theorem zaee:CG ZP sg @z9c:=cg0
theorem zabn:zae ZP sg 0 Tryz.f163 @zpi 3:=zar zuj good Tryz.func163 zafn zaee zaa (fun a=>by kernel_rfl) (by kernel_rfl) (fun _ _=>rfl)
theorem z0o:SG ZP sg 163 @z5s:=conD (loops:=zpi) good Tryz.func163 zafn (by kernel_rfl) zaee (all_cons zabn zaa) (fun a=>by kernel_rfl)
theorem zafu:fnB ZP 219 Tryz.f219 [3]=true:=by kernel_rfl
theorem zad9:CG ZP sg @z82:=(cgc z0o cg0)
theorem zabd:zae ZP sg 0 Tryz.f219 @zpd 3:=zar zt8 good Tryz.func219 zafu zad9 zaa (fun a=>by kernel_rfl) (by kernel_rfl) (fun _ _=>rfl)
theorem zaju:SG ZP sg 219 @zapw:=conD (loops:=zpd) good Tryz.func219 zafu (by kernel_rfl) zad9 (all_cons zabd zaa) (fun a=>by kernel_rfl)
theorem zafs:fnB ZP 217 Tryz.f217 [3]=true:=by kernel_rfl
theorem zaed:CG ZP sg @z9b:=cg0
theorem zabm:zae ZP sg 0 Tryz.f217 @zph 3:=zar zui good Tryz.func217 zafs zaed zaa (fun a=>by kernel_rfl) (by kernel_rfl) (fun _ _=>rfl)
theorem zaj5:SG ZP sg 217 @zap5:=conD (loops:=zph) good Tryz.func217 zafs (by kernel_rfl) zaed (all_cons zabm zaa) (fun a=>by kernel_rfl)
theorem zam3:SG ZP sg 161 @zasd:=conE good Tryz.func161 (by kernel_rfl) (by kernel_rfl) (cgc zaj5 (cgc zakk (cgc zaju cg0))) (fun a=>by kernel_rfl)
theorem zafw:fnB ZP 222 Tryz.f222 [2]=true:=by kernel_rfl
theorem zae7:CG ZP sg @z95:=(cgc z1b cg0)
theorem zacg:zae ZP sg 0 Tryz.f222 @zqb 2:=zar zvc good Tryz.func222 zafw zae7 zaa (fun a=>by kernel_rfl) (by kernel_rfl) (fun _ _=>rfl)
theorem zaku:SG ZP sg 222 @zaqp:=conD (loops:=zqb) good Tryz.func222 zafw (by kernel_rfl) zae7 (all_cons zacg zaa) (fun a=>by kernel_rfl)
theorem zalh:SG ZP sg 164 @zarb:=conE good Tryz.func164 (by kernel_rfl) (by kernel_rfl) (cgc z06 (cgc zafg (cgc zaku cg0))) (fun a=>by kernel_rfl)
theorem zami:SG ZP sg 106 @zary:=conE good Tryz.func106 (by kernel_rfl) (by kernel_rfl) (cgc z1w (cgc z1x (cgc zam3 (cgc zre (cgc z0o (cgc zalh (cgc zrf cg0))))))) (fun a=>by kernel_rfl)
theorem z1i:SG ZP sg 166 @z65:=conE good Tryz.func166 (by kernel_rfl) (by kernel_rfl) cg0 (fun a=>by kernel_rfl)
theorem ztv:CG ZP sg @zw0:=(cgc z1i cg0)
theorem zx1:zae ZP sg 0 Tryz.f185 @zi6 2:=zar zlb good Tryz.func185 zt1 ztv zaa (fun a=>by kernel_rfl) (by kernel_rfl) (fun _ _=>rfl)
theorem z1y:SG ZP sg 185 @z8a:=conD (loops:=zi6) good Tryz.func185 zt1 (by kernel_rfl) ztv (all_cons zx1 zaa) (fun a=>by kernel_rfl)
theorem zw7:SG ZP sg 121 @zyy:=conE good Tryz.func121 (by kernel_rfl) (by kernel_rfl) (cgc z1i (cgc z1y cg0)) (fun a=>by kernel_rfl)
theorem z1n:SG ZP sg 169 @zarf:=conS (loops:=l0) (ids:=[]) good Tryz.func169 (by kernel_rfl) (by kernel_rfl) cg0 zaa (fun a=>by kernel_rfl) (by kernel_rfl)
theorem zale:SG ZP sg 167 @zaq9:=conE good Tryz.func167 (by kernel_rfl) (by kernel_rfl) (cgc z0r cg0) (fun a=>by kernel_rfl)
theorem zakw:SG ZP sg 107 @zaqr:=conE good Tryz.func107 (by kernel_rfl) (by kernel_rfl) (cgc (sgi (ac:=zaih) zra (sgi (ac:=zmd) zw7 sg0)) (cgc zq9 (cgc zale (cgc (sgP zaly) (cgc z1n cg0))))) (fun a=>by kernel_rfl)
theorem zrk:SG ZP sg 71 @zaq5:=conM (loops:=l0) (ids:=[]) good Tryz.func71 (by kernel_rfl) (by kernel_rfl) (cgc zf8 cg0) zaa (fun a b=>by kernel_rfl)
theorem zamj:SG ZP sg 170 @zarz:=conE good Tryz.func170 (by kernel_rfl) (by kernel_rfl) (cgc zrd (cgc (sgP zal1) (cgc z1u cg0))) (fun a=>by kernel_rfl)
theorem zamt:SG ZP sg 108 @zar7:=conM (loops:=l0) (ids:=[]) good Tryz.func108 (by kernel_rfl) (by kernel_rfl) (cgc zrl (cgc zamj cg0)) zaa (fun a b=>by kernel_rfl)
theorem z1a:SG ZP sg 109 @zaq0:=conM (loops:=l0) (ids:=[]) good Tryz.func109 (by kernel_rfl) (by kernel_rfl) cg0 zaa (fun a b=>by kernel_rfl)
theorem zamm:SG ZP sg 112 @zar3:=conE good Tryz.func112 (by kernel_rfl) (by kernel_rfl) cg0 (fun a=>by kernel_rfl)
theorem zall:SG ZP sg 111 @z7g:=conE good Tryz.func111 (by kernel_rfl) (by kernel_rfl) (cgc zamm cg0) (fun a=>by kernel_rfl)
theorem zts:CG ZP sg @zww:=(cgc zall cg0)
theorem zxx:zae ZP sg 0 Tryz.f110 @zi3 2:=zar zk6 good Tryz.func110 zex zts zaa (fun a=>by kernel_rfl) (by kernel_rfl) (fun _ _=>rfl)
theorem z02:SG ZP sg 110 @z6b:=conD (loops:=zi3) good Tryz.func110 zex (by kernel_rfl) zts (all_cons zxx zaa) (fun a=>by kernel_rfl)
theorem zakl:SG ZP sg 55 @z6g:=conE good Tryz.func55 (by kernel_rfl) (by kernel_rfl) (cgc zmr (cgc zms (cgc zf8 (cgc zrk (cgc zri (cgc zq7 (cgc zfs (cgc zami (cgc zakw (cgc zamt (cgc z1a (cgc z02 cg0)))))))))))) (fun a=>by kernel_rfl)
theorem zamz:SG ZP sg 123 @zar9:=conE good Tryz.func123 (by kernel_rfl) (by kernel_rfl) (cgc z1n (cgc (sgP zal0) cg0)) (fun a=>by kernel_rfl)
theorem z1s:SG ZP sg 70 @zarq:=conE good Tryz.func70 (by kernel_rfl) (by kernel_rfl) (cgc zra (cgc zq9 (cgc zamz cg0))) (fun a=>by kernel_rfl)
theorem zamh:SG ZP sg 252 @z7v:=conE good Tryz.func252 (by kernel_rfl) (by kernel_rfl) (cgc zrm cg0) (fun a=>by kernel_rfl)
theorem z2b:fnB ZP 227 Tryz.f227 [7,13]=true:=by kernel_rfl
theorem z0a:CG ZP sg @z89:=(cgc z0t (cgc zamh (cgc zrm cg0)))
theorem zabk:zae ZP sg 0 Tryz.f227 @ziz 7:=zar zug good Tryz.func227 z2b z0a zaa (fun a=>by kernel_rfl) (by kernel_rfl) (fun _ _=>rfl)
theorem z3y:zae ZP sg 0 Tryz.f227 @ziz 13:=zar zo4 good Tryz.func227 z2b z0a zaa (fun a=>by kernel_rfl) (by kernel_rfl) (fun _ _=>rfl)
theorem zaj1:SG ZP sg 227 @zap1:=conD (loops:=ziz) good Tryz.func227 z2b (by kernel_rfl) z0a (all_cons zabk (all_cons z3y zaa)) (fun a=>by kernel_rfl)
theorem zana:SG ZP sg 171 @zask:=conE good Tryz.func171 (by kernel_rfl) (by kernel_rfl) (cgc zaff (cgc z1m (cgc zaj1 cg0))) (fun a=>by kernel_rfl)
theorem zalm:SG ZP sg 228 @zarh:=conE good Tryz.func228 (by kernel_rfl) (by kernel_rfl) (cgc z0s cg0) (fun a=>by kernel_rfl)
theorem zam0:SG ZP sg 172 @zasa:=conM (loops:=l0) (ids:=[]) good Tryz.func172 (by kernel_rfl) (by kernel_rfl) (cgc zf8 (cgc zalm cg0)) zaa (fun a b=>by kernel_rfl)
theorem zak4:SG ZP sg 230 @z6u:=conE good Tryz.func230 (by kernel_rfl) (by kernel_rfl) cg0 (fun a=>by kernel_rfl)
theorem zafx:fnB ZP 229 Tryz.f229 [2]=true:=by kernel_rfl
theorem zaeo:CG ZP sg @z9m:=(cgc zak4 cg0)
theorem zabx:zae ZP sg 0 Tryz.f229 @zps 2:=zar zut good Tryz.func229 zafx zaeo zaa (fun a=>by kernel_rfl) (by kernel_rfl) (fun _ _=>rfl)
theorem zaj8:SG ZP sg 229 @zap9:=conD (loops:=zps) good Tryz.func229 zafx (by kernel_rfl) zaeo (all_cons zabx zaa) (fun a=>by kernel_rfl)
theorem zakz:SG ZP sg 173 @zaqv:=conE good Tryz.func173 (by kernel_rfl) (by kernel_rfl) (cgc zaj8 cg0) (fun a=>by kernel_rfl)
theorem zamc:SG ZP sg 113 @zart:=conM (loops:=l0) (ids:=[]) good Tryz.func113 (by kernel_rfl) (by kernel_rfl) (cgc z1s (cgc zrk (cgc zfs (cgc zre (cgc zrf (cgc zana (cgc zam0 (cgc zakz cg0)))))))) zaa (fun a b=>by kernel_rfl)
theorem zal8:SG ZP sg 56 @z7p:=conE good Tryz.func56 (by kernel_rfl) (by kernel_rfl) (cgc zmr (cgc zms (cgc zf8 (cgc zq7 (cgc zfs (cgc z1v (cgc z1a (cgc zamc (cgc z1p cg0))))))))) (fun a=>by kernel_rfl)
theorem zavm:fnB ZP 26 Tryz.f26 [6]=true:=by kernel_rfl
theorem zaeu:CG ZP sg @z9s:=(cgc zalj (cgc zafd (cgc zak8 (cgc zakl (cgc zal8 cg0)))))
theorem zab3:zae ZP sg 0 Tryz.f26 @zpy 6:=zar zuz good Tryz.func26 zavm zaeu zaa (fun a=>by kernel_rfl) (by kernel_rfl) (fun _ _=>rfl)
theorem zakh:SG ZP sg 26 @zaqi:=conD (loops:=zpy) good Tryz.func26 zavm (by kernel_rfl) zaeu (all_cons zab3 zaa) (fun a=>by kernel_rfl)
theorem zau9:fnB ZP 11 Tryz.f11 [3]=true:=by kernel_rfl
theorem zad8:CG ZP sg @z81:=cg0
theorem zabc:zae ZP sg 0 Tryz.f11 @zpc 3:=zar zt7 good Tryz.func11 zau9 zad8 zaa (fun a=>by kernel_rfl) (by kernel_rfl) (fun _ _=>rfl)
theorem z0k:SG ZP sg 11 @z5l:=conD (loops:=zpc) good Tryz.func11 zau9 (by kernel_rfl) zad8 (all_cons zabc zaa) (fun a=>by kernel_rfl)
theorem zavc:fnB ZP 13 Tryz.f13 [3]=true:=by kernel_rfl
theorem zaen:CG ZP sg @z9l:=cg0
theorem zabw:zae ZP sg 0 Tryz.f13 @zpr 3:=zar zus good Tryz.func13 zavc zaen zaa (fun a=>by kernel_rfl) (by kernel_rfl) (fun _ _=>rfl)
theorem z0u:SG ZP sg 13 @z5z:=conD (loops:=zpr) good Tryz.func13 zavc (by kernel_rfl) zaen (all_cons zabw zaa) (fun a=>by kernel_rfl)
theorem z1d:SG ZP sg 58 @z61:=conE good Tryz.func58 (by kernel_rfl) (by kernel_rfl) cg0 (fun a=>by kernel_rfl)
theorem ztt:CG ZP sg @zwx:=(cgc z1d cg0)
theorem zxy:zae ZP sg 0 Tryz.f110 @zi4 2:=zar zk7 good Tryz.func110 zex ztt zaa (fun a=>by kernel_rfl) (by kernel_rfl) (fun _ _=>rfl)
theorem z03:SG ZP sg 110 @z6c:=conD (loops:=zi4) good Tryz.func110 zex (by kernel_rfl) ztt (all_cons zxy zaa) (fun a=>by kernel_rfl)
theorem zw5:SG ZP sg 57 @zl7:=conE good Tryz.func57 (by kernel_rfl) (by kernel_rfl) (cgc z1d (cgc z03 cg0)) (fun a=>by kernel_rfl)
theorem zame:SG ZP sg 62 @zarw:=conE good Tryz.func62 (by kernel_rfl) (by kernel_rfl) (cgc z1q cg0) (fun a=>by kernel_rfl)
theorem zavu:fnB ZP 61 Tryz.f61 [3]=true:=by kernel_rfl
theorem zaev:CG ZP sg @z9t:=cg0
theorem zab4:zae ZP sg 0 Tryz.f61 @zpz 3:=zar zu0 good Tryz.func61 zavu zaev zaa (fun a=>by kernel_rfl) (by kernel_rfl) (fun _ _=>rfl)
theorem zaki:SG ZP sg 61 @zaqj:=conD (loops:=zpz) good Tryz.func61 zavu (by kernel_rfl) zaev (all_cons zab4 zaa) (fun a=>by kernel_rfl)
theorem zayp:SG ZP sg 60 @zare:=conE good Tryz.func60 (by kernel_rfl) (by kernel_rfl) (cgc zaki (cgc zame cg0)) (fun a=>by kernel_rfl)
theorem zavn:fnB ZP 27 Tryz.f27 [3]=true:=by kernel_rfl
theorem zaua:CG ZP sg @zaiy:=(cgc z0k (cgc zw5 (cgc (sgP zaln) cg0)))
theorem zaoa:zae ZP sg 0 Tryz.f27 @zvz 3:=zar z28 good Tryz.func27 zavn zaua zaa (fun a=>by kernel_rfl) (by kernel_rfl) (fun _ _=>rfl)
theorem zafe:SG ZP sg 27 @z79:=conD (loops:=zvz) good Tryz.func27 zavn (by kernel_rfl) zaua (all_cons zaoa zaa) (fun a=>by kernel_rfl)
theorem zavf:fnB ZP 16 Tryz.f16 [3]=true:=by kernel_rfl
theorem zaeb:CG ZP sg @z84:=(cgc zafe cg0)
theorem zabf:zae ZP sg 0 Tryz.f16 @zpf 3:=zar zua good Tryz.func16 zavf zaeb zaa (fun a=>by kernel_rfl) (by kernel_rfl) (fun _ _=>rfl)
theorem zajw:SG ZP sg 16 @zapx:=conD (loops:=zpf) good Tryz.func16 zavf (by kernel_rfl) zaeb (all_cons zabf zaa) (fun a=>by kernel_rfl)
theorem zave:fnB ZP 15 Tryz.f15 [4]=true:=by kernel_rfl
theorem zaeg:CG ZP sg @z9e:=cg0
theorem zabp:zae ZP sg 0 Tryz.f15 @zpk 4:=zar zul good Tryz.func15 zave zaeg zaa (fun a=>by kernel_rfl) (by kernel_rfl) (fun _ _=>rfl)
theorem z0q:SG ZP sg 15 @zap6:=conD (loops:=zpk) good Tryz.func15 zave (by kernel_rfl) zaeg (all_cons zabp zaa) (fun a=>by kernel_rfl)
theorem z08:SG ZP sg 32 @z6q:=conE good Tryz.func32 (by kernel_rfl) (by kernel_rfl) cg0 (fun a=>by kernel_rfl)
theorem zto:CG ZP sg @zws:=(cgc z08 cg0)
theorem zxt:zae ZP sg 0 Tryz.f63 @ziu 2:=zar zk2 good Tryz.func63 zop zto zaa (fun a=>by kernel_rfl) (by kernel_rfl) (fun _ _=>rfl)
theorem z0m:SG ZP sg 63 @z5p:=conD (loops:=ziu) good Tryz.func63 zop (by kernel_rfl) zto (all_cons zxt zaa) (fun a=>by kernel_rfl)
theorem zak9:SG ZP sg 31 @z60:=conE good Tryz.func31 (by kernel_rfl) (by kernel_rfl) (cgc z08 (cgc z0m cg0)) (fun a=>by kernel_rfl)
theorem z1r:SG ZP sg 119 @zarp:=conE good Tryz.func119 (by kernel_rfl) (by kernel_rfl) cg0 (fun a=>by kernel_rfl)
theorem z1o:SG ZP sg 118 @z7f:=conE good Tryz.func118 (by kernel_rfl) (by kernel_rfl) (cgc z1r cg0) (fun a=>by kernel_rfl)
theorem ztp:CG ZP sg @zwt:=(cgc z1o cg0)
theorem zxu:zae ZP sg 0 Tryz.f63 @ziv 2:=zar zk3 good Tryz.func63 zop ztp zaa (fun a=>by kernel_rfl) (by kernel_rfl) (fun _ _=>rfl)
theorem z0n:SG ZP sg 63 @z5q:=conD (loops:=ziv) good Tryz.func63 zop (by kernel_rfl) ztp (all_cons zxu zaa) (fun a=>by kernel_rfl)
theorem zw8:SG ZP sg 31 @zyz:=conE good Tryz.func31 (by kernel_rfl) (by kernel_rfl) (cgc z0n (cgc z1o cg0)) (fun a=>by kernel_rfl)
theorem z1h:SG ZP sg 120 @z64:=conE good Tryz.func120 (by kernel_rfl) (by kernel_rfl) cg0 (fun a=>by kernel_rfl)
theorem ztu:CG ZP sg @zwy:=(cgc z1h cg0)
theorem zxz:zae ZP sg 0 Tryz.f110 @zi5 2:=zar zk8 good Tryz.func110 zex ztu zaa (fun a=>by kernel_rfl) (by kernel_rfl) (fun _ _=>rfl)
theorem z04:SG ZP sg 110 @z6d:=conD (loops:=zi5) good Tryz.func110 zex (by kernel_rfl) ztu (all_cons zxz zaa) (fun a=>by kernel_rfl)
theorem zw6:SG ZP sg 57 @zyx:=conE good Tryz.func57 (by kernel_rfl) (by kernel_rfl) (cgc z04 (cgc z1h cg0)) (fun a=>by kernel_rfl)
theorem zaj2:SG ZP sg 66 @zap2:=conE good Tryz.func66 (by kernel_rfl) (by kernel_rfl) (cgc zw8 (cgc zw6 (cgc z1r cg0))) (fun a=>by kernel_rfl)
theorem zamv:SG ZP sg 33 @z73:=conE good Tryz.func33 (by kernel_rfl) (by kernel_rfl) (cgc zmr (cgc zms (cgc zaj2 (cgc zf8 (cgc z1j (cgc z0y (cgc z1s (cgc zrk (cgc z0i cg0))))))))) (fun a=>by kernel_rfl)
theorem zank:fnB ZP 20 Tryz.f20 [2,9]=true:=by kernel_rfl
theorem zajh:CG ZP sg @zai1:=(cgc zak9 (cgc zamv cg0))
theorem zaod:zae ZP sg 0 Tryz.f20 @znf 2:=zar z3b good Tryz.func20 zank zajh zaa (fun a=>by kernel_rfl) (by kernel_rfl) (fun _ _=>rfl)
theorem zaoe:zae ZP sg 0 Tryz.f20 @znf 9:=zar z3c good Tryz.func20 zank zajh zaa (fun a=>by kernel_rfl) (by kernel_rfl) (fun _ _=>rfl)
theorem zaut:SG ZP sg 20 @zax8:=conD (loops:=znf) good Tryz.func20 zank (by kernel_rfl) zajh (all_cons zaod (all_cons zaoe zaa)) (fun a=>by kernel_rfl)
theorem zavh:fnB ZP 18 Tryz.f18 [4]=true:=by kernel_rfl
theorem zaew:CG ZP sg @z9u:=(cgc z0u (cgc zafe cg0))
theorem zab5:zae ZP sg 0 Tryz.f18 @zp0 4:=zar zu1 good Tryz.func18 zavh zaew zaa (fun a=>by kernel_rfl) (by kernel_rfl) (fun _ _=>rfl)
theorem z05:SG ZP sg 18 @zaqk:=conD (loops:=zp0) good Tryz.func18 zavh (by kernel_rfl) zaew (all_cons zab5 zaa) (fun a=>by kernel_rfl)
theorem zam4:SG ZP sg 10 @zase:=conE good Tryz.func10 (by kernel_rfl) (by kernel_rfl) (cgc z0k (cgc z0u (cgc z0q (cgc zajw (cgc z05 (cgc zaut (cgc zakh cg0))))))) (fun a=>by kernel_rfl)
theorem zaav:fnB ZP 24 Tryz.f24 [4,9,14]=true:=by kernel_rfl
theorem zaae:CG ZP sg @zai7:=cg0
theorem zaol:zae ZP sg 0 Tryz.f24 @zhv 4:=zar z3l good Tryz.func24 zaav zaae zaa (fun a=>by kernel_rfl) (by kernel_rfl) (fun _ _=>rfl)
theorem zaom:zae ZP sg 0 Tryz.f24 @zhv 9:=zar z3m good Tryz.func24 zaav zaae zaa (fun a=>by kernel_rfl) (by kernel_rfl) (fun _ _=>rfl)
theorem zacq:zae ZP sg 0 Tryz.f24 @zhv 14:=zar zvn good Tryz.func24 zaav zaae zaa (fun a=>by kernel_rfl) (by kernel_rfl) (fun _ _=>rfl)
theorem zauz:SG ZP sg 24 @zayc:=conD (loops:=zhv) good Tryz.func24 zaav (by kernel_rfl) zaae (all_cons zaol (all_cons zaom (all_cons zacq zaa))) (fun a=>by kernel_rfl)
theorem zrh:SG ZP sg 146 @zsw:=conE good Tryz.func146 (by kernel_rfl) (by kernel_rfl) cg0 (fun a=>by kernel_rfl)
theorem zav3:fnB ZP 88 Tryz.f88 [2]=true:=by kernel_rfl
theorem zaep:CG ZP sg @z9n:=(cgc zrh cg0)
theorem zaby:zae ZP sg 0 Tryz.f88 @zpt 2:=zar zuu good Tryz.func88 zav3 zaep zaa (fun a=>by kernel_rfl) (by kernel_rfl) (fun _ _=>rfl)
theorem z0w:SG ZP sg 88 @zsu:=conD (loops:=zpt) good Tryz.func88 zav3 (by kernel_rfl) zaep (all_cons zaby zaa) (fun a=>by kernel_rfl)
theorem zama:SG ZP sg 147 @z7r:=conE good Tryz.func147 (by kernel_rfl) (by kernel_rfl) (cgc zrh cg0) (fun a=>by kernel_rfl)
theorem zal7:SG ZP sg 148 @z7o:=conE good Tryz.func148 (by kernel_rfl) (by kernel_rfl) cg0 (fun a=>by kernel_rfl)
theorem zav4:fnB ZP 89 Tryz.f89 [4]=true:=by kernel_rfl
theorem zae5:CG ZP sg @z93:=(cgc zrh (cgc zama (cgc zal7 cg0)))
theorem zace:zae ZP sg 0 Tryz.f89 @zp9 4:=zar zva good Tryz.func89 zav4 zae5 zaa (fun a=>by kernel_rfl) (by kernel_rfl) (fun _ _=>rfl)
theorem zaks:SG ZP sg 89 @z6n:=conD (loops:=zp9) good Tryz.func89 zav4 (by kernel_rfl) zae5 (all_cons zace zaa) (fun a=>by kernel_rfl)
theorem zavr:fnB ZP 42 Tryz.f42 [4]=true:=by kernel_rfl
theorem zae4:CG ZP sg @z92:=(cgc z0w (cgc zaks cg0))
theorem zacd:zae ZP sg 0 Tryz.f42 @zp8 4:=zar zu9 good Tryz.func42 zavr zae4 zaa (fun a=>by kernel_rfl) (by kernel_rfl) (fun _ _=>rfl)
theorem zakr:SG ZP sg 42 @z6m:=conD (loops:=zp8) good Tryz.func42 zavr (by kernel_rfl) zae4 (all_cons zacd zaa) (fun a=>by kernel_rfl)
theorem zavs:fnB ZP 43 Tryz.f43 [4]=true:=by kernel_rfl
theorem zae2:CG ZP sg @z90:=cg0
theorem zacb:zae ZP sg 0 Tryz.f43 @zp6 4:=zar zu7 good Tryz.func43 zavs zae2 zaa (fun a=>by kernel_rfl) (by kernel_rfl) (fun _ _=>rfl)
theorem zakp:SG ZP sg 43 @z6k:=conD (loops:=zp6) good Tryz.func43 zavs (by kernel_rfl) zae2 (all_cons zacb zaa) (fun a=>by kernel_rfl)
theorem zali:SG ZP sg 149 @zard:=conE good Tryz.func149 (by kernel_rfl) (by kernel_rfl) cg0 (fun a=>by kernel_rfl)
theorem zamp:SG ZP sg 150 @zar6:=conE good Tryz.func150 (by kernel_rfl) (by kernel_rfl) cg0 (fun a=>by kernel_rfl)
theorem zal4:SG ZP sg 90 @z7l:=conE good Tryz.func90 (by kernel_rfl) (by kernel_rfl) (cgc zali (cgc zamp cg0)) (fun a=>by kernel_rfl)
theorem zaaz:fnB ZP 44 Tryz.f44 [4,12,15]=true:=by kernel_rfl
theorem zaac:CG ZP sg @zai4:=(cgc zal4 cg0)
theorem zaoi:zae ZP sg 0 Tryz.f44 @zht 4:=zar z3h good Tryz.func44 zaaz zaac zaa (fun a=>by kernel_rfl) (by kernel_rfl) (fun _ _=>rfl)
theorem zvs:zae ZP sg 0 Tryz.f44 @zht 15:=zar zvk good Tryz.func44 zaaz zaac zaa (fun a=>by kernel_rfl) (by kernel_rfl) (fun _ _=>rfl)
theorem zacn:zae ZP sg 0 Tryz.f44 @zht 12:=zar zvj good Tryz.func44 zaaz zaac (all_cons zvs zaa) (fun a=>by kernel_rfl) (by kernel_rfl) (fun _ _=>rfl)
theorem zauw:SG ZP sg 44 @zah3:=conD (loops:=zht) good Tryz.func44 zaaz (by kernel_rfl) zaac (all_cons zaoi (all_cons zacn (all_cons zvs zaa))) (fun a=>by kernel_rfl)
theorem zamb:SG ZP sg 91 @z7s:=conE good Tryz.func91 (by kernel_rfl) (by kernel_rfl) cg0 (fun a=>by kernel_rfl)
theorem zavt:fnB ZP 45 Tryz.f45 [4]=true:=by kernel_rfl
theorem zae3:CG ZP sg @z91:=(cgc zamb cg0)
theorem zacc:zae ZP sg 0 Tryz.f45 @zp7 4:=zar zu8 good Tryz.func45 zavt zae3 zaa (fun a=>by kernel_rfl) (by kernel_rfl) (fun _ _=>rfl)
theorem zakq:SG ZP sg 45 @z6l:=conD (loops:=zp7) good Tryz.func45 zavt (by kernel_rfl) zae3 (all_cons zacc zaa) (fun a=>by kernel_rfl)
theorem zake:SG ZP sg 151 @zaqg:=conE good Tryz.func151 (by kernel_rfl) (by kernel_rfl) cg0 (fun a=>by kernel_rfl)
theorem zamu:SG ZP sg 92 @z71:=conE good Tryz.func92 (by kernel_rfl) (by kernel_rfl) (cgc zake cg0) (fun a=>by kernel_rfl)
theorem zann:fnB ZP 46 Tryz.f46 [4,9]=true:=by kernel_rfl
theorem zajj:CG ZP sg @zai8:=(cgc zamu cg0)
theorem z34:zae ZP sg 0 Tryz.f46 @znh 9:=zar z3o good Tryz.func46 zann zajj zaa (fun a=>by kernel_rfl) (by kernel_rfl) (fun _ _=>rfl)
theorem zaon:zae ZP sg 0 Tryz.f46 @znh 4:=zar z3n good Tryz.func46 zann zajj (all_cons z34 zaa) (fun a=>by kernel_rfl) (by kernel_rfl) (fun _ _=>rfl)
theorem zau0:SG ZP sg 46 @zah5:=conD (loops:=znh) good Tryz.func46 zann (by kernel_rfl) zajj (all_cons zaon (all_cons z34 zaa)) (fun a=>by kernel_rfl)
theorem zano:fnB ZP 47 Tryz.f47 [6,11]=true:=by kernel_rfl
theorem zz7:CG ZP sg @z86:=cg0
theorem zabh:zae ZP sg 0 Tryz.f47 @ziw 6:=zar zuc good Tryz.func47 zano zz7 zaa (fun a=>by kernel_rfl) (by kernel_rfl) (fun _ _=>rfl)
theorem z3w:zae ZP sg 0 Tryz.f47 @ziw 11:=zar zo2 good Tryz.func47 zano zz7 zaa (fun a=>by kernel_rfl) (by kernel_rfl) (fun _ _=>rfl)
theorem zajy:SG ZP sg 47 @z5r:=conD (loops:=ziw) good Tryz.func47 zano (by kernel_rfl) zz7 (all_cons zabh (all_cons z3w zaa)) (fun a=>by kernel_rfl)
theorem zav5:fnB ZP 93 Tryz.f93 [2]=true:=by kernel_rfl
theorem zafa:CG ZP sg @z98:=cg0
theorem zacj:zae ZP sg 0 Tryz.f93 @zqe 2:=zar zvf good Tryz.func93 zav5 zafa zaa (fun a=>by kernel_rfl) (by kernel_rfl) (fun _ _=>rfl)
theorem zaky:SG ZP sg 93 @zaqt:=conD (loops:=zqe) good Tryz.func93 zav5 (by kernel_rfl) zafa (all_cons zacj zaa) (fun a=>by kernel_rfl)
theorem zrj:SG ZP sg 48 @znt:=conE good Tryz.func48 (by kernel_rfl) (by kernel_rfl) (cgc zaky cg0) (fun a=>by kernel_rfl)
theorem zal5:SG ZP sg 152 @z7m:=conE good Tryz.func152 (by kernel_rfl) (by kernel_rfl) cg0 (fun a=>by kernel_rfl)
theorem zam2:SG ZP sg 237 @zasc:=conE good Tryz.func237 (by kernel_rfl) (by kernel_rfl) cg0 (fun a=>by kernel_rfl)
theorem zam8:SG ZP sg 188 @zasi:=conE good Tryz.func188 (by kernel_rfl) (by kernel_rfl) (cgc zam2 cg0) (fun a=>by kernel_rfl)
theorem zamk:SG ZP sg 189 @zar0:=conE good Tryz.func189 (by kernel_rfl) (by kernel_rfl) cg0 (fun a=>by kernel_rfl)
theorem zal3:SG ZP sg 238 @z7k:=conE good Tryz.func238 (by kernel_rfl) (by kernel_rfl) cg0 (fun a=>by kernel_rfl)
theorem zafo:fnB ZP 190 Tryz.f190 [3]=true:=by kernel_rfl
theorem zae8:CG ZP sg @z96:=(cgc zal3 cg0)
theorem zach:zae ZP sg 0 Tryz.f190 @zqc 3:=zar zvd good Tryz.func190 zafo zae8 zaa (fun a=>by kernel_rfl) (by kernel_rfl) (fun _ _=>rfl)
theorem zakv:SG ZP sg 190 @zaqq:=conD (loops:=zqc) good Tryz.func190 zafo (by kernel_rfl) zae8 (all_cons zach zaa) (fun a=>by kernel_rfl)
theorem zanb:SG ZP sg 191 @zasl:=conE good Tryz.func191 (by kernel_rfl) (by kernel_rfl) cg0 (fun a=>by kernel_rfl)
theorem zam7:SG ZP sg 192 @zash:=conE good Tryz.func192 (by kernel_rfl) (by kernel_rfl) cg0 (fun a=>by kernel_rfl)
theorem zal6:SG ZP sg 124 @z7n:=conE good Tryz.func124 (by kernel_rfl) (by kernel_rfl) (cgc zam8 (cgc zamk (cgc zakv (cgc zanb (cgc zam7 cg0))))) (fun a=>by kernel_rfl)
theorem zav6:fnB ZP 94 Tryz.f94 [5]=true:=by kernel_rfl
theorem zae1:CG ZP sg @z9z:=(cgc zal6 (cgc zal5 cg0))
theorem zaca:zae ZP sg 0 Tryz.f94 @zp5 5:=zar zu6 good Tryz.func94 zav6 zae1 zaa (fun a=>by kernel_rfl) (by kernel_rfl) (fun _ _=>rfl)
theorem zako:SG ZP sg 94 @z6j:=conD (loops:=zp5) good Tryz.func94 zav6 (by kernel_rfl) zae1 (all_cons zaca zaa) (fun a=>by kernel_rfl)
theorem zavv:fnB ZP 73 Tryz.f73 [2]=true:=by kernel_rfl
theorem zaej:CG ZP sg @z9h:=cg0
theorem zabs:zae ZP sg 0 Tryz.f73 @zpn 2:=zar zuo good Tryz.func73 zavv zaej zaa (fun a=>by kernel_rfl) (by kernel_rfl) (fun _ _=>rfl)
theorem zq8:SG ZP sg 73 @zns:=conD (loops:=zpn) good Tryz.func73 zavv (by kernel_rfl) zaej (all_cons zabs zaa) (fun a=>by kernel_rfl)
theorem zanp:fnB ZP 49 Tryz.f49 [4,15]=true:=by kernel_rfl
theorem zajm:CG ZP sg @zaje:=(cgc zq8 (cgc z0w (cgc zako cg0)))
theorem zaot:zae ZP sg 0 Tryz.f49 @znk 4:=zar z3u good Tryz.func49 zanp zajm zaa (fun a=>by kernel_rfl) (by kernel_rfl) (fun _ _=>rfl)
theorem zacs:zae ZP sg 0 Tryz.f49 @znk 15:=zar zvq good Tryz.func49 zanp zajm zaa (fun a=>by kernel_rfl) (by kernel_rfl) (fun _ _=>rfl)
theorem zau4:SG ZP sg 49 @zaib:=conD (loops:=znk) good Tryz.func49 zanp (by kernel_rfl) zajm (all_cons zaot (all_cons zacs zaa)) (fun a=>by kernel_rfl)
theorem zamf:SG ZP sg 95 @z7u:=conE good Tryz.func95 (by kernel_rfl) (by kernel_rfl) cg0 (fun a=>by kernel_rfl)
theorem zafm:fnB ZP 125 Tryz.f125 [2]=true:=by kernel_rfl
theorem zae9:CG ZP sg @z97:=cg0
theorem zaci:zae ZP sg 0 Tryz.f125 @zqd 2:=zar zve good Tryz.func125 zafm zae9 zaa (fun a=>by kernel_rfl) (by kernel_rfl) (fun _ _=>rfl)
theorem zakx:SG ZP sg 125 @zaqs:=conD (loops:=zqd) good Tryz.func125 zafm (by kernel_rfl) zae9 (all_cons zaci zaa) (fun a=>by kernel_rfl)
theorem zal9:SG ZP sg 96 @z7q:=conE good Tryz.func96 (by kernel_rfl) (by kernel_rfl) (cgc zakx cg0) (fun a=>by kernel_rfl)
theorem zanq:fnB ZP 50 Tryz.f50 [2,10]=true:=by kernel_rfl
theorem zajl:CG ZP sg @zajd:=(cgc zrj (cgc zq8 (cgc zamf (cgc zal9 cg0))))
theorem zaos:zae ZP sg 0 Tryz.f50 @znj 2:=zar z3t good Tryz.func50 zanq zajl zaa (fun a=>by kernel_rfl) (by kernel_rfl) (fun _ _=>rfl)
theorem zacr:zae ZP sg 0 Tryz.f50 @znj 10:=zar zvp good Tryz.func50 zanq zajl zaa (fun a=>by kernel_rfl) (by kernel_rfl) (fun _ _=>rfl)
theorem zau3:SG ZP sg 50 @zaia:=conD (loops:=znj) good Tryz.func50 zanq (by kernel_rfl) zajl (all_cons zaos (all_cons zacr zaa)) (fun a=>by kernel_rfl)
theorem zav7:fnB ZP 97 Tryz.f97 [2]=true:=by kernel_rfl
theorem zae0:CG ZP sg @z9y:=cg0
theorem zab9:zae ZP sg 0 Tryz.f97 @zp4 2:=zar zu5 good Tryz.func97 zav7 zae0 zaa (fun a=>by kernel_rfl) (by kernel_rfl) (fun _ _=>rfl)
theorem zakn:SG ZP sg 97 @z6i:=conD (loops:=zp4) good Tryz.func97 zav7 (by kernel_rfl) zae0 (all_cons zab9 zaa) (fun a=>by kernel_rfl)
theorem zanr:fnB ZP 51 Tryz.f51 [2,18]=true:=by kernel_rfl
theorem zajf:CG ZP sg @zair:=(cgc zrj (cgc zq8 (cgc zakn cg0)))
theorem zan2:zae ZP sg 0 Tryz.f51 @znd 2:=zar z2v good Tryz.func51 zanr zajf zaa (fun a=>by kernel_rfl) (by kernel_rfl) (fun _ _=>rfl)
theorem zaa9:zae ZP sg 0 Tryz.f51 @znd 18:=zar zt4 good Tryz.func51 zanr zajf zaa (fun a=>by kernel_rfl) (by kernel_rfl) (fun _ _=>rfl)
theorem zauj:SG ZP sg 51 @zahx:=conD (loops:=znd) good Tryz.func51 zanr (by kernel_rfl) zajf (all_cons zan2 (all_cons zaa9 zaa)) (fun a=>by kernel_rfl)
theorem zanl:fnB ZP 25 Tryz.f25 [6,11]=true:=by kernel_rfl
theorem z0b:CG ZP sg @z9a:=(cgc zakr (cgc zakp (cgc zauw (cgc zakq (cgc zau0 (cgc zajy (cgc zrj (cgc zau4 (cgc zau3 (cgc zauj cg0))))))))))
theorem zabl:zae ZP sg 0 Tryz.f25 @zi0 6:=zar zuh good Tryz.func25 zanl z0b zaa (fun a=>by kernel_rfl) (by kernel_rfl) (fun _ _=>rfl)
theorem z3z:zae ZP sg 0 Tryz.f25 @zi0 11:=zar zo5 good Tryz.func25 zanl z0b zaa (fun a=>by kernel_rfl) (by kernel_rfl) (fun _ _=>rfl)
theorem zaj3:SG ZP sg 25 @zap3:=conD (loops:=zi0) good Tryz.func25 zanl (by kernel_rfl) z0b (all_cons zabl (all_cons z3z zaa)) (fun a=>by kernel_rfl)
theorem zam9:SG ZP sg 9 @zasj:=conE good Tryz.func9 (by kernel_rfl) (by kernel_rfl) (cgc zauz (cgc zaj3 cg0)) (fun a=>by kernel_rfl)
theorem zava:fnB ZP 12 Tryz.f12 [3]=true:=by kernel_rfl
theorem zaeq:CG ZP sg @z9o:=cg0
theorem zabz:zae ZP sg 0 Tryz.f12 @zpu 3:=zar zuv good Tryz.func12 zava zaeq zaa (fun a=>by kernel_rfl) (by kernel_rfl) (fun _ _=>rfl)
theorem z0x:SG ZP sg 12 @z52:=conD (loops:=zpu) good Tryz.func12 zava (by kernel_rfl) zaeq (all_cons zabz zaa) (fun a=>by kernel_rfl)
theorem zavo:fnB ZP 28 Tryz.f28 [4]=true:=by kernel_rfl
theorem zaea:CG ZP sg @z83:=(cgc z0x cg0)
theorem zabe:zae ZP sg 0 Tryz.f28 @zpe 4:=zar zt9 good Tryz.func28 zavo zaea zaa (fun a=>by kernel_rfl) (by kernel_rfl) (fun _ _=>rfl)
theorem zajv:SG ZP sg 28 @z5m:=conD (loops:=zpe) good Tryz.func28 zavo (by kernel_rfl) zaea (all_cons zabe zaa) (fun a=>by kernel_rfl)
theorem zamy:SG ZP sg 29 @z78:=conE good Tryz.func29 (by kernel_rfl) (by kernel_rfl) (cgc z0x cg0) (fun a=>by kernel_rfl)
theorem zani:fnB ZP 17 Tryz.f17 [3,10]=true:=by kernel_rfl
theorem zajk:CG ZP sg @zajc:=(cgc zajv (cgc zamy cg0))
theorem zvt:zae ZP sg 0 Tryz.f17 @zni 10:=zar zvo good Tryz.func17 zani zajk zaa (fun a=>by kernel_rfl) (by kernel_rfl) (fun _ _=>rfl)
theorem zaor:zae ZP sg 0 Tryz.f17 @zni 3:=zar z3s good Tryz.func17 zani zajk (all_cons zvt zaa) (fun a=>by kernel_rfl) (by kernel_rfl) (fun _ _=>rfl)
theorem zau2:SG ZP sg 17 @zah9:=conD (loops:=zni) good Tryz.func17 zani (by kernel_rfl) zajk (all_cons zaor (all_cons zvt zaa)) (fun a=>by kernel_rfl)
theorem zavp:fnB ZP 30 Tryz.f30 [2]=true:=by kernel_rfl
theorem zaet:CG ZP sg @z9r:=cg0
theorem zab2:zae ZP sg 0 Tryz.f30 @zpx 2:=zar zuy good Tryz.func30 zavp zaet zaa (fun a=>by kernel_rfl) (by kernel_rfl) (fun _ _=>rfl)
theorem zakg:SG ZP sg 30 @z6e:=conD (loops:=zpx) good Tryz.func30 zavp (by kernel_rfl) zaet (all_cons zab2 zaa) (fun a=>by kernel_rfl)
theorem zavd:fnB ZP 14 Tryz.f14 [3]=true:=by kernel_rfl
theorem zaez:CG ZP sg @z9x:=cg0
theorem zab8:zae ZP sg 0 Tryz.f14 @zp3 3:=zar zu4 good Tryz.func14 zavd zaez zaa (fun a=>by kernel_rfl) (by kernel_rfl) (fun _ _=>rfl)
theorem zakm:SG ZP sg 14 @z6h:=conD (loops:=zp3) good Tryz.func14 zavd (by kernel_rfl) zaez (all_cons zab8 zaa) (fun a=>by kernel_rfl)
theorem zanj:fnB ZP 19 Tryz.f19 [4,9]=true:=by kernel_rfl
theorem zz8:CG ZP sg @z87:=(cgc zakm (cgc zau2 (cgc zakg cg0)))
theorem zvr:zae ZP sg 0 Tryz.f19 @zix 9:=zar zue good Tryz.func19 zanj zz8 zaa (fun a=>by kernel_rfl) (by kernel_rfl) (fun _ _=>rfl)
theorem zabi:zae ZP sg 0 Tryz.f19 @zix 4:=zar zud good Tryz.func19 zanj zz8 (all_cons zvr zaa) (fun a=>by kernel_rfl) (by kernel_rfl) (fun _ _=>rfl)
theorem zajz:SG ZP sg 19 @zapz:=conD (loops:=zix) good Tryz.func19 zanj (by kernel_rfl) zz8 (all_cons zabi (all_cons zvr zaa)) (fun a=>by kernel_rfl)
theorem zalp:SG ZP sg 5 @zark:=conE good Tryz.func5 (by kernel_rfl) (by kernel_rfl) (cgc zam9 (cgc zam4 (cgc z0q (cgc z05 (cgc zajz cg0))))) (fun a=>by kernel_rfl)
end Go.Proofs.YtpaidiaknfhclaaGreatDoor
namespace Go.Proofs.YtpaidiaknfhclaaGreatDoor
open Ev
open Go (IntKind)
section
variable {α β σ X:Type}
theorem zxq {step:α→Option (α⊕β)}:∀{n m:Nat} {a:α} {b:β},n≤m→zcs step n a=some b→zcs step m a=some b:=by
 intro n
 induction n with
 |zero=>intro m a b _ h;cases h
 |succ n ih=>
  intro m a b hm h
  obtain ⟨m,rfl⟩:∃k,m=k+1:=⟨m-1,by omega⟩
  simp only[zcs]at h ⊢
  cases h1:step a with
  |none=>rw[h1]at h;cases h
  |some x=>
   rw[h1]at h
   cases x with
   |inl a'=>exact ih (by omega) h
   |inr b'=>exact h
theorem zff {step:α→Option (α⊕β)} {a:α} {b:β} (n:Nat) (hn:n≤FUEL) (h:zcs step n a=some b):zah step a=some b:=zxq hn h
def zez (f:Nat→X→σ→σ⊕β) (fin:σ→β):Nat→List X→σ→β
 |_,[],s=>fin s
 |i,x::l,s=>match f i x s with
  |.inl s'=>zez f fin (i+1) l s'
  |.inr b=>b
theorem zcf {step:α→Option (α⊕β)} (Inv:Nat→σ→Prop) (enc:Nat→σ→α) (l:List X) (f:Nat→X→σ→σ⊕β) (fin:σ→β) (hl:l.length<FUEL)
 (h0:∀s,Inv l.length s→step (enc l.length s)=some (.inr (fin s)))
 (h1:∀i x s,l[i]?=some x→Inv i s→(step (enc i s)=some (match f i x s with | .inl s'=>.inl (enc (i+1) s') | .inr b=>.inr b))∧∀s',f i x s=.inl s'→Inv (i+1) s')
 (s:σ) (hs:Inv 0 s):zah step (enc 0 s)=some (zez f fin 0 l s):=by
 have key:∀k i s,i+k=l.length→Inv i s→zcs step (k+1) (enc i s)=some (zez f fin i (l.drop i) s):=by
  intro k
  induction k with
  |zero=>
   intro i s hi hs
   have:i=l.length:=by omega
   subst this
   rw[List.drop_length]
   simp only[zcs,h0 s hs,zez]
  |succ k ih=>
   intro i s hi hs
   have hlt:i<l.length:=by omega
   obtain ⟨e1,e2⟩:=h1 i l[i] s (List.getElem?_eq_getElem hlt) hs
   rw[List.drop_eq_getElem_cons hlt]
   rw[zcs,e1]
   simp only[zez]
   cases hf:f i l[i] s with
   |inl s'=>simp only;exact ih (i+1) s' (by omega) (e2 s' hf)
   |inr b=>rfl
 have:=key l.length 0 s (by omega) hs
 exact zff (l.length+1) (by omega) (by simpa using this)
theorem zdr {step:α→Option (α⊕β)} (enc:Nat→σ→α) (l:List X) (f:Nat→X→σ→σ⊕β) (fin:σ→β) (hl:l.length<FUEL)
 (h0:∀s,step (enc l.length s)=some (.inr (fin s)))
 (h1:∀i x s,l[i]?=some x→step (enc i s)=some (match f i x s with | .inl s'=>.inl (enc (i+1) s') | .inr b=>.inr b))
 (s:σ):zah step (enc 0 s)=some (zez f fin 0 l s):=
 zcf (fun _ _=>True) enc l f fin hl (fun s _=>h0 s) (fun i x s hx _=>⟨h1 i x s hx,fun _ _=>trivial⟩) s trivial
def fIdx (p:X→Bool) (l:List X):Int:=match l.findIdx? p with|some i=>(i:Int)|none=>-1
def zb2 (f:Nat→X→Int):Nat→List X→Int
 |_,[]=>0
 |i,x::l=>if f i x==0 then zb2 f (i+1) l else f i x
theorem z5j {f:Nat→X→Int} {d:β} {g:Int→β}:∀{l:List X} {i:Nat},zez (σ:=Unit) (fun i x _=>if f i x==0 then .inl () else .inr (g (f i x))) (fun _=>d) i l ()=if zb2 f i l==0 then d else g (zb2 f i l):=by
 intro l
 induction l with
 |nil=>intros;rfl
 |cons x l ih=>
  intro i
  simp only[zez,zb2]
  by_cases h:(f i x==0)=true
  ·simp only[h,if_true];exact ih
  ·have h2:¬f i x=0:=fun e=>h (by simp[e])
   simp[h2]
theorem zem {f:X→σ→σ} {fin:σ→β}:∀{l:List X} {i:Nat} {s:σ},zez (fun _ x s=>.inl (f x s)) fin i l s=fin (l.foldl (fun s x=>f x s) s):=by
 intro l
 induction l with
 |nil=>intros;rfl
 |cons x l ih=>intro i s;simp only[zez,List.foldl_cons];exact ih
end
section
variable {α β σ X:Type} {step:α→Option (α⊕β)}
def zhc (a:α) (g:Int→β) (e:Int):Option (α⊕β):=if e==0 then some (.inl a) else some (.inr (g e))
theorem zdm (a:α) (g:Int→β) (b:Bool) (x y:Int):zhc a g (bif b then x else y)=bif b then zhc a g x else zhc a g y:=by cases b<;>rfl
theorem zeo (enc:Nat→α) (l:List X) (f:Nat→X→Int) (d:β) (g:Int→β) (hl:l.length<1000000000) (h0:step (enc l.length)=some (.inr d))
 (h1:∀i x,l[i]?=some x→step (enc i)=zhc (enc (i+1)) g (f i x)):zah step (enc 0)=some (if zb2 f 0 l==0 then d else g (zb2 f 0 l)):=by
 have h:=zdr (step:=step) (fun i (_:Unit)=>enc i) l (fun i x _=>if f i x==0 then .inl () else .inr (g (f i x))) (fun _=>d) (by show l.length<18446744073709551616;omega) (fun _=>h0)
  (fun i x _ hx=>by rw[h1 i x hx];unfold zhc;split<;>rfl) ()
 rw[h,z5j]
def zey (p:X→Bool) (g:Nat→X→β) (d:β):Nat→List X→β
 |_,[]=>d
 |i,x::l=>bif p x then g i x else zey p g d (i+1) l
theorem zcc (enc:Nat→α) (l:List X) (p:X→Bool) (g:Nat→X→β) (d:β) (hl:l.length<1000000000) (h0:step (enc l.length)=some (.inr d))
 (h1:∀i x,l[i]?=some x→step (enc i)=bif p x then some (.inr (g i x)) else some (.inl (enc (i+1)))):zah step (enc 0)=some (zey p g d 0 l):=by
 have h:=zdr (step:=step) (fun i (_:Unit)=>enc i) l (fun i x _=>if p x then .inr (g i x) else .inl ()) (fun _=>d) (by show l.length<18446744073709551616;omega) (fun _=>h0)
  (fun i x _ hx=>by rw[h1 i x hx];cases p x<;>rfl) ()
 rw[h]
 have key:∀(l:List X) (i:Nat),zez (σ:=Unit) (fun i x _=>if p x then .inr (g i x) else .inl ()) (fun _=>d) i l ()=zey p g d i l:=by
  intro l
  induction l with
  |nil=>intro i;rfl
  |cons x l ih=>
   intro i
   simp only[zez,zey]
   cases p x with
   |true=>rfl
   |false=>exact ih _
 rw[key]
theorem zkx {p:X→Bool} {g:X→β} {d:β}:∀{l:List X} {i:Nat},zey p (fun _ x=>g x) d i l=(match l.find? p with|some x=>g x|none=>d):=by
 intro l
 induction l with
 |nil=>intros;rfl
 |cons x l ih=>intro i;simp only[zey,List.find?_cons];cases p x with|true=>rfl|false=>exact ih
theorem z2e {p:X→Bool}:∀{l:List X} {i:Nat},zey p (fun i _=>(i:Int)) (-1) i l=(match l.findIdx? p with|some k=>((i+k:Nat):Int)|none=>-1):=by
 intro l
 induction l with
 |nil=>intros;rfl
 |cons x l ih=>
  intro i
  simp only[zey,List.findIdx?_cons]
  cases p x with
  |true=>rfl
  |false=>
   simp only[Bool.false_eq_true,if_false,cond_false]
   rw[ih]
   cases l.findIdx? p with
   |none=>rfl
   |some k=>simp only[Option.map_some];rw[show i+1+k=i+(k+1) by omega]
theorem zfi {p:X→Bool} {l:List X}:zey p (fun i _=>(i:Int)) (-1) 0 l=fIdx p l:=by
 rw[z2e];unfold fIdx;simp
theorem zdn {γ:Type} {p:X→Bool} {g:Nat→X→β} {d:β} (f:β→γ):∀{l:List X} {i:Nat},f (zey p g d i l)=zey p (fun i x=>f (g i x)) (f d) i l:=by
 intro l
 induction l with
 |nil=>intros;rfl
 |cons x l ih=>intro i;simp only[zey];cases p x with|true=>rfl|false=>exact ih
def zcj (p:Nat→X→Bool):Nat→List X→Bool
 |_,[]=>true
 |i,x::l=>p i x&&zcj p (i+1) l
theorem za2 (enc:Nat→α) (l:List X) (p:Nat→X→Bool) (b d:β) (hl:l.length<1000000000) (h0:step (enc l.length)=some (.inr d))
 (h1:∀i x,l[i]?=some x→step (enc i)=bif p i x then some (.inl (enc (i+1))) else some (.inr b)):zah step (enc 0)=some (bif zcj p 0 l then d else b):=by
 have h:=zdr (step:=step) (fun i (_:Unit)=>enc i) l (fun i x _=>if p i x then .inl () else .inr b) (fun _=>d) (by show l.length<18446744073709551616;omega) (fun _=>h0)
  (fun i x _ hx=>by rw[h1 i x hx];cases p i x<;>rfl) ()
 rw[h]
 have key:∀(l:List X) (i:Nat),zez (σ:=Unit) (fun i x _=>if p i x then .inl () else .inr b) (fun _=>d) i l ()=bif zcj p i l then d else b:=by
  intro l
  induction l with
  |nil=>intro i;rfl
  |cons x l ih=>
   intro i
   simp only[zez,zcj]
   cases p i x with
   |true=>exact ih _
   |false=>rfl
 rw[key]
theorem zbj {p:X→Bool}:∀{l:List X} {i:Nat},zcj (fun _=>p) i l=l.all p:=by
 intro l
 induction l with
 |nil=>intros;rfl
 |cons x l ih=>intro i;simp only[zcj,List.all_cons];rw[ih]
theorem zzn {p:Nat→X→Bool}:∀{l:List X} {i:Nat},zcj p i l=true↔∀k x,l[k]?=some x→p (i+k) x=true:=by
 intro l
 induction l with
 |nil=>intro i;simp[zcj]
 |cons y l ih=>
  intro i
  simp only[zcj,Bool.and_eq_true]
  rw[ih]
  constructor
  ·rintro ⟨h0,h⟩ k x hk
   cases k with
   |zero=>simp at hk;subst hk;exact h0
   |succ k=>have:=h k x (by simpa using hk);rwa [show i+(k+1)=i+1+k by omega]
  ·intro h
   exact ⟨h 0 y rfl,fun k x hk=>by have:=h (k+1) x (by simpa using hk);rwa [show i+(k+1)=i+1+k by omega]at this⟩
theorem zdq (enc:Nat→σ→α) (l:List X) (f:X→σ→σ) (fin:σ→β) (hl:l.length<1000000000) (h0:∀s,step (enc l.length s)=some (.inr (fin s)))
 (h1:∀i x s,l[i]?=some x→step (enc i s)=some (.inl (enc (i+1) (f x s)))) (s:σ):zah step (enc 0 s)=some (fin (l.foldl (fun s x=>f x s) s)):=by
 have h:=zdr (step:=step) enc l (fun i x s=>.inl (f x s)) fin (by show l.length<18446744073709551616;omega) h0 (fun i x s hx=>by rw[h1 i x s hx]) s
 rw[h,zem]
end
def zb6 {X:Type} (l:List X) (i:Nat) (f:X→Bool):Bool:=match i with
 |0=>false
 |j+1=>match l[j]? with|some y=>f y|none=>false
theorem zd3 {n:Int} (h1 : -9223372036854775808≤n) (h2:n≤9223372036854775807):wr .i64 n=n:=by
 unfold wr;rw[IntKind.wrap_i64];omega
theorem zas {n:Nat} (h:n<9223372036854775807):wr .i64 ((n:Int)+1)=((n+1:Nat):Int):=by
 rw[zd3 (by omega) (by omega)];rfl
theorem zg8 {j:Nat} (h:j<1000000000):wr .i64 (((j+1:Nat):Int)-1)=(j:Int):=by
 rw[show ((j+1:Nat):Int)-1=(j:Int) by omega]
 exact zd3 (by omega) (by omega)
theorem dpos {j:Nat}:decide ((0:Int)<((j+1:Nat):Int))=true:=by rw[decide_eq_true_eq];omega
theorem z18:decide ((0:Int)<((0:Nat):Int))=false:=rfl
theorem zaq {α:Type} (l:List α) (i:Nat):getI l (i:Int)=l[i]?:=by
 unfold getI;simp
theorem zfp:LIM=1073741824:=rfl
theorem zl9:FUEL=18446744073709551616:=rfl
end Go.Proofs.YtpaidiaknfhclaaGreatDoor
namespace Go.Proofs.YtpaidiaknfhclaaGreatDoor
open Ev
open Go (IntKind)
theorem dlt {i n:Nat} (h:i<n):decide ((i:Int)<(n:Int))=true:=by simpa using h
theorem dge {n:Nat}:decide ((n:Int)<(n:Int))=false:=by simp
theorem k_or {α:Type} (k:Bool→α) (a b:Bool):(bif a then k true else k b)=k (a||b):=by cases a<;>rfl
theorem zb3 {α:Type} (k:Bool→α) (a b:Bool):(bif a then k b else k false)=k (a&&b):=by cases a<;>rfl
theorem zm6 {α:Type} (k:Bool→α) (a b:Bool):(bif a then k a else k b)=k (a||b):=by cases a<;>rfl
theorem zcl {α:Type} (c:Bool) (a b:α):(bif c then some a else some b)=some (bif c then a else b):=by cases c<;>rfl
theorem zasp (b:UInt8):wr .i64 (b.toNat:Int)=(b.toNat:Int):=by
 have:=b.toNat_lt
 exact zd3 (by omega) (by omega)
def dcdI (r:List UInt8):Int×Int:=(((dcd r).1:Int),((dcd r).2:Int))
theorem z4y {s:List UInt8} {i:Nat} (hi:i<s.length) (hs:s.length<1000000000):qcb s (i:Int)=some (dcdI (s.drop i)):=by
 obtain ⟨a,r,hr⟩:∃a r,s.drop i=a::r:=⟨s[i],s.drop (i+1),List.drop_eq_getElem_cons hi⟩
 have g:∀k,getI s ((i+k:Nat):Int)=(a::r)[k]?:=fun k=>by rw[zaq,←hr,List.getElem?_drop]
 have h0:getI s (i:Int)=some a:=g 0
 have w1:wr .i64 ((i:Int)+1)=((i+1:Nat):Int):=zas (by omega)
 have w2:wr .i64 ((i:Int)+2)=((i+2:Nat):Int):=by rw[zd3 (by omega) (by omega)];rfl
 have hl:s.length=i+(r.length+1):=by
  have:=congrArg List.length hr
  simp only[List.length_drop,List.length_cons]at this
  omega
 have ha:=a.toNat_lt
 unfold qcb
 rw[hr]
 unfold dcdI dcd
 have t1:decide (((i+1:Nat):Int)<((i+(r.length+1):Nat):Int))=decide (0<r.length):=by congr 1;simp only[eq_iff_iff];omega
 have t2:decide (((i+2:Nat):Int)<((i+(r.length+1):Nat):Int))=decide (1<r.length):=by congr 1;simp only[eq_iff_iff];omega
 simp -zeta only[h0,w1,w2,g 1,g 2,zasp,k_or,zb3,hl,t1,t2]
 dsimp only
 clear hl t1 t2 g hr hi h0 w1 w2 hs
 by_cases c1:32≤a.toNat∧a.toNat<127
 ·have e1:(decide ((32:Int)≤(a.toNat:Int))&&decide ((a.toNat:Int)<127))=true:=by simp;omega
  simp only[e1,cond_true,if_pos c1];rfl
 have e1:(decide ((32:Int)≤(a.toNat:Int))&&decide ((a.toNat:Int)<127))=false:=by simp;omega
 simp only[e1,cond_false,if_neg c1]
 by_cases c2:194≤a.toNat∧a.toNat<224
 ·have e2:(decide ((194:Int)≤(a.toNat:Int))&&decide ((a.toNat:Int)<224))=true:=by simp;omega
  have e3:decide ((224:Int)≤(a.toNat:Int))=false:=by simp;omega
  simp only[e2,e3,Bool.true_and,Bool.false_and,cond_false,if_pos c2]
  rcases r with _|⟨b,r⟩
  ·rfl
  have hb:=b.toNat_lt
  have l1:decide (0<(b::r).length)=true:=by simp
  have g1:(a::b::r)[1]?=some b:=rfl
  have e4:wr .i64 ((wr .i64 ((wr .i64 ((wr .i64 ((a.toNat:Int)-192))*64))+(b.toNat:Int)))-128)=((a.toNat:Int)-192)*64+(b.toNat:Int)-128:=by
   rw[zd3 (n:=(a.toNat:Int)-192) (by omega) (by omega),zd3 (n:=((a.toNat:Int)-192)*64) (by omega) (by omega),zd3 (n:=((a.toNat:Int)-192)*64+(b.toNat:Int)) (by omega) (by omega),zd3 (by omega) (by omega)]
  simp only[l1,g1,e4,cond_true]
  by_cases cb:128≤b.toNat
  ·have b1:decide ((128:Int)≤(b.toNat:Int))=true:=by simp;omega
   simp only[b1,cond_true]
   by_cases cb2:b.toNat<192
   ·have b2:decide ((b.toNat:Int)<192)=true:=by simp;omega
    simp only[b2,g1,cond_true,Bool.cond_eq_ite,decide_eq_true_eq]
    rw[if_pos True.intro]
    split
    ·rw[if_pos (by omega)];simp only[Option.some.injEq,Prod.mk.injEq];omega
    ·rw[if_neg (by omega)];rfl
   ·have b2:decide ((b.toNat:Int)<192)=false:=by simp;omega
    simp only[b2,cond_false]
    rw[if_neg (by omega)];rfl
  ·have b1:decide ((128:Int)≤(b.toNat:Int))=false:=by simp;omega
   simp only[b1,cond_false]
   rw[if_neg (by omega)];rfl
 have e2:(decide ((194:Int)≤(a.toNat:Int))&&decide ((a.toNat:Int)<224))=false:=by simp;omega
 simp only[e2,Bool.false_and,cond_false,if_neg c2]
 by_cases c3:224≤a.toNat∧a.toNat<240
 ·have e3:(decide ((224:Int)≤(a.toNat:Int))&&decide ((a.toNat:Int)<240))=true:=by simp;omega
  simp only[e3,Bool.true_and,if_pos c3]
  rcases r with _|⟨b,_|⟨c,r⟩⟩
  ·rfl
  ·rfl
  have hb:=b.toNat_lt
  have hc:=c.toNat_lt
  have l1:decide (1<(b::c::r).length)=true:=by simp
  have g1:(a::b::c::r)[1]?=some b:=rfl
  have g2:(a::b::c::r)[2]?=some c:=rfl
  have e4:wr .i64 ((wr .i64 ((wr .i64 ((wr .i64 ((wr .i64 ((a.toNat:Int)-224))*4096))+(wr .i64 ((wr .i64 ((b.toNat:Int)-128))*64))))+(c.toNat:Int)))-128)=((a.toNat:Int)-224)*4096+((b.toNat:Int)-128)*64+(c.toNat:Int)-128:=by
   rw[zd3 (n:=(a.toNat:Int)-224) (by omega) (by omega),zd3 (n:=((a.toNat:Int)-224)*4096) (by omega) (by omega),zd3 (n:=(b.toNat:Int)-128) (by omega) (by omega),zd3 (n:=((b.toNat:Int)-128)*64) (by omega) (by omega),
    zd3 (n:=((a.toNat:Int)-224)*4096+((b.toNat:Int)-128)*64) (by omega) (by omega),zd3 (n:=((a.toNat:Int)-224)*4096+((b.toNat:Int)-128)*64+(c.toNat:Int)) (by omega) (by omega),zd3 (by omega) (by omega)]
  simp only[l1,g1,g2,e4,cond_true]
  by_cases cb:128≤b.toNat
  ·have b1:decide ((128:Int)≤(b.toNat:Int))=true:=by simp;omega
   simp only[b1,cond_true]
   by_cases cb2:b.toNat<192
   ·have b2:decide ((b.toNat:Int)<192)=true:=by simp;omega
    simp only[b2,cond_true]
    by_cases cc:128≤c.toNat
    ·have d1:decide ((128:Int)≤(c.toNat:Int))=true:=by simp;omega
     simp only[d1,cond_true]
     by_cases cc2:c.toNat<192
     ·have d2:decide ((c.toNat:Int)<192)=true:=by simp;omega
      simp only[d2,g1,g2,cond_true,Bool.cond_eq_ite,Bool.and_eq_true,Bool.or_eq_true,decide_eq_true_eq]
      rw[if_pos True.intro]
      split
      ·rw[if_pos (by omega)];simp only[Option.some.injEq,Prod.mk.injEq];omega
      ·rw[if_neg (by omega)];rfl
     ·have d2:decide ((c.toNat:Int)<192)=false:=by simp;omega
      simp only[d2,cond_false]
      rw[if_neg (by omega)];rfl
    ·have d1:decide ((128:Int)≤(c.toNat:Int))=false:=by simp;omega
     simp only[d1,cond_false]
     rw[if_neg (by omega)];rfl
   ·have b2:decide ((b.toNat:Int)<192)=false:=by simp;omega
    simp only[b2,cond_false]
    rw[if_neg (by omega)];rfl
  ·have b1:decide ((128:Int)≤(b.toNat:Int))=false:=by simp;omega
   simp only[b1,cond_false]
   rw[if_neg (by omega)];rfl
 ·have e3:(decide ((224:Int)≤(a.toNat:Int))&&decide ((a.toNat:Int)<240))=false:=by simp;omega
  simp only[e3,Bool.false_and,cond_false,if_neg c3];rfl
theorem zafj (l:List UInt8):(dcd l).2≤l.length:=by
 unfold dcd
 split
 ·simp
 ·rename_i a r
  split
  ·simp
  ·split
   ·split
    ·split<;>simp
    ·simp
   ·split
    ·split
     ·split<;>simp
     ·simp
    ·simp
theorem z8i (n:Nat) {s:List UInt8} {i:Nat} (hi:i<s.length):vldN (n+1) (s.drop i)=if (dcd (s.drop i)).2=0 then false else vldN n (s.drop (i+(dcd (s.drop i)).2)):=by
 have:s.drop i≠[]:=by simp;omega
 simp only[vldN,this,if_false,List.drop_drop]
theorem zagu {s:List UInt8} (hs:s.length<1000000000):qaw s=some (vld s):=by
 have key:∀n i,s.length-i≤n→i≤s.length→zcs zln (n+1) (s,(i:Int),())=some (if vldN n (s.drop i) then .inl () else .inr (false,())):=by
  intro n
  induction n with
  |zero=>
   intro i h1 h2
   have:i=s.length:=by omega
   subst this
   simp only[zcs,zln,dge,cond_false,vldN,if_true]
  |succ n ih=>
   intro i h1 h2
   rw[zcs]
   by_cases hi:i<s.length
   ·rw[z8i n hi]
    have hle:=zafj (s.drop i)
    rw[List.length_drop]at hle
    simp only[zln,dlt hi,cond_true,z4y hi hs,dcdI]
    by_cases h0:(dcd (s.drop i)).2=0
    ·simp[h0]
    ·have hb:(((dcd (s.drop i)).2:Int)==0)=false:=by simp;omega
     have hw:wr .i64 ((i:Int)+((dcd (s.drop i)).2:Int))=((i+(dcd (s.drop i)).2:Nat):Int):=by rw[zd3 (by omega) (by omega)];rfl
     simp only[hb,cond_false,hw,h0,if_false]
     exact ih _ (by omega) (by omega)
   ·have:i=s.length:=by omega
    subst this
    simp[zln,vldN]
 unfold qaw
 have:=key s.length 0 (by omega) (by omega)
 rw[show ((0:Int))=((0:Nat):Int) from rfl,zff (s.length+1) (by rw[zl9];omega) this]
 simp only[List.drop_zero]
 unfold vld
 cases vldN s.length s<;>rfl
theorem zaw3 {s:List UInt8} {i:Nat} (hi:i<s.length) (hs:s.length<1000000000):qe7 s (i:Int)=some ((wid (s.drop i):Nat):Int):=by
 unfold qe7 wid
 rw[z4y hi hs]
 show some (if (((dcd (s.drop i)).2:Nat):Int)<1 then (1:Int) else (((dcd (s.drop i)).2:Nat):Int))=_
 rw[Option.some.injEq]
 by_cases h:(dcd (s.drop i)).2<1
 ·rw[if_pos h,if_pos (by omega)];rfl
 ·rw[if_neg h,if_neg (by omega)]
theorem zayg {l:List UInt8} (h:l≠[]):1≤wid l∧wid l≤l.length:=by
 have:=zafj l
 have:0<l.length:=List.length_pos_iff.2 h
 unfold wid
 split<;>omega
theorem z0d (n:Nat) {s:List UInt8} {i:Nat} (hi:i<s.length) {out:List UInt8} {gap:Bool}:clnN (n+1) (s.drop i) out gap =
 if blk (dcd (s.drop i)).1 then clnN n (s.drop (i+wid (s.drop i))) out true else clnN n (s.drop (i+wid (s.drop i))) ((if gap&&!(out==[]) then out++[32] else out)++(s.drop i).take (wid (s.drop i))) false:=by
 have:s.drop i≠[]:=by simp;omega
 rw[clnN,if_neg this,List.drop_drop]
theorem zaww {s:List UInt8} (hs:s.length<100000000):qbp s=some (cln s):=by
 have key:∀n i (out:List UInt8) (gap:Bool),s.length-i≤n→i≤s.length→out.length≤2*i→zcs zlu (n+1) (s,out,gap,(i:Int),())=some (clnN n (s.drop i) out gap,()):=by
  intro n
  induction n with
  |zero=>
   intro i out gap h1 h2 h3
   have:i=s.length:=by omega
   subst this
   simp only[zcs,zlu,dge,cond_false,clnN]
  |succ n ih=>
   intro i out gap h1 h2 h3
   rw[zcs]
   by_cases hi:i<s.length
   ·rw[z0d n hi]
    have hw0:=zayg (l:=s.drop i) (by simp;omega)
    rw[List.length_drop]at hw0
    obtain ⟨k,hk⟩:∃k,wid (s.drop i)=k:=⟨_,rfl⟩
    rw[hk]at hw0 ⊢
    have hw:wr .i64 ((i:Int)+(k:Int))=((i+k:Nat):Int):=by rw[zd3 (by omega) (by omega)];rfl
    have hb:qe4 ((dcd (s.drop i)).1:Int)=some (blk (dcd (s.drop i)).1):=by
     unfold qe4
     simp -zeta only[k_or]
     simp only[Option.some.injEq,blk]
     rw[Bool.eq_iff_iff];simp;omega
    simp only[zlu,dlt hi,cond_true,z4y hi (show s.length<1000000000 by omega),zaw3 hi (show s.length<1000000000 by omega),dcdI,hb,hk,hw]
    cases blk (dcd (s.drop i)).1 with
    |true=>simp only[cond_true,if_true];exact ih _ _ _ (by omega) (by omega) (by omega)
    |false=>
     have hc:(decide ((0:Int)≤(i:Int))&&(decide ((i:Int)≤((i+k:Nat):Int))&&decide (((i+k:Nat):Int)≤(s.length:Int))))=true:=by simp;omega
     have ht:(s.take (i+k)).drop i=(s.drop i).take k:=by rw[List.drop_take];congr 1;omega
     simp only[cond_false,hc,cond_true,Int.toNat_natCast,ht,Bool.false_eq_true,if_false]
     have hlen:∀o:List UInt8,o.length≤2*i+1→decide (o.length+((s.drop i).take k).length≤LIM)=true:=fun o ho=>by
      rw[zfp];simp only[List.length_take,List.length_drop,decide_eq_true_eq];omega
     cases hg:(gap&&!(out==[])) with
     |true=>
      simp only[Bool.and_eq_true,Bool.not_eq_true']at hg
      have h32:decide (out.length+([32]:List Nat).length≤LIM)=true:=by rw[zfp];simp;omega
      simp only[hg.1,hg.2,hc,ht,Int.toNat_natCast,cond_true,Bool.not_false,h32,hlen (out++[32]) (by simp;omega),if_true]
      exact ih _ _ _ (by omega) (by omega) (by simp;omega)
     |false=>
      cases gap with
      |false=>
       simp only[cond_false,hlen out (by omega),cond_true,Bool.false_eq_true,if_false]
       exact ih _ _ _ (by omega) (by omega) (by simp;omega)
      |true=>
       simp only[Bool.true_and]at hg
       simp only[cond_true,hg,cond_false,hlen out (by omega),Bool.false_eq_true,if_false]
       exact ih _ _ _ (by omega) (by omega) (by simp;omega)
   ·have:i=s.length:=by omega
    subst this
    simp[zlu,clnN]
 unfold qbp
 have:=key s.length 0 [] false (by omega) (by omega) (by simp)
 rw[show ((0:Int))=((0:Nat):Int) from rfl,zff (s.length+1) (by rw[zl9];omega) this]
 try rfl
end Go.Proofs.YtpaidiaknfhclaaGreatDoor
namespace Go.Proofs.YtpaidiaknfhclaaGreatDoor
open Ev
open Go (IntKind)
def rng (lo hi n:Int):Bool:=decide (lo≤n)&&decide (n≤hi)
theorem zag6 (n:Int):qe8 n=some (rng 0 109572 n):=by
 unfold qe8
 simp -zeta only[k_or,zb3]
 try rfl
theorem zaw4 (n:Int):qeq n=some (rng 0 109572 n):=by
 unfold qeq
 simp -zeta only[k_or,zb3]
 try rfl
theorem zaw0 (n:Int):qd7 n=some (rng 1 9999 n):=by
 unfold qd7
 simp -zeta only[k_or,zb3]
 try rfl
theorem zawn (n lo hi:Int):qb7 n lo hi=some (rng lo hi n):=by
 unfold qb7
 simp -zeta only[k_or,zb3]
 try rfl
def zd8 (l:List Charge) (i:Nat) (x:Charge):Int:=
 bif zb6 l i (fun y=>decide (x.ID≤y.ID)) then 7
 else bif decide (x.ID<1)||decide (99999<x.ID)||decide (x.Patron<1)||decide (9999<x.Patron)||decide (x.Item<1)||decide (9999<x.Item)||!(rng 0 109572 x.Day) then 2
 else bif decide (x.Kind<1)||decide (3<x.Kind) then 1
 else bif decide (x.Amount<1)||decide (100000000<x.Amount)||decide (x.Paid<0)||decide (x.Amount≤x.Paid) then 2 else 0
def zea (l:List Charge):Int:=bif decide (128<(l.length:Int)) then 13 else zb2 (zd8 l) 0 l
theorem zyi {l:List Charge} (hl:l.length<1000000000):zah zjj (l,0,())=some (if zb2 (zd8 l) 0 l==0 then .inl () else .inr (zb2 (zd8 l) 0 l,())):=by
 have h:=zeo (step:=zjj) (fun i=>(l,(i:Int),())) l (zd8 l) (.inl ()) (fun e=>.inr (e,())) hl
  (by simp only[zjj,dge,cond_false])
  (fun i x hx=>by
   have hi:=(List.getElem?_eq_some_iff.1 hx).1
   have hxm:=List.mem_of_getElem? hx
   unfold zd8
   simp only[zdm]
   rcases i with _|j
   ·simp -zeta only[zjj,dlt hi,zaq,hx,k_or,zb3,z18,cond_false,cond_true,zb6,zas (show 0<9223372036854775807 by omega),zag6]
    try rfl
   ·have hj:l[j]?=some l[j]:=List.getElem?_eq_getElem (by omega)
    simp -zeta only[zjj,dlt hi,zaq,hx,k_or,zb3,dpos,zg8 (show j<1000000000 by omega),hj,cond_false,cond_true,zb6,zas (show j+1<9223372036854775807 by omega),zag6]
    rfl)
 exact h
theorem zawu {l:List Charge} (hl:l.length<1000000000):qbn l=some (zea l):=by
 unfold qbn zea
 rw[zyi hl]
 generalize zb2 (zd8 l) 0 l=e
 cases decide (128<(l.length:Int)) with
 |true=>rfl
 |false=>
  by_cases h:e=0
  ·subst h;rfl
  ·have h2:(e==0)=false:=by simpa using h
   simp only[h2,Bool.false_eq_true,if_false,cond_false]
def zeh (l:List Patron) (i:Nat) (x:Patron):Int:=
 bif decide (x.ID<1)||decide (9999<x.ID) then 2
 else bif zb6 l i (fun y=>decide (x.ID≤y.ID)) then 7
 else bif decide (x.Kind<1)||decide (9<x.Kind)||decide (x.Branch<1)||decide (4<x.Branch) then 1
 else bif decide (x.Until<0)||decide (109572<x.Until) then 2
 else bif x.Name==[]||!(vld x.Name)||!(cln x.Name==x.Name) then 3
 else bif decide (200<(x.Name.length:Int)) then 4 else 0
def zei (l:List Patron):Int:=bif decide (32<(l.length:Int)) then 13 else zb2 (zeh l) 0 l
theorem zyj {l:List Patron} (hl:l.length<1000000000) (hn:∀x∈l,x.Name.length<10000000):zah zjk (l,0,())=some (if zb2 (zeh l) 0 l==0 then .inl () else .inr (zb2 (zeh l) 0 l,())):=by
 have h:=zeo (step:=zjk) (fun i=>(l,(i:Int),())) l (zeh l) (.inl ()) (fun e=>.inr (e,())) hl
  (by simp only[zjk,dge,cond_false])
  (fun i x hx=>by
   have hi:=(List.getElem?_eq_some_iff.1 hx).1
   have hxm:=List.mem_of_getElem? hx
   have hv:=zagu (s:=x.Name) (by have:=hn x hxm;omega)
   have hc:=zaww (s:=x.Name) (by have:=hn x hxm;omega)
   unfold zeh
   simp only[zdm]
   rcases i with _|j
   ·simp -zeta only[zjk,dlt hi,zaq,hx,k_or,zb3,z18,cond_false,cond_true,zb6,zas (show 0<9223372036854775807 by omega),hv,hc]
    try rfl
   ·have hj:l[j]?=some l[j]:=List.getElem?_eq_getElem (by omega)
    simp -zeta only[zjk,dlt hi,zaq,hx,k_or,zb3,dpos,zg8 (show j<1000000000 by omega),hj,cond_false,cond_true,zb6,zas (show j+1<9223372036854775807 by omega),hv,hc]
    rfl)
 exact h
theorem zawv {l:List Patron} (hl:l.length<1000000000) (hn:∀x∈l,x.Name.length<10000000):qbo l=some (zei l):=by
 unfold qbo zei
 rw[zyj hl hn]
 generalize zb2 (zeh l) 0 l=e
 cases decide (32<(l.length:Int)) with
 |true=>rfl
 |false=>
  by_cases h:e=0
  ·subst h;rfl
  ·have h2:(e==0)=false:=by simpa using h
   simp only[h2,Bool.false_eq_true,if_false,cond_false]
def zg2 (l:List Loan) (i:Nat) (x:Loan):Int:=
 bif zb6 l i (fun y=>decide (x.Item≤y.Item)) then 7
 else bif decide (x.Item<1)||decide (9999<x.Item)||decide (x.Patron<1)||decide (9999<x.Patron)||decide (x.Out<0)||decide (109572<x.Out)||decide (x.Due<0)||decide (109572<x.Due)||decide (x.Due<x.Out)||decide (x.Renewals<0)||decide (10<x.Renewals) then 2 else 0
def zgn (l:List Loan):Int:=bif decide (64<(l.length:Int)) then 13 else zb2 (zg2 l) 0 l
theorem zyh {l:List Loan} (hl:l.length<1000000000):zah zji (l,0,())=some (if zb2 (zg2 l) 0 l==0 then .inl () else .inr (zb2 (zg2 l) 0 l,())):=by
 have h:=zeo (step:=zji) (fun i=>(l,(i:Int),())) l (zg2 l) (.inl ()) (fun e=>.inr (e,())) hl
  (by simp only[zji,dge,cond_false])
  (fun i x hx=>by
   have hi:=(List.getElem?_eq_some_iff.1 hx).1
   have hxm:=List.mem_of_getElem? hx
   unfold zg2
   simp only[zdm]
   rcases i with _|j
   ·simp -zeta only[zji,dlt hi,zaq,hx,k_or,zb3,z18,cond_false,cond_true,zb6,zas (show 0<9223372036854775807 by omega)]
    try rfl
   ·have hj:l[j]?=some l[j]:=List.getElem?_eq_getElem (by omega)
    simp -zeta only[zji,dlt hi,zaq,hx,k_or,zb3,dpos,zg8 (show j<1000000000 by omega),hj,cond_false,cond_true,zb6,zas (show j+1<9223372036854775807 by omega)]
    rfl)
 exact h
theorem zawt {l:List Loan} (hl:l.length<1000000000):qbm l=some (zgn l):=by
 unfold qbm zgn
 rw[zyh hl]
 generalize zb2 (zg2 l) 0 l=e
 cases decide (64<(l.length:Int)) with
 |true=>rfl
 |false=>
  by_cases h:e=0
  ·subst h;rfl
  ·have h2:(e==0)=false:=by simpa using h
   simp only[h2,Bool.false_eq_true,if_false,cond_false]
def zbo (h:Hold):Int:=
 bif decide (h.ID<1)||decide (99999<h.ID)||!(rng 1 9999 h.Patron)||!(rng 1 9999 h.Record)||!(h.Item==0)&&!(rng 1 9999 h.Item)||decide (h.Pickup<1)||decide (4<h.Pickup)||!(rng 0 109572 h.Placed)||!(h.Got==0)&&!(rng 1 9999 h.Got)||!(rng 0 109572 h.Until)||!(rng 0 109572 h.Asleep)||decide (h.Rank<0)||decide (9<h.Rank) then 2
 else bif decide (h.State<1)||decide (3<h.State) then 1
 else bif !((decide (0<h.Got))==(!(h.State==1)))||!((decide (0<h.Until))==(h.State==3)) then 12 else 0
theorem zag4 (h:Hold):qe1 h=some (zbo h):=by
 unfold qe1 zbo
 simp -zeta only[k_or,zb3,zaw0,zaw4,←zcl]
 try rfl
def zcr (l:List Hold) (i:Nat) (x:Hold):Int:=
 bif zb6 l i (fun y=>decide (x.ID≤y.ID)) then 7 else bif !(zbo x==0) then zbo x else 0
theorem z44 {l:List Hold} (hl:l.length<1000000000):zah zsi (l,0,())=some (if zb2 (zcr l) 0 l==0 then .inl (l,()) else .inr (zb2 (zcr l) 0 l,())):=by
 have h:=zeo (step:=zsi) (fun i=>(l,(i:Int),())) l (zcr l) (.inl (l,())) (fun e=>.inr (e,())) hl
  (by simp only[zsi,dge,cond_false])
  (fun i x hx=>by
   have hi:=(List.getElem?_eq_some_iff.1 hx).1
   have hxm:=List.mem_of_getElem? hx
   have hs:∀(a:List Hold×Int×Unit) (g:Int→((List Hold×Unit)⊕(Int×Unit))),(bif !(zbo x==0) then zhc a g (zbo x) else zhc a g 0)=bif !(zbo x==0) then some (.inr (g (zbo x))) else some (.inl a):=fun a g=>by
    unfold zhc
    cases zbo x==0<;>rfl
   unfold zcr
   simp only[zdm,hs]
   rcases i with _|j
   ·simp -zeta only[zsi,dlt hi,zaq,hx,k_or,zb3,z18,cond_false,cond_true,zb6,zas (show 0<9223372036854775807 by omega),zag4]
    try rfl
   ·have hj:l[j]?=some l[j]:=List.getElem?_eq_getElem (by omega)
    simp -zeta only[zsi,dlt hi,zaq,hx,k_or,zb3,dpos,zg8 (show j<1000000000 by omega),hj,cond_false,cond_true,zb6,zas (show j+1<9223372036854775807 by omega),zag4]
    rfl)
 exact h
def zee (x y:Hold):Bool:=x.Patron==y.Patron&&x.Record==y.Record||decide (0<x.Got)&&x.Got==y.Got
theorem zym {l:List Hold} {i:Nat} {x:Hold} (hl:l.length<1000000000) (hx:l[i]?=some x):zah zjn (l,(i:Int),0,())=some (bif (l.take i).all (fun y=>!(zee x y)) then .inl (l,(i:Int),()) else .inr (7,())):=by
 have hi:=(List.getElem?_eq_some_iff.1 hx).1
 have h:=za2 (step:=zjn) (fun k=>(l,(i:Int),(k:Int),())) (l.take i) (fun _ y=>!(zee x y)) (.inr (7,())) (.inl (l,(i:Int),())) (by rw[List.length_take];omega)
  (by rw[List.length_take,Nat.min_eq_left (by omega)];simp only[zjn,dge,cond_false])
  (fun k y hy=>by
   have hk:=(List.getElem?_eq_some_iff.1 hy).1
   rw[List.length_take]at hk
   have hy2:l[k]?=some y:=by rw[←hy,List.getElem?_take_of_lt (by omega)]
   simp -zeta only[zjn,dlt (show k<i by omega),zaq,hx,hy2,k_or,zb3,cond_true,zas (show k<9223372036854775807 by omega)]
   dsimp only
   unfold zee
   cases (x.Patron==y.Patron&&x.Record==y.Record||decide (0<x.Got)&&x.Got==y.Got)<;>rfl)
 rw[show zah zjn (l,(i:Int),0,())=_ from h,zbj]
def zg0 (l:List Hold):Bool:=zcj (fun i x=>(l.take i).all (fun y=>!(zee x y))) 0 l
theorem zyl {l:List Hold} (hl:l.length<1000000000):zah zlz (l,0,())=some (bif zg0 l then .inl () else .inr (7,())):=by
 have h:=za2 (step:=zlz) (fun i=>(l,(i:Int),())) l (fun i x=>(l.take i).all (fun y=>!(zee x y))) (.inr (7,())) (.inl ()) hl
  (by simp only[zlz,dge,cond_false])
  (fun i x hx=>by
   have hi:=(List.getElem?_eq_some_iff.1 hx).1
   simp only[zlz,dlt hi,cond_true,zym hl hx]
   cases (l.take i).all (fun y=>!(zee x y)) with
   |true=>simp only[cond_true,zas (show i<9223372036854775807 by omega)]
   |false=>rfl)
 exact h
def zdc (l:List Hold):Int:=bif decide (64<(l.length:Int)) then 13 else bif zb2 (zcr l) 0 l==0 then (bif zg0 l then 0 else 7) else zb2 (zcr l) 0 l
theorem zayt {l:List Hold} (hl:l.length<1000000000):qo l=some (zdc l):=by
 unfold qo zdc
 rw[z44 hl]
 cases decide (64<(l.length:Int)) with
 |true=>rfl
 |false=>
  by_cases h:zb2 (zcr l) 0 l=0
  ·simp only[h,beq_self_eq_true,if_true,cond_false,cond_true,zyl hl]
   cases zg0 l<;>rfl
  ·have:(zb2 (zcr l) 0 l==0)=false:=by simpa using h
   simp only[this,Bool.false_eq_true,if_false,cond_false]
def zl5 (r:Rule):Bool:=rng 0 9 r.Patron&&rng 0 9 r.Item&&rng 0 4 r.Branch&&(rng 0 365 r.Days&&rng 0 10 r.Renewals&&rng 0 99 r.Loans)&&(rng 0 1000 r.Fine&&rng 0 30 r.Grace&&rng 0 100000000 r.MaxFine)&&rng 1 60 r.Shelf&&rng 1 60 r.Recall&&rng 0 109572 r.Fixed&&rng 0 9 r.Rank
theorem zaw5 (r:Rule):qev r=some (zl5 r):=by
 unfold qev zl5
 simp -zeta only[k_or,zb3,zawn]
 try rfl
def zgq (x y:Rule):Bool:=x.Patron==y.Patron&&x.Item==y.Item&&x.Branch==y.Branch
def zfz (l:List Rule) (i:Nat) (x:Rule):Int:=bif !(zl5 x) then 2 else bif (l.take i).all (fun y=>!(zgq y x)) then 0 else 7
theorem z48 {l:List Rule} {i:Nat} {x:Rule} (hl:l.length<1000000000) (hx:l[i]?=some x):zah zsj (l,(i:Int),0,())=some (bif (l.take i).all (fun y=>!(zgq y x)) then .inl (l,(i:Int),()) else .inr (7,())):=by
 have hi:=(List.getElem?_eq_some_iff.1 hx).1
 have h:=za2 (step:=zsj) (fun k=>(l,(i:Int),(k:Int),())) (l.take i) (fun _ y=>!(zgq y x)) (.inr (7,())) (.inl (l,(i:Int),())) (by rw[List.length_take];omega)
  (by rw[List.length_take,Nat.min_eq_left (by omega)];simp only[zsj,dge,cond_false])
  (fun k y hy=>by
   have hk:=(List.getElem?_eq_some_iff.1 hy).1
   rw[List.length_take]at hk
   have hy2:l[k]?=some y:=by rw[←hy,List.getElem?_take_of_lt (by omega)]
   simp -zeta only[zsj,dlt (show k<i by omega),zaq,hx,hy2,k_or,zb3,cond_true,zas (show k<9223372036854775807 by omega)]
   dsimp only
   unfold zgq
   cases (y.Patron==x.Patron&&y.Item==x.Item&&y.Branch==x.Branch)<;>rfl)
 rw[show zah zsj (l,(i:Int),0,())=_ from h,zbj]
theorem z47 {l:List Rule} (hl:l.length<1000000000):zah zyp (l,0,())=some (if zb2 (zfz l) 0 l==0 then .inl () else .inr (zb2 (zfz l) 0 l,())):=by
 have h:=zeo (step:=zyp) (fun i=>(l,(i:Int),())) l (zfz l) (.inl ()) (fun e=>.inr (e,())) hl
  (by simp only[zyp,dge,cond_false])
  (fun i x hx=>by
   have hi:=(List.getElem?_eq_some_iff.1 hx).1
   unfold zfz
   simp only[zdm,zyp,dlt hi,zaq,hx,cond_true,zaw5,z48 hl hx]
   cases zl5 x with
   |false=>rfl
   |true=>
    simp only[Bool.not_true,cond_false]
    cases (l.take i).all (fun y=>!(zgq y x)) with
    |true=>simp only[cond_true,zas (show i<9223372036854775807 by omega)];rfl
    |false=>rfl)
 exact h
def zfk (l:List Rule):Int:=bif decide (32<(l.length:Int)) then 13 else zb2 (zfz l) 0 l
theorem zayv {l:List Rule} (hl:l.length<1000000000):qs l=some (zfk l):=by
 unfold qs zfk
 rw[z47 hl]
 generalize zb2 (zfz l) 0 l=e
 cases decide (32<(l.length:Int)) with
 |true=>rfl
 |false=>
  by_cases h:e=0
  ·subst h;rfl
  ·have h2:(e==0)=false:=by simpa using h
   simp only[h2,Bool.false_eq_true,if_false,cond_false]
def incr (l:List Int):Bool:=zcj (fun i x=>!(zb6 l i (fun y=>decide (x≤y)))) 0 l
theorem zqy {X:Type} {p:Nat→X→Bool}:∀{l:List X} {i:Nat},zcj p (i+1) l=zcj (fun i=>p (i+1)) i l:=by
 intro l
 induction l with
 |nil=>intros;rfl
 |cons x l ih=>intro i;simp only[zcj];rw[ih]
theorem z2p (l:List Int):incr l=zcj (fun i x=>!(zb6 l (i+1) (fun y=>decide (x≤y)))) 0 l.tail:=by
 cases l with
 |nil=>rfl
 |cons x l=>
  unfold incr
  simp only[zcj,List.tail_cons]
  rw[zqy]
  try rfl
def zb5 (c:Calendar):Int:=
 bif decide (c.Week<0)||decide (126<c.Week) then 1
 else bif decide (64<(c.Closed.length:Int)) then 13
 else bif c.Closed.all (fun x=>!(decide (x<0)||decide (109572<x))) then (bif incr c.Closed then 0 else 7) else 2
theorem zyf {c:Calendar} (hl:c.Closed.length<1000000000):zah zje (0,c,())=some (bif c.Closed.all (fun x=>!(decide (x<0)||decide (109572<x))) then .inl (c,()) else .inr (2,())):=by
 have h:=za2 (step:=zje) (fun i=>((i:Int),c,())) c.Closed (fun _ x=>!(decide (x<0)||decide (109572<x))) (.inr (2,())) (.inl (c,())) hl
  (by simp only[zje,dge,cond_false])
  (fun i x hx=>by
   have hi:=(List.getElem?_eq_some_iff.1 hx).1
   simp -zeta only[zje,dlt hi,zaq,hx,k_or,zb3,cond_true,zas (show i<9223372036854775807 by omega)]
   cases (decide (x<0)||decide (109572<x))<;>rfl)
 rw[show zah zje (0,c,())=_ from h,zbj]
theorem zsf {c:Calendar} (hl:c.Closed.length<1000000000):zah zfw (1,c,())=some (bif incr c.Closed then .inl () else .inr (7,())):=by
 have h:=za2 (step:=zfw) (fun i=>(((i+1:Nat):Int),c,())) c.Closed.tail (fun i x=>!(zb6 c.Closed (i+1) (fun y=>decide (x≤y)))) (.inr (7,())) (.inl ()) (by rw[List.length_tail];omega)
  (by
   rw[List.length_tail]
   have:decide (((c.Closed.length-1+1:Nat):Int)<(c.Closed.length:Int))=false:=by rw[decide_eq_false_iff_not];omega
   simp only[zfw,this,cond_false])
  (fun i x hx=>by
   rw[List.getElem?_tail]at hx
   have hi:=(List.getElem?_eq_some_iff.1 hx).1
   have hj:c.Closed[i]?=some c.Closed[i]:=List.getElem?_eq_getElem (by omega)
   simp -zeta only[zfw,dlt hi,zaq,hx,cond_true,zg8 (show i<1000000000 by omega),hj,zb6,zas (show i+1<9223372036854775807 by omega)]
   cases decide (x≤c.Closed[i])<;>rfl)
 rw[show zah zfw (1,c,())=_ from h,z2p]
theorem zv6 {c:Calendar} (hl:c.Closed.length<1000000000):qaa c=some (zb5 c):=by
 unfold qaa zb5
 simp -zeta only[k_or]
 dsimp only
 rw[zyf hl]
 cases (decide (c.Week<0)||decide (126<c.Week)) with
 |true=>rfl
 |false=>
  cases decide (64<(c.Closed.length:Int)) with
  |true=>rfl
  |false=>
   cases c.Closed.all (fun x=>!(decide (x<0)||decide (109572<x))) with
   |false=>rfl
   |true=>
    simp only[cond_false,cond_true,zsf hl]
    cases incr c.Closed<;>rfl
end Go.Proofs.YtpaidiaknfhclaaGreatDoor
namespace Go.Proofs.YtpaidiaknfhclaaGreatDoor
open Ev
open Go (IntKind)
def zaw8 (state:Int):Bool:=(state==4||state==5||state==8||state==9||state==10)
theorem zjl (state:Int):qfd state=some (zaw8 state):=by
 unfold qfd
 try simp -zeta only[k_or,zb3,zm6,zcl,cond_true,cond_false]
 try dsimp only
 try simp only[zcl]
 try rfl
def z42 (c:Custody):Bool:=(bif decide (c.State<1)||decide (12<c.State)||decide (c.Branch<1)||decide (4<c.Branch) then false
 else
  bif c.State==6 then
   decide (0≤c.Who)&&decide (c.Who≤9999)&&decide (1≤c.To)&&decide (c.To≤4)&&!c.To==c.Branch
  else
   bif !c.To==0 then false
   else bif zaw8 c.State then decide (1≤c.Who)&&decide (c.Who≤9999) else c.Who==0)
theorem zjm (c:Custody):qfj c=some (z42 c):=by
 unfold qfj
 try simp -zeta only[k_or,zb3,zm6,zcl,cond_true,cond_false,zjl]
 try dsimp only
 try simp only[zcl]
 try rfl
def z41 (m:Move):Bool:=(decide (0≤m.Day)&&decide (m.Day≤109572)&&decide (1≤m.Item)&&decide (m.Item≤9999)&&
 decide (1≤m.Kind)&&
 decide (m.Kind≤15)&&
 decide (1≤m.Branch)&&
 decide (m.Branch≤4)&&
 decide (0≤m.Who)&&
 decide (m.Who≤9999))
theorem zly (m:Move):qej m=some (z41 m):=by
 unfold qej
 try simp -zeta only[k_or,zb3,zm6,zcl,cond_true,cond_false,zjl,zjm]
 try dsimp only
 try simp only[zcl]
 try rfl
def z4z (kind:Int):(List Int):=(bif kind==1 then [1]
 else
  bif kind==2 then [2,5]
  else
   bif kind==3 then [3,5]
   else
    bif kind==4 then [4,8,9,10]
    else
     bif kind==5||kind==8 then [2,3]
     else
      bif kind==6 then [2,3,5]
      else
       bif kind==7 then [6]
       else
        bif kind==9 then [7]
        else
         bif kind==10 then [3]
         else
          bif kind==11 then [4]
          else
           bif kind==12 then [4,9]
           else
            bif kind==13 then [2,3,5,6,7]
            else bif kind==14 then [11] else bif kind==15 then [1,2,3,11,10] else [])
theorem zqi (kind:Int):qe0 kind=some (z4z kind):=by
 unfold qe0
 try simp -zeta only[k_or,zb3,zm6,zcl,cond_true,cond_false,zjl,zjm,zly]
 try dsimp only
 try simp only[zcl]
 try rfl
def zej (kind:Int):Int:=(bif kind==1||(kind==4||(kind==7||(kind==9||kind==14))) then 2
 else
  bif kind==2 then 3
  else
   bif kind==3 then 4
   else
    bif kind==5 then 5
    else
     bif kind==6 then 6
     else
      bif kind==8 then 7
      else
       bif kind==10 then 8
       else bif kind==11 then 9 else bif kind==12 then 10 else bif kind==13 then 11 else 12)
theorem zv7 (kind:Int):qfi kind=some (zej kind):=by
 unfold qfi
 try simp -zeta only[k_or,zb3,zm6,zcl,cond_true,cond_false,zjl,zjm,zly,zqi]
 try dsimp only
 try simp only[zcl]
 try rfl
def zaph (c:Custody) (m:Move):Bool:=(bif m.Kind==1||(m.Kind==4||(m.Kind==9||m.Kind==14)) then m.Who==0
 else
  bif m.Kind==7 then m.Who==0&&m.Branch==c.To
  else
   bif m.Kind==6 then !m.Branch==c.Branch
   else
    bif m.Kind==3||(m.Kind==5||m.Kind==10) then m.Branch==c.Branch&&decide (1≤m.Who)
    else m.Branch==c.Branch&&m.Who==0)
theorem z43 (c:Custody) (m:Move):qfm c m=some (zaph c m):=by
 unfold qfm
 try simp -zeta only[k_or,zb3,zm6,zcl,cond_true,cond_false,zjl,zjm,zly,zqi,zv7]
 try dsimp only
 try simp only[zcl]
 try rfl
def zsh (branch:Int):Custody:={State:=1,Branch:=branch,Who:=0,To:=0}
theorem zag5 (branch:Int):qe2 branch=some (zsh branch):=by
 unfold qe2
 try simp -zeta only[k_or,zb3,zm6,zcl,cond_true,cond_false,zjl,zjm,zly,zqi,zv7,z43]
 try dsimp only
 try simp only[zcl]
 try rfl
def zqj (u:Custody):Bool:=(u.State==4||u.State==9||u.State==10)
theorem zag7 (u:Custody):qee u=some (zqj u):=by
 unfold qee
 try simp -zeta only[k_or,zb3,zm6,zcl,cond_true,cond_false,zjl,zjm,zly,zqi,zv7,z43,zag5]
 try dsimp only
 try simp only[zcl]
 try rfl
end Go.Proofs.YtpaidiaknfhclaaGreatDoor
