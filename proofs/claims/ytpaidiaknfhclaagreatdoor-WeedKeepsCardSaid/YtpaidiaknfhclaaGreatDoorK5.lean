/- WeedKeeps: a part of the proof of the given statement, which is proved without conditions. -/
import Derived.Test.YtpaidiaknfhclaaGreatDoorK4
import Derived.Lib.TrimUEq
import Derived.Lib.ValidU
import Derived.Lib.FieldsP
import Derived.Lib.Join
import Derived.Shelf.Strings.OnBuilder
import Derived.Shelf.Strings.FieldsFuncAny
import Derived.Shelf.Unicode.ValidAny
import Derived.Shelf.SlSortCmp.WholeK
import Derived.Shelf.SlicesG.Cmp
import Derived.Ground.SlsfProg
import Derived.Ground.SlgcProg
import Derived.Ground.NamesProg
import Derived.Ground.Names2Prog
import Derived.Test.YtpaidiaknfhclaaGreatDoorProg
import Derived.WalkKit
import Derived.WalkMore
import Derived.Below
import Derived.Laws.RangeString
import Derived.Laws.Runes
import Derived.LoopTactic
import Derived.Deep.LoopGhost
import Derived.Test.YtpaidiaknfhclaaGreatDoorTie
import Derived.Tactics
import Derived.Tactics2
import Derived.WalkSpells
import Derived.StillTactics
import Derived.Laws.Pointers
import Derived.Deep.RegionHeld3
import Derived.KernelRfl
import Derived.Shelf.SlSortCmp.NoneTotal
import Derived.Laws.BitsLemmas
set_option linter.all false
namespace Go.Proofs.YtpaidiaknfhclaaGreatDoor.Ev
open Go
section
variable {κ:Type} {El:κ→Type} {S:Sg κ El} {P:Program}
theorem zbe {α:Type} {L new:List α} {off j:Nat} (h:off+new.length≤L.length):(Go.splice L off new)[j]?=if off≤j∧j<off+new.length then new[j-off]? else L[j]?:=by
 unfold Go.splice
 rw[←List.append_assoc]
 exact zpy L new off j h
theorem zf5 (sgk:SgOk S) {w w':World} {I J I':Nat→Nat→Prop} {v:Value} {d:D κ El} (h:DR S w I J v d) (hp:zgc d=true) (H:∀b o,I b o→w'.cell? ⟨b,o,none⟩=w.cell? ⟨b,o,none⟩∧I' b o):DR S w' I' I' v d:=
 (h.relendL sgk (J':=I) (zdk hp)).mono H H
theorem zdv (sgk:SgOk S) {k:κ} {x:El k} {j:Nat} {d:D κ El} (h:(S.enc k x)[j]?=some d):zgc d=true:=sgk.plain k x d (List.mem_of_getElem? h)
theorem z9e {w:World} {I J:Nat→Nat→Prop} {v:Value} {d:D κ El} (h:DR S w I J v d) (hp:zgc d=true):v.oneCell'=true:=
 (h.lone (by cases d<;>simp_all[zgc,solid])).one
structure InsOk (P:Program) (f z E:Nat):Prop where
 shift:∀{w:World} {b n c i vb vo vc:Nat} {L vs:List Value} {t:TypeId},i<n→n+1≤c→n+1≤1073741824→vb≠b→w.heap[b]?=some (.cells L.toArray t (0,0))→L.length=c*z→vs.length=z→
  (∀j v,vs[j]?=some v→w.cell? ⟨vb,vo+j,none⟩=some v)→(∀v∈(L.drop (i*z)).take ((n-i)*z),v.oneCell'=true)→(∀v∈vs,v.oneCell'=true)→
  Calls P f #[.slice (some ⟨b,0,none⟩) n c,.int .i64 i,.slice (some ⟨vb,vo,none⟩) 1 vc] w fun e w'=>
   e=.returned (.slice (some ⟨b,0,none⟩) (n+1) c)∧w'=(w.drew.setRow b (Go.splice L ((i+1)*z) ((L.drop (i*z)).take ((n-i)*z))).toArray).setRow b (Go.splice (Go.splice L ((i+1)*z) ((L.drop (i*z)).take ((n-i)*z))) (i*z) vs).toArray
 room:∀{w:World} {b n c vb vo vc:Nat} {L vs:List Value} {t:TypeId},n+1≤c→n+1≤1073741824→w.heap[b]?=some (.cells L.toArray t (0,0))→L.length=c*z→vs.length=z→
  (∀j v,vs[j]?=some v→w.cell? ⟨vb,vo+j,none⟩=some v)→(∀v∈vs,v.oneCell'=true)→
  Calls P f #[.slice (some ⟨b,0,none⟩) n c,.int .i64 n,.slice (some ⟨vb,vo,none⟩) 1 vc] w fun e w'=>
   e=.returned (.slice (some ⟨b,0,none⟩) (n+1) c)∧w'=w.setRow b (Go.splice L (n*z) vs).toArray
 new:∀{w:World} {base:Option Addr} {n c vb vo vc:Nat} {olds vs:List Value},n≤c→c<n+1→n+1≤1073741824→vs.length=z→(base=none→n=0)→olds.length=n*z→
  (∀a,base=some a→∀j v,olds[j]?=some v→w.cell? (a.add j)=some v)→(∀j v,vs[j]?=some v→w.cell? ⟨vb,vo+j,none⟩=some v)→
  Calls P f #[.slice base n c,.int .i64 n,.slice (some ⟨vb,vo,none⟩) 1 vc] w fun e w'=>
   ∃cap zs,e=.returned (.slice (some ⟨w.heap.size,0,none⟩) (n+1) cap)∧w'=w.drew.alloc (.cells (olds++(vs++zs)).toArray E)∧n+1≤cap∧zs.length=(cap-(n+1))*z
 grow:∀{w:World} {b n c i vb vo vc:Nat} {L vs:List Value} {t:TypeId},i<n→n≤c→c<n+1→n+1≤1073741824→vb≠b→w.heap[b]?=some (.cells L.toArray t (0,0))→L.length=c*z→vs.length=z→
  (∀j v,vs[j]?=some v→w.cell? ⟨vb,vo+j,none⟩=some v)→(∀v∈(L.drop (i*z)).take ((n-i)*z),v.oneCell'=true)→(∀v∈vs,v.oneCell'=true)→
  Calls P f #[.slice (some ⟨b,0,none⟩) n c,.int .i64 i,.slice (some ⟨vb,vo,none⟩) 1 vc] w fun e w'=>
   ∃cap row,e=.returned (.slice (some ⟨w.heap.size,0,none⟩) (n+1) cap)∧n+1≤cap∧row.length=cap*z∧row.take (i*z)=L.take (i*z)∧
    w'.heap=(w.heap.push (.cells (Go.splice (Go.splice row (i*z) vs) ((i+1)*z) ((L.drop (i*z)).take ((n-i)*z))).toArray E))∧w'.os=w.os∧w'.output=w.output∧w'.tape=w.tape
theorem zke {k:κ} {xs:List (El k)} {y:El k} {i:Nat} {L vs M:List Value} {Q:Value→D κ El→Prop} (sgk:SgOk S) (hi:i≤xs.length)
 (h1:∀(i:Nat) (hi:i<xs.length) (j:Nat) (d:D κ El),(S.enc k xs[i])[j]?=some d→∃v,L[i*S.sz k+j]?=some v∧Q v d)
 (h2:∀(j:Nat) (d:D κ El),(S.enc k y)[j]?=some d→∃v,vs[j]?=some v∧Q v d)
 (m1:∀p:Nat,p<i*S.sz k→M[p]?=L[p]?) (m2:∀j:Nat,j<S.sz k→M[i*S.sz k+j]?=vs[j]?) (m3:∀p:Nat,i*S.sz k≤p→p<xs.length*S.sz k→M[p+S.sz k]?=L[p]?) :
 ∀(i':Nat) (hi':i'<(xs.take i++y::xs.drop i).length) (j:Nat) (d:D κ El),(S.enc k (xs.take i++y::xs.drop i)[i'])[j]?=some d→∃v,M[i'*S.sz k+j]?=some v∧Q v d:=by
 intro i' hi' j d hj
 have hj':j<S.sz k:=by have:=(List.getElem?_eq_some_iff.1 hj).1;rwa [sgk.sz]at this
 have hl:(xs.take i).length=i:=by simp;omega
 by_cases hlt:i'<i
 ·have e:(xs.take i++y::xs.drop i)[i']=xs[i']'(by omega):=by rw[List.getElem_append_left (by omega)];simp
  rw[e]at hj
  obtain ⟨v,a,b⟩:=h1 i' (by omega) j d hj
  exact ⟨v,by rw[m1 _ (zdo hj' hlt)];exact a,b⟩
 ·by_cases heq:i'=i
  ·subst heq
   have e:(xs.take i'++y::xs.drop i')[i']=y:=by rw[List.getElem_append_right (by omega)];simp[hl]
   rw[e]at hj
   obtain ⟨v,a,b⟩:=h2 j d hj
   exact ⟨v,by rw[m2 j hj'];exact a,b⟩
  ·obtain ⟨p,rfl⟩:∃p,i'=p+1:=⟨i'-1,by omega⟩
   have hp:p<xs.length:=by simp at hi';omega
   have e:(xs.take i++y::xs.drop i)[p+1]=xs[p]:=by
    rw[List.getElem_append_right (by omega)]
    have e2:p+1-(xs.take i).length=(p-i)+1:=by omega
    simp only[e2,List.getElem_cons_succ,List.getElem_drop]
    congr 1;omega
   rw[e]at hj
   obtain ⟨v,a,b⟩:=h1 p hp j d hj
   refine ⟨v,?_,b⟩
   have:=m3 (p*S.sz k+j) (by have:=Nat.mul_le_mul_right (S.sz k) (show i≤p by omega);omega) (zdo hj' hp)
   rw[←a,←this]
   congr 1
   rw[Nat.add_mul];omega
theorem zapd (sgk:SgOk S) {f E:Nat} {fn:Func} {code:Code} (fok:FnOk P f fn code) (hmd:S.md f=.cons) {k:κ} (W:InsOk P f (S.sz k) E)
 {xs:List (El k)} {y:El k} {i:Nat} {ds:List (D κ El)} (hi:i≤xs.length) (hlim:xs.length+1≤1073741824) (hwl:WL ds [.lst k xs,.int .i64 (i:Int),.lst k [y]]) :
 Con P S f ds [] (.lst k (xs.take i++y::xs.drop i)) []:=by
 unfold Con
 rw[hmd]
 intro _ k' xs' ds0 hds k2 xs2 hd w I J mb v0 vs hp ho ha
 subst hds
 cases hd
 have hw0:=hwl.2 0 _ _ rfl rfl
 cases hw0 with
 |leaf _ _ hw0=>
 cases hw0
 have ha:=WL.args (cs':=[.int .i64 (i:Int),.lst k [y]]) ⟨by simpa using hwl.1,fun q d d' h1 h2=>hwl.2 (q+1) d d' (by simpa using h1) (by simpa using h2)⟩ ha
 obtain ⟨base,c,rfl,hnc,hz⟩:=ho
 obtain ⟨hvs,hav⟩:=ha
 obtain ⟨u1,u2,rfl⟩:∃u1 u2,vs = #[u1,u2]:=by
  simp at hvs
  exact ⟨vs[0],vs[1],by
   apply Array.ext
   ·simp[hvs]
   ·intro j h1 h2;simp at h2;rcases (show j=0∨j=1 by omega) with rfl|rfl<;>rfl⟩
 have hu1:u1=.int .i64 i:=(hav 0 u1 _ rfl rfl).int_inv
 have hu2:=hav 1 u2 _ rfl rfl
 subst hu1
 obtain ⟨n,hn⟩:∃n,n=xs.length:=⟨_,rfl⟩
 have hpos:=sgk.pos k
 cases hu2 with
 |lst vb vo vc _ _ cv hvcap hvc hvv=>
 obtain ⟨us,hus⟩:∃us,us=(List.range (S.sz k)).map (cv 0):=⟨_,rfl⟩
 have husl:us.length=S.sz k:=by rw[hus];simp
 have hug:∀j,j<S.sz k→us[j]?=some (cv 0 j):=fun j hj=>by rw[hus];simp[hj]
 have huc:∀j v,us[j]?=some v→w.cell? ⟨vb,vo+j,none⟩=some v:=fun j v hj=>by
  have hlt:=(List.getElem?_eq_some_iff.1 hj).1
  rw[husl]at hlt
  rw[hug j hlt]at hj;cases hj
  have:=(hvc 0 j (by simp) hlt).1
  simpa using this
 have huI:∀j,j<S.sz k→I vb (vo+j):=fun j hlt=>by have:=(hvc 0 j (by simp) hlt).2;simpa using this
 have hud:∀j d,(S.enc k y)[j]?=some d→∃v,us[j]?=some v∧DR S w I J v d:=fun j d hj=>by
  have hlt:=(List.getElem?_eq_some_iff.1 hj).1
  rw[sgk.sz]at hlt
  exact ⟨_,hug j hlt,hvv 0 (by simp) j d hj⟩
 have hu1c:∀v∈us,v.oneCell'=true:=fun v hv=>by
  obtain ⟨j,hj⟩:=List.getElem?_of_mem hv
  have hlt:=(List.getElem?_eq_some_iff.1 hj).1
  have hlt':j<(S.enc k y).length:=by rw[sgk.sz,←husl];exact hlt
  obtain ⟨v',e1,e2⟩:=hud j _ (List.getElem?_eq_getElem hlt')
  rw[hj]at e1;cases e1
  exact z9e e2 (sgk.plain k y _ (List.getElem_mem hlt'))
 have hIw:∀b o,I b o→b<w.heap.size:=hp.ib
 have hres:(xs.take i++y::xs.drop i).length=n+1:=by simp;omega
 unfold zdc
 rw[MuLone.run_callFunc_enter fok.at_ fok.name fok.body _ w]
 simp only
 show Calls P f #[.slice base xs.length c,.int .i64 (i:Int),.slice (some ⟨vb,vo,none⟩) 1 vc] w _
 rcases hz with ⟨rfl,rfl⟩|⟨b,vals,t,rfl,rfl,hb,hvsz,hel⟩
 ·have hx0:xs=[]:=List.eq_nil_of_length_eq_zero (by omega)
  subst hx0
  have hi0:i=0:=by simpa using hi
  subst hi0
  have hnew:=W.new (w:=w) (base:=base) (n:=0) (c:=0) (vb:=vb) (vo:=vo) (vc:=vc) (olds:=[]) (vs:=us) (by omega) (by omega) (by omega) husl (fun _=>rfl) (by simp) (fun a _ j v hj=>by simp at hj) huc
  refine hnew.mono (fun e w' he=>?_)
  obtain ⟨cap,zs,rfl,rfl,hcap,hzl⟩:=he
  refine ⟨I,⟨by rw[World.size_alloc];show w.heap.size≤w.heap.size+1;omega,rfl,rfl,rfl,fun q hq _=>?_,fun _ _ h=>h,fun _ _ h=>.inl h,fun q o h=>by have:=hIw q o h;rw[World.size_alloc];show q<w.heap.size+1;omega⟩,
   some ⟨w.heap.size,0,none⟩,cap,by simp,by simp;omega,.inr ⟨w.heap.size,_,E,rfl,zdq w.drew _,?_,.inl (Nat.le_refl _),fun o h=>absurd (hIw _ _ h) (by omega),?_⟩⟩
  ·simp only[World.alloc];rw[Array.getElem?_push,if_neg (by show ¬q=w.heap.size;omega)];rfl
  ·simp[husl,hzl]
   obtain ⟨q,rfl⟩:∃q,cap=q+1:=⟨cap-1,by omega⟩
   rw[Nat.add_sub_cancel,Nat.add_mul];omega
  ·intro i' hi' j d hj
   have:=zke (L:=[]) (vs:=us) (M:=us++zs) (Q:=fun v d=>DR S (w.drew.alloc (.cells ([]++(us++zs)).toArray E)) I I v d) sgk (i:=0) (xs:=[]) (y:=y) (by simp) (fun i hi=>absurd hi (by simp))
    (fun j d hj=>by
     obtain ⟨v,a,b⟩:=hud j d hj
     exact ⟨v,a,zf5 sgk b (zdv sgk hj) (fun q o h=>⟨by
      have:=hIw q o h
      simp only[World.cell?,World.alloc];rw[Array.getElem?_push,if_neg (by show ¬q=w.heap.size;omega)];rfl,h⟩)⟩)
    (fun p hp=>absurd hp (by omega)) (fun j hj=>by rw[Nat.zero_mul,Nat.zero_add,List.getElem?_append_left (by omega)]) (fun p _ hp=>by simp at hp) i' hi' j d hj
   simpa using this
 ·have hbw:b<w.heap.size:=(Array.getElem?_eq_some_iff.1 hb).1
  have hbI:∀o,¬I b o:=fun o h=>(hp.jb b o (hp.ij b o h)).2 (by simp)
  have hne:vb≠b:=fun e=>by subst e;exact hbI _ (huI 0 hpos)
  obtain ⟨L,hL⟩:∃L,L=vals.toList:=⟨_,rfl⟩
  have hLa:vals=L.toArray:=by rw[hL]
  have hLl:L.length=c*S.sz k:=by rw[hL];simpa using hvsz
  rw[hLa]at hb
  have hel':∀i (hi:i<xs.length) j d,(S.enc k xs[i])[j]?=some d→∃v,L[i*S.sz k+j]?=some v∧DR S w I J v d:=fun i hi j d hj=>by
   obtain ⟨v,a,e⟩:=hel i hi j d hj
   exact ⟨v,by rw[hL];simpa using a,e⟩
  have hnL:n*S.sz k≤L.length:=by rw[hLl];exact Nat.mul_le_mul_right _ (by omega)
  have hone:∀v∈L.take (n*S.sz k),v.oneCell'=true:=fun v hv=>by
   obtain ⟨p,hp'⟩:=List.getElem?_of_mem hv
   have hlt:=(List.getElem?_eq_some_iff.1 hp').1
   simp only[List.length_take]at hlt
   have h1:p / S.sz k<n:=(Nat.div_lt_iff_lt_mul hpos).2 (by omega)
   have h2:=Nat.mod_lt p hpos
   have h3:p % S.sz k<(S.enc k (xs[p / S.sz k]'(by omega))).length:=by rw[sgk.sz];exact h2
   obtain ⟨v',a,e⟩:=hel' (p / S.sz k) (by omega) _ _ (List.getElem?_eq_getElem h3)
   rw[Nat.div_add_mod']at a
   rw[List.getElem?_take,if_pos (by omega),a]at hp'
   cases hp'
   exact z9e e (sgk.plain k _ _ (List.getElem_mem h3))
  have hC1:(L.drop (i*S.sz k)).take ((n-i)*S.sz k)=(L.take (n*S.sz k)).drop (i*S.sz k):=by
   rw[List.drop_take];congr 1;rw[Nat.sub_mul]
  have hone1:∀v∈(L.drop (i*S.sz k)).take ((n-i)*S.sz k),v.oneCell'=true:=fun v hv=>hone v (by rw[hC1]at hv;exact List.mem_of_mem_drop hv)
  have hin:i*S.sz k≤n*S.sz k:=Nat.mul_le_mul_right _ (by omega)
  have hi1:(i+1)*S.sz k=i*S.sz k+S.sz k:=by rw[Nat.add_mul,Nat.one_mul]
  have hn1:(n+1)*S.sz k=n*S.sz k+S.sz k:=by rw[Nat.add_mul,Nat.one_mul]
  obtain ⟨C1,hC⟩:∃C1,C1=(L.drop (i*S.sz k)).take ((n-i)*S.sz k):=⟨_,rfl⟩
  have hC1l:C1.length=n*S.sz k-i*S.sz k:=by rw[hC,hC1];simp;omega
  have hC1g:∀q,q<n*S.sz k-i*S.sz k→C1[q]?=L[i*S.sz k+q]?:=fun q hq=>by rw[hC,hC1,List.getElem?_drop,List.getElem?_take,if_pos (by omega)]
  have inpl:∀(M:List Value) (w':World),M.length=L.length→(w'=w.setRow b M.toArray∨∃M0:Array Value,w'=(w.drew.setRow b M0).setRow b M.toArray)→n+1≤c→
   (∀p:Nat,p<i*S.sz k→M[p]?=L[p]?)→(∀j:Nat,j<S.sz k→M[i*S.sz k+j]?=us[j]?)→(∀p:Nat,i*S.sz k≤p→p<xs.length*S.sz k→M[p+S.sz k]?=L[p]?)→
   ∃I',GrowM [b] w w' I I'∧NewO S w' I' w.heap.size [b] k (xs.take i++y::xs.drop i) (.slice (some ⟨b,0,none⟩) (n+1) c):=by
   intro M w' hMl hw' hroom m1 m2 m3
   have hheap:w'.heap[b]?=some (.cells M.toArray t (0,0)):=by
    rcases hw' with rfl|⟨M0,rfl⟩
    ·exact setRow_heap _ _ _ _ _ _ hb
    ·exact setRow_heap _ _ _ _ _ _ (setRow_heap w.drew _ _ _ _ _ hb)
   have hoth:∀q,q≠b→w'.heap[q]?=w.heap[q]?:=fun q hq=>by
    rcases hw' with rfl|⟨M0,rfl⟩
    ·exact setRow_other _ _ _ _ hq
    ·rw[setRow_other _ _ _ _ hq,setRow_other _ _ _ _ hq];rfl
   have hsz:w'.heap.size=w.heap.size:=by
    rcases hw' with rfl|⟨M0,rfl⟩<;>simp only[setRow_size]<;>rfl
   refine ⟨I,⟨by omega,by rcases hw' with rfl|⟨M0,rfl⟩<;>rfl,by rcases hw' with rfl|⟨M0,rfl⟩<;>rfl,by rcases hw' with rfl|⟨M0,rfl⟩<;>rfl,fun q hq hm=>hoth q (by simpa using hm),fun _ _ h=>h,fun _ _ h=>.inl h,fun q o h=>by have:=hIw q o h;omega⟩,
    some ⟨b,0,none⟩,c,by rw[hres],by omega,.inr ⟨b,_,t,rfl,hheap,by simp[hMl,hLl],.inr (by simp),hbI,?_⟩⟩
   intro i' hi' j d hj
   have:=zke (L:=L) (vs:=us) (M:=M) (Q:=fun v d=>DR S w' I I v d) sgk (by omega)
    (fun i hi j d hj=>by
     obtain ⟨v,a,e⟩:=hel' i hi j d hj
     exact ⟨v,a,zf5 sgk e (zdv sgk hj) (fun q o h=>⟨by simp only[World.cell?];rw[hoth q (fun e=>by subst e;exact hbI o h)],h⟩)⟩)
    (fun j d hj=>by
     obtain ⟨v,a,e⟩:=hud j d hj
     exact ⟨v,a,zf5 sgk e (zdv sgk hj) (fun q o h=>⟨by simp only[World.cell?];rw[hoth q (fun e=>by subst e;exact hbI o h)],h⟩)⟩) m1 m2 m3 i' hi' j d hj
   simpa using this
  have newb:∀(M:List Value) (cap:Nat) (w':World),M.length=cap*S.sz k→w'.heap=w.heap.push (.cells M.toArray E)→w'.os=w.os→w'.output=w.output→w'.tape=w.tape→n+1≤cap→
   (∀p:Nat,p<i*S.sz k→M[p]?=L[p]?)→(∀j:Nat,j<S.sz k→M[i*S.sz k+j]?=us[j]?)→(∀p:Nat,i*S.sz k≤p→p<xs.length*S.sz k→M[p+S.sz k]?=L[p]?)→
   ∃I',GrowM [b] w w' I I'∧NewO S w' I' w.heap.size [b] k (xs.take i++y::xs.drop i) (.slice (some ⟨w.heap.size,0,none⟩) (n+1) cap):=by
   intro M cap w' hMl hheap h1 h2 h3 hcap m1 m2 m3
   have hoth:∀q,q<w.heap.size→w'.heap[q]?=w.heap[q]?:=fun q hq=>by rw[hheap,Array.getElem?_push,if_neg (by omega)]
   refine ⟨I,⟨by rw[hheap];simp,h1,h2,h3,fun q hq _=>hoth q hq,fun _ _ h=>h,fun _ _ h=>.inl h,fun q o h=>by have:=hIw q o h;rw[hheap];simp;omega⟩,
    some ⟨w.heap.size,0,none⟩,cap,by rw[hres],by omega,.inr ⟨w.heap.size,_,E,rfl,by rw[hheap];exact Array.getElem?_push_size,by simp[hMl],.inl (Nat.le_refl _),fun o h=>absurd (hIw _ _ h) (by omega),?_⟩⟩
   intro i' hi' j d hj
   have:=zke (L:=L) (vs:=us) (M:=M) (Q:=fun v d=>DR S w' I I v d) sgk (by omega)
    (fun i hi j d hj=>by
     obtain ⟨v,a,e⟩:=hel' i hi j d hj
     exact ⟨v,a,zf5 sgk e (zdv sgk hj) (fun q o h=>⟨by simp only[World.cell?];rw[hoth q (hIw q o h)],h⟩)⟩)
    (fun j d hj=>by
     obtain ⟨v,a,e⟩:=hud j d hj
     exact ⟨v,a,zf5 sgk e (zdv sgk hj) (fun q o h=>⟨by simp only[World.cell?];rw[hoth q (hIw q o h)],h⟩)⟩) m1 m2 m3 i' hi' j d hj
   simpa using this
  rw[←hn]at hi hlim hnc ⊢
  by_cases hroom:n+1≤c
  ·have hn1c:(n+1)*S.sz k≤L.length:=by rw[hLl];exact Nat.mul_le_mul_right _ hroom
   by_cases hlt:i<n
   ·refine (W.shift (vc:=vc) hlt hroom hlim hne hb hLl husl huc hone1 hu1c).mono (fun e w' he=>?_)
    obtain ⟨rfl,rfl⟩:=he
    rw[←hC]
    have l1:(Go.splice L ((i+1)*S.sz k) C1).length=L.length:=length_splice _ _ _ (by omega)
    refine inpl _ _ ?_ (.inr ⟨_,rfl⟩) hroom ?_ ?_ ?_
    ·rw[length_splice _ _ _ (by omega),l1]
    ·intro p hp'
     rw[zbe (by omega),if_neg (by omega),zbe (by omega),if_neg (by omega)]
    ·intro j hj
     rw[zbe (by omega),if_pos (by omega)]
     congr 1;omega
    ·intro p h1 h2
     rw[←hn]at h2
     rw[zbe (by omega),if_neg (by omega),zbe (by omega),if_pos (by omega),hC1g _ (by omega)]
     congr 1;omega
   ·have hie:i=n:=by omega
    subst hie
    refine (W.room (vc:=vc) hroom hlim hb hLl husl huc hu1c).mono (fun e w' he=>?_)
    obtain ⟨rfl,rfl⟩:=he
    refine inpl _ _ (length_splice _ _ _ (by omega)) (.inl rfl) hroom ?_ ?_ ?_
    ·intro p hp'
     rw[zbe (by omega),if_neg (by omega)]
    ·intro j hj
     rw[zbe (by omega),if_pos (by omega)]
     congr 1;omega
    ·intro p h1 h2
     rw[←hn]at h2
     omega
  ·by_cases hlt:i<n
   ·refine (W.grow (vc:=vc) hlt hnc (by omega) hlim hne hb hLl husl huc hone1 hu1c).mono (fun e w' he=>?_)
    obtain ⟨cap,row,rfl,hcap,hrl,hrt,hheap,q1,q2,q3⟩:=he
    rw[←hC]at hheap
    have hrl':(n+1)*S.sz k≤row.length:=by rw[hrl];exact Nat.mul_le_mul_right _ hcap
    have l1:(Go.splice row (i*S.sz k) us).length=row.length:=length_splice _ _ _ (by omega)
    refine newb _ cap w' ?_ hheap q1 q2 q3 hcap ?_ ?_ ?_
    ·rw[length_splice _ _ _ (by omega),l1,hrl]
    ·intro p hp'
     rw[zbe (by omega),if_neg (by omega),zbe (by omega),if_neg (by omega)]
     have e1:(row.take (i*S.sz k))[p]?=row[p]?:=by rw[List.getElem?_take,if_pos hp']
     have e2:(L.take (i*S.sz k))[p]?=L[p]?:=by rw[List.getElem?_take,if_pos hp']
     rw[←e1,hrt,e2]
    ·intro j hj
     rw[zbe (by omega),if_neg (by omega),zbe (by omega),if_pos (by omega)]
     congr 1;omega
    ·intro p h1 h2
     rw[←hn]at h2
     rw[zbe (by omega),if_pos (by omega),hC1g _ (by omega)]
     congr 1;omega
   ·have hie:i=n:=by omega
    subst hie
    refine (W.new (base:=some ⟨b,0,none⟩) (vc:=vc) (olds:=L.take (i*S.sz k)) hnc (by omega) hlim husl (fun h=>by cases h) (by simp;omega) (fun a ha j v hj=>?_) huc).mono (fun e w' he=>?_)
    ·cases ha
     rw[List.getElem?_take]at hj
     split at hj
     ·rw[zbv,Nat.zero_add]
      simp only[World.cell?,hb]
      simpa using hj
     ·cases hj
    ·obtain ⟨cap,zs,rfl,rfl,hcap,hzl⟩:=he
     obtain ⟨q,rfl⟩:∃q,cap=q+(i+1):=⟨cap-(i+1),by omega⟩
     rw[Nat.add_sub_cancel]at hzl
     have hTl:(L.take (i*S.sz k)).length=i*S.sz k:=by simp;omega
     refine newb _ (q+(i+1)) _ ?_ rfl rfl rfl rfl hcap ?_ ?_ ?_
     ·simp only[List.length_append,hTl,husl,hzl]
      rw[Nat.add_mul,hi1];omega
     ·intro p hp'
      rw[List.getElem?_append_left (by omega),List.getElem?_take,if_pos hp']
     ·intro j hj
      rw[List.getElem?_append_right (by omega),List.getElem?_append_left (by omega)]
      congr 1;omega
     ·intro p h1 h2
      rw[←hn]at h2
      omega
theorem zov (sgk:SgOk S) {f E:Nat} {fn:Func} {code:Code} (fok:FnOk P f fn code) (hmd:S.md f=.cons) {k:κ} (W:InsOk P f (S.sz k) E)
 {xs vs r:List (El k)} {i:Int} {ds:List (D κ El)} (hwl:WL ds [.lst k xs,.int .i64 i,.lst k vs]) (hr:zkf xs i vs=some r):Con P S f ds [] (.lst k r) []:=by
 unfold zkf at hr
 split at hr
 ·rename_i y
  rw[zad]at hr
  split at hr
  ·rename_i h
   simp only[Bool.and_eq_true,decide_eq_true_eq]at h
   cases hr
   obtain ⟨n,rfl⟩:=Int.eq_ofNat_of_zero_le h.1.1
   exact zapd sgk fok hmd W (i:=n) (by omega) h.2 hwl
  ·cases hr
 ·cases hr
end
end Go.Proofs.YtpaidiaknfhclaaGreatDoor.Ev
namespace Go.Proofs.YtpaidiaknfhclaaGreatDoor.Ev
open Go
section
variable {κ:Type} {El:κ→Type} {S:Sg κ El} {P:Program}
structure DelOk (P:Program) (f z:Nat):Prop where
 non:∀{w:World} {base:Option Addr} {n c i:Nat},n≤c→i≤n→Calls P f #[.slice base n c,.int .i64 i,.int .i64 i] w fun e w'=>e=.returned (.slice base n c)∧w'=w
 som:∀{w:World} {b n c i j:Nat} {L:List Value} {t:TypeId},i<j→j≤n→n≤c→w.heap[b]?=some (.cells L.toArray t (0,0))→L.length=c*z→(∀v∈(L.drop (j*z)).take ((n-j)*z),v.oneCell'=true)→
  Calls P f #[.slice (some ⟨b,0,none⟩) n c,.int .i64 i,.int .i64 j] w fun e w'=>
   e=.returned (.slice (some ⟨b,0,none⟩) (i+(n-j)) c)∧∃(M0:Array Value) (zs:List Value),zs.length=(j-i)*z∧w'=(w.drew.setRow b M0).setRow b (Go.splice (Go.splice L (i*z) ((L.drop (j*z)).take ((n-j)*z))) ((i+(n-j))*z) zs).toArray
theorem zapc (sgk:SgOk S) {f:Nat} {fn:Func} {code:Code} (fok:FnOk P f fn code) (hmd:S.md f=.cons) {k:κ} (W:DelOk P f (S.sz k))
 {xs:List (El k)} {i j:Nat} {ds:List (D κ El)} (hij:i≤j) (hj:j≤xs.length) (hwl:WL ds [.lst k xs,.int .i64 (i:Int),.int .i64 (j:Int)]) :
 Con P S f ds [] (.lst k (xs.take i++xs.drop j)) []:=by
 unfold Con
 rw[hmd]
 intro _ k' xs' ds0 hds k2 xs2 hd w I J mb v0 vs hp ho ha
 subst hds
 cases hd
 have hw0:=hwl.2 0 _ _ rfl rfl
 cases hw0 with
 |leaf _ _ hw0=>
 cases hw0
 have ha:=WL.args (cs':=[.int .i64 (i:Int),.int .i64 (j:Int)]) ⟨by simpa using hwl.1,fun q d d' h1 h2=>hwl.2 (q+1) d d' (by simpa using h1) (by simpa using h2)⟩ ha
 obtain ⟨base,c,rfl,hnc,hz⟩:=ho
 obtain ⟨hvs,hav⟩:=ha
 obtain ⟨u1,u2,rfl⟩:∃u1 u2,vs = #[u1,u2]:=by
  simp at hvs
  exact ⟨vs[0],vs[1],by
   apply Array.ext
   ·simp[hvs]
   ·intro j h1 h2;simp at h2;rcases (show j=0∨j=1 by omega) with rfl|rfl<;>rfl⟩
 have hu1:u1=.int .i64 i:=(hav 0 u1 _ rfl rfl).int_inv
 have hu2:u2=.int .i64 j:=(hav 1 u2 _ rfl rfl).int_inv
 subst hu1 hu2
 obtain ⟨n,hn⟩:∃n,n=xs.length:=⟨_,rfl⟩
 have hpos:=sgk.pos k
 have hIw:∀b o,I b o→b<w.heap.size:=hp.ib
 have hres:(xs.take i++xs.drop j).length=i+(n-j):=by simp;omega
 unfold zdc
 rw[MuLone.run_callFunc_enter fok.at_ fok.name fok.body _ w]
 simp only
 show Calls P f #[.slice base xs.length c,.int .i64 (i:Int),.int .i64 (j:Int)] w _
 by_cases heq:i=j
 ·subst heq
  refine (W.non hnc hj).mono (fun e w' he=>?_)
  obtain ⟨rfl,rfl⟩:=he
  have e:xs.take i++xs.drop i=xs:=by simp
  rw[e]
  refine ⟨I,⟨Nat.le_refl _,rfl,rfl,rfl,fun _ _ _=>rfl,fun _ _ h=>h,fun _ _ h=>.inl h,hIw⟩,base,c,rfl,hnc,?_⟩
  rcases hz with ⟨h,_⟩|⟨b,vals,t,rfl,rfl,hb,hvsz,hel⟩
  ·exact .inl h
  ·have hbI:∀o,¬I b o:=fun o h=>(hp.jb b o (hp.ij b o h)).2 (by simp)
   refine .inr ⟨b,vals,t,rfl,hb,hvsz,.inr (by simp),hbI,fun q hq j d hj=>?_⟩
   obtain ⟨v,a,e⟩:=hel q hq j d hj
   exact ⟨v,a,zf5 sgk e (zdv sgk hj) (fun _ _ h=>⟨rfl,h⟩)⟩
 ·have hlt:i<j:=by omega
  rcases hz with ⟨rfl,rfl⟩|⟨b,vals,t,rfl,rfl,hb,hvsz,hel⟩
  ·exfalso;omega
  ·have hbw:b<w.heap.size:=(Array.getElem?_eq_some_iff.1 hb).1
   have hbI:∀o,¬I b o:=fun o h=>(hp.jb b o (hp.ij b o h)).2 (by simp)
   obtain ⟨L,hL⟩:∃L,L=vals.toList:=⟨_,rfl⟩
   have hLa:vals=L.toArray:=by rw[hL]
   have hLl:L.length=c*S.sz k:=by rw[hL];simpa using hvsz
   rw[hLa]at hb
   have hel':∀i (hi:i<xs.length) j d,(S.enc k xs[i])[j]?=some d→∃v,L[i*S.sz k+j]?=some v∧DR S w I J v d:=fun i hi j d hj=>by
    obtain ⟨v,a,e⟩:=hel i hi j d hj
    exact ⟨v,by rw[hL];simpa using a,e⟩
   have hnL:n*S.sz k≤L.length:=by rw[hLl];exact Nat.mul_le_mul_right _ (by omega)
   have hone:∀v∈L.take (n*S.sz k),v.oneCell'=true:=fun v hv=>by
    obtain ⟨p,hp'⟩:=List.getElem?_of_mem hv
    have hlt:=(List.getElem?_eq_some_iff.1 hp').1
    simp only[List.length_take]at hlt
    have h1:p / S.sz k<n:=(Nat.div_lt_iff_lt_mul hpos).2 (by omega)
    have h2:=Nat.mod_lt p hpos
    have h3:p % S.sz k<(S.enc k (xs[p / S.sz k]'(by omega))).length:=by rw[sgk.sz];exact h2
    obtain ⟨v',a,e⟩:=hel' (p / S.sz k) (by omega) _ _ (List.getElem?_eq_getElem h3)
    rw[Nat.div_add_mod']at a
    rw[List.getElem?_take,if_pos (by omega),a]at hp'
    cases hp'
    exact z9e e (sgk.plain k _ _ (List.getElem_mem h3))
   have hjn:j*S.sz k≤n*S.sz k:=Nat.mul_le_mul_right _ (by omega)
   have hC1:(L.drop (j*S.sz k)).take ((n-j)*S.sz k)=(L.take (n*S.sz k)).drop (j*S.sz k):=by
    rw[List.drop_take];congr 1;rw[Nat.sub_mul]
   have hone1:∀v∈(L.drop (j*S.sz k)).take ((n-j)*S.sz k),v.oneCell'=true:=fun v hv=>hone v (by rw[hC1]at hv;exact List.mem_of_mem_drop hv)
   obtain ⟨C1,hC⟩:∃C1,C1=(L.drop (j*S.sz k)).take ((n-j)*S.sz k):=⟨_,rfl⟩
   have hC1l:C1.length=n*S.sz k-j*S.sz k:=by rw[hC,hC1];simp;omega
   have hC1g:∀q,q<n*S.sz k-j*S.sz k→C1[q]?=L[j*S.sz k+q]?:=fun q hq=>by rw[hC,hC1,List.getElem?_drop,List.getElem?_take,if_pos (by omega)]
   have hij':i*S.sz k≤j*S.sz k:=Nat.mul_le_mul_right _ (by omega)
   have hm:(i+(n-j))*S.sz k=i*S.sz k+(n*S.sz k-j*S.sz k):=by rw[Nat.add_mul,Nat.sub_mul]
   have hz2:(j-i)*S.sz k=j*S.sz k-i*S.sz k:=by rw[Nat.sub_mul]
   refine (W.som hlt hj hnc hb hLl (by rw[←hn];exact hone1)).mono (fun e w' he=>?_)
   obtain ⟨rfl,M0,zs,hzl,rfl⟩:=he
   rw[←hn,←hC]
   have l1:(Go.splice L (i*S.sz k) C1).length=L.length:=length_splice _ _ _ (by omega)
   have l2:(Go.splice (Go.splice L (i*S.sz k) C1) ((i+(n-j))*S.sz k) zs).length=L.length:=by rw[length_splice _ _ _ (by omega),l1]
   generalize hM:Go.splice (Go.splice L (i*S.sz k) C1) ((i+(n-j))*S.sz k) zs=M at l2 ⊢
   have hMg:∀p,p<(i+(n-j))*S.sz k→M[p]?=if p<i*S.sz k then L[p]? else L[p+(j*S.sz k-i*S.sz k)]?:=fun p hp=>by
    rw[←hM,zbe (by omega),if_neg (by omega),zbe (by omega)]
    by_cases h:p<i*S.sz k
    ·rw[if_neg (by omega),if_pos h]
    ·rw[if_pos (by omega),if_neg h,hC1g _ (by omega)]
     congr 1;omega
   have hheap:((w.drew.setRow b M0).setRow b M.toArray).heap[b]?=some (.cells M.toArray t (0,0)):=setRow_heap _ _ _ _ _ _ (setRow_heap w.drew _ _ _ _ _ hb)
   have hoth:∀q,q≠b→((w.drew.setRow b M0).setRow b M.toArray).heap[q]?=w.heap[q]?:=fun q hq=>by rw[setRow_other _ _ _ _ hq,setRow_other _ _ _ _ hq];rfl
   have hsz:((w.drew.setRow b M0).setRow b M.toArray).heap.size=w.heap.size:=by simp only[setRow_size];rfl
   refine ⟨I,⟨by omega,rfl,rfl,rfl,fun q hq hm=>hoth q (by simpa using hm),fun _ _ h=>h,fun _ _ h=>.inl h,fun q o h=>by have:=hIw q o h;omega⟩,
    some ⟨b,0,none⟩,c,by rw[hres],by omega,.inr ⟨b,_,t,rfl,hheap,by simp[l2,hLl],.inr (by simp),hbI,?_⟩⟩
   intro q hq s d hs
   have hs':s<S.sz k:=by have:=(List.getElem?_eq_some_iff.1 hs).1;rwa [sgk.sz]at this
   rw[hres]at hq
   have hlt2:=zdo hs' hq
   by_cases hqi:q<i
   ·have e:(xs.take i++xs.drop j)[q]'(by omega)=xs[q]'(by omega):=by rw[List.getElem_append_left (by simp;omega)];simp
    rw[e]at hs
    obtain ⟨v,a,e2⟩:=hel' q (by omega) s d hs
    refine ⟨v,?_,zf5 sgk e2 (zdv sgk hs) (fun q o h=>⟨by simp only[World.cell?];rw[hoth q (fun e=>by subst e;exact hbI o h)],h⟩)⟩
    rw[←a,List.getElem?_toArray,hMg _ hlt2,if_pos (zdo hs' hqi)]
   ·have e:(xs.take i++xs.drop j)[q]'(by omega)=xs[q+(j-i)]'(by omega):=by
     have hl:(xs.take i).length=i:=by simp;omega
     rw[List.getElem_append_right (by omega)]
     simp only[hl,List.getElem_drop]
     congr 1;omega
    rw[e]at hs
    obtain ⟨v,a,e2⟩:=hel' (q+(j-i)) (by omega) s d hs
    refine ⟨v,?_,zf5 sgk e2 (zdv sgk hs) (fun q o h=>⟨by simp only[World.cell?];rw[hoth q (fun e=>by subst e;exact hbI o h)],h⟩)⟩
    have hqz:i*S.sz k≤q*S.sz k:=Nat.mul_le_mul_right _ (by omega)
    rw[←a,List.getElem?_toArray,hMg _ hlt2,if_neg (by omega)]
    congr 1
    rw[Nat.add_mul,hz2];omega
theorem zw2 (sgk:SgOk S) {f:Nat} {fn:Func} {code:Code} (fok:FnOk P f fn code) (hmd:S.md f=.cons) {k:κ} (W:DelOk P f (S.sz k))
 {xs r:List (El k)} {i j:Int} {ds:List (D κ El)} (hwl:WL ds [.lst k xs,.int .i64 i,.int .i64 j]) (hr:zh2 xs i j=some r):Con P S f ds [] (.lst k r) []:=by
 unfold zh2 at hr
 rw[zad]at hr
 split at hr
 ·rename_i h
  simp only[Bool.and_eq_true,decide_eq_true_eq]at h
  cases hr
  obtain ⟨n,rfl⟩:=Int.eq_ofNat_of_zero_le h.1.1.1
  obtain ⟨m,rfl⟩:=Int.eq_ofNat_of_zero_le (Int.le_trans h.1.1.1 h.1.1.2)
  exact zapc sgk fok hmd W (i:=n) (j:=m) (by omega) (by omega) hwl
 ·cases hr
end
end Go.Proofs.YtpaidiaknfhclaaGreatDoor.Ev
namespace Go.Proofs.YtpaidiaknfhclaaGreatDoor.Ev
open Go
def badC (c:Nat):Bool:=decide (c<32)||(decide (127≤c)&&decide (c≤159))||decide (65535<c)
theorem zgg {c:Nat}:badC c=true↔c<32∨(127≤c∧c≤159)∨65535<c:=by
 unfold badC;simp only[Bool.or_eq_true,Bool.and_eq_true,decide_eq_true_eq];omega
theorem za5g {a:UInt8} {r:List UInt8} {k:Nat}:(a::r).getD (k+1) 0=r.getD k 0:=by simp[List.getD]
set_option maxHeartbeats 2000000 in
theorem zm1 {l:List UInt8} (hl:l≠[]):dcd l=if ((Lib.decodeL l).1=65533∧(Lib.decodeL l).2=1)∨badC (Lib.decodeL l).1=true then (0,0) else Lib.decodeL l:=by
 cases l with
 |nil=>exact absurd rfl hl
 |cons a r=>
  rw[Lib.decodeL_N]
  have ha:=a.toNat_lt
  simp only[zgg]
  rcases r with _|⟨b,_|⟨c,_|⟨d,r⟩⟩⟩
  ·simp only[List.getD_cons_zero,List.getD_cons_succ,List.getD_nil,List.length_cons,List.length_nil]
   obtain ⟨X,hX⟩:∃X,Lib.decodeN (0+1) a.toNat (0:UInt8).toNat (0:UInt8).toNat (0:UInt8).toNat=X:=⟨_,rfl⟩
   rw[hX]
   unfold Lib.decodeN at hX
   unfold dcd
   dsimp only
   split at hX
   ·subst hX
    repeat' split
    all_goals first|with_reducible rfl|(exfalso;omega)
   ·rw[if_neg (by omega),if_neg (by omega),if_neg (by omega)]at hX
    subst hX
    repeat' split
    all_goals first|with_reducible rfl|(exfalso;omega)
  ·simp only[List.getD_cons_zero,List.getD_cons_succ,List.getD_nil,List.length_cons,List.length_nil]
   have hb:=b.toNat_lt
   obtain ⟨X,hX⟩:∃X,Lib.decodeN (0+1+1) a.toNat b.toNat (0:UInt8).toNat (0:UInt8).toNat=X:=⟨_,rfl⟩
   rw[hX]
   unfold Lib.decodeN at hX
   unfold dcd
   dsimp only
   repeat' split at hX
   all_goals subst hX
   all_goals dsimp only
   all_goals repeat' split
   all_goals first|with_reducible rfl|(exfalso;omega)|(simp only[Prod.mk.injEq,and_true];omega)
  ·simp only[List.getD_cons_zero,List.getD_cons_succ,List.getD_nil,List.length_cons,List.length_nil]
   have hb:=b.toNat_lt
   have hc:=c.toNat_lt
   obtain ⟨X,hX⟩:∃X,Lib.decodeN (0+1+1+1) a.toNat b.toNat c.toNat (0:UInt8).toNat=X:=⟨_,rfl⟩
   rw[hX]
   unfold Lib.decodeN at hX
   unfold dcd
   dsimp only
   repeat' split at hX
   all_goals subst hX
   all_goals dsimp only
   all_goals repeat' split
   all_goals first|with_reducible rfl|(exfalso;omega)|(simp only[Prod.mk.injEq,and_true];omega)
  ·simp only[List.getD_cons_zero,List.getD_cons_succ,List.getD_nil,List.length_cons,List.length_nil]
   have hb:=b.toNat_lt
   have hc:=c.toNat_lt
   have hd:=d.toNat_lt
   obtain ⟨X,hX⟩:∃X,Lib.decodeN (r.length+1+1+1+1) a.toNat b.toNat c.toNat d.toNat=X:=⟨_,rfl⟩
   rw[hX]
   unfold Lib.decodeN at hX
   unfold dcd
   dsimp only
   repeat' split at hX
   all_goals subst hX
   all_goals dsimp only
   all_goals repeat' split
   all_goals first|with_reducible rfl|(exfalso;omega)|(simp only[Prod.mk.injEq,and_true];omega)
def okN:Nat→List UInt8→Bool
 |0,_=>true
 |n+1,l=>if l=[] then true else if badC (Lib.decodeL l).1 then false else okN n (l.drop (Lib.decodeL l).2)
theorem zfq {l:List UInt8} (hl:l≠[]):1≤(Lib.decodeL l).2∧(Lib.decodeL l).2≤l.length:=by
 cases l with
 |nil=>exact absurd rfl hl
 |cons a r=>
  rw[Lib.decodeL_N]
  unfold Lib.decodeN
  have:1≤(a::r).length:=by simp
  repeat' split
  all_goals simp only
  all_goals omega
theorem zax2:∀(n:Nat) (l:List UInt8),vldN n l=(Lib.validGoD n l&&okN n l):=by
 intro n
 induction n with
 |zero=>intro l;rfl
 |succ n ih=>
  intro l
  simp only[vldN,Lib.validGoD,okN]
  by_cases hl:l=[]
  ·simp[hl]
  ·simp only[hl,if_false]
   rw[zm1 hl]
   by_cases h1:(Lib.decodeL l).1=65533∧(Lib.decodeL l).2=1
   ·simp[h1]
   ·by_cases h2:badC (Lib.decodeL l).1=true
    ·simp[h2]
    ·have:=zfq hl
     have hne:¬(((Lib.decodeL l).1=65533∧(Lib.decodeL l).2=1)∨badC (Lib.decodeL l).1=true):=fun h=>h.elim h1 h2
     rw[if_neg hne,if_neg (show ¬(Lib.decodeL l).2=0 by omega),if_neg h1,if_neg h2]
     exact ih _
theorem zaic:∀(n m:Nat) (l:List UInt8),l.length≤n→l.length≤m→okN n l=okN m l:=by
 intro n
 induction n with
 |zero=>intro m l h1 h2;have:l=[]:=List.length_eq_zero_iff.1 (by omega);subst this;cases m<;>simp[okN]
 |succ n ih=>
  intro m l h1 h2
  by_cases hl:l=[]
  ·subst hl;cases m<;>simp[okN]
  ·have hp:=zfq hl
   have:0<l.length:=List.length_pos_iff.2 hl
   obtain ⟨m,rfl⟩:∃k,m=k+1:=⟨m-1,by omega⟩
   simp only[okN,hl,if_false]
   split
   ·rfl
   ·exact ih m _ (by rw[List.length_drop];omega) (by rw[List.length_drop];omega)
theorem z7b (xs:List (List UInt8)) (y sep:List UInt8):Lib.join (xs++[y]) sep=if xs=[] then y else Lib.join xs sep++(sep++y):=by
 cases xs with
 |nil=>simp[Lib.join_one]
 |cons x xs=>
  rw[List.cons_append,Lib.join_cons,Lib.join_cons]
  simp[Lib.joinTail]
def pcs (l:List UInt8) (acc:List (Nat×Nat)):List (List UInt8):=acc.map fun x=>(l.take x.2).drop x.1
def J (l:List UInt8) (acc:List (Nat×Nat)):List UInt8:=Lib.join (pcs l acc) [32]
theorem zax9 (l:List UInt8):J l []=[]:=rfl
theorem z26 (l:List UInt8) (acc:List (Nat×Nat)) (a b:Nat):J l (acc++[(a,b)])=if acc=[] then (l.take b).drop a else J l acc++([32]++(l.take b).drop a):=by
 unfold J pcs
 rw[List.map_append,List.map_singleton,z7b]
 simp only[List.map_eq_nil_iff]
theorem J_ne {l:List UInt8}:∀{acc:List (Nat×Nat)},(∀x∈acc,x.1<x.2∧x.2≤l.length)→acc≠[]→J l acc≠[]:=by
 intro acc h hne
 obtain ⟨x,r,rfl⟩:=List.exists_cons_of_ne_nil hne
 have hx:=h x (by simp)
 unfold J pcs
 rw[List.map_cons,Lib.join_cons]
 intro e
 have:=congrArg List.length e
 simp only[List.length_append,List.length_drop,List.length_take,List.length_nil]at this
 omega
theorem z4n {s:ByteArray} {l:List UInt8} (hl:s.data.toList=l) (p:Nat→Bool) (hp:∀c,p c=blk c):∀(f pos:Nat) (st:Option Nat) (acc:List (Nat×Nat)) (gap:Bool),
 s.size≤pos+f→pos≤s.size→vldN f (l.drop pos)=true→(∀a,st=some a→a<pos∧gap=false)→(st=none→gap=true∨acc=[])→(∀x∈acc,x.1<x.2∧x.2≤l.length)→
 J l (Lib.closeSpans s (Lib.spansFromP p s f pos st acc))=clnN f (l.drop pos) (match st with|some a=>J l (acc++[(a,pos)])|none=>J l acc) gap:=by
 have hsz:s.size=l.length:=by rw[Lib.size_eq,hl]
 intro f
 induction f with
 |zero=>
  intro pos st acc gap h1 h2 hv hs hn hacc
  have:pos=s.size:=by omega
  subst this
  simp only[Lib.spansFromP,clnN]
  cases st with
  |none=>rfl
  |some a=>rfl
 |succ f ih=>
  intro pos st acc gap h1 h2 hv hs hn hacc
  by_cases hlt:pos<s.size
  ·have hne:l.drop pos≠[]:=by simp;omega
   have hdec:Lib.decodeL (l.drop pos)=Utf8.decode s pos:=by rw[←hl];exact Lib.decodeL_drop s pos
   have hpos:=zfq hne
   rw[List.length_drop]at hpos
   have hv2:=hv
   simp only[vldN,hne,if_false]at hv2
   have hd:=zm1 hne
   split at hd
   ·rw[hd]at hv2;simp at hv2
   ·rename_i hnb
    have hz:¬(dcd (l.drop pos)).2=0:=by rw[hd];omega
    rw[if_neg hz,List.drop_drop,hd,hdec]at hv2
    have hw:wid (l.drop pos)=(Utf8.decode s pos).2:=by unfold wid;rw[hd,hdec,if_neg (by rw[←hdec];omega)]
    rw[hdec]at hpos
    obtain ⟨k,hk⟩:∃k,(Utf8.decode s pos).2=k:=⟨_,rfl⟩
    rw[clnN,if_neg hne,List.drop_drop,hw,hd,hdec]
    simp only[Lib.spansFromP,hlt,if_true,hp]
    rw[hk]at hpos hv2 ⊢
    have htk:∀a,a≤pos→(l.take pos).drop a++(l.drop pos).take k=(l.take (pos+k)).drop a:=by
     intro a ha
     rw[List.take_add,List.drop_append_of_le_length (by simp;omega)]
    cases hb:blk (Utf8.decode s pos).1 with
    |true=>
     simp only[if_true]
     cases st with
     |none=>exact ih (pos+k) none acc true (by omega) (by omega) hv2 (fun a h=>by cases h) (fun _=>.inl rfl) hacc
     |some a=>
      have:=(hs a rfl).1
      exact ih (pos+k) none (acc++[(a,pos)]) true (by omega) (by omega) hv2 (fun a h=>by cases h) (fun _=>.inl rfl) (fun x hx=>by
       rcases List.mem_append.1 hx with h|h
       ·exact hacc x h
       ·simp only[List.mem_singleton]at h;subst h;exact ⟨this,by simp only;omega⟩)
    |false=>
     simp only[Bool.false_eq_true,if_false]
     cases st with
     |some a=>
      obtain ⟨ha,hg⟩:=hs a rfl
      subst hg
      rw[ih (pos+k) (some a) acc false (by omega) (by omega) hv2 (fun b h=>by cases h;exact ⟨by omega,rfl⟩) (fun h=>by cases h) hacc]
      simp only[Bool.false_and,Bool.false_eq_true,if_false]
      congr 1
      rw[z26,z26]
      split
      ·exact (htk a (by omega)).symm
      ·rw[←htk a (by omega)];simp
     |none=>
      rw[ih (pos+k) (some pos) acc false (by omega) (by omega) hv2 (fun b h=>by cases h;exact ⟨by omega,rfl⟩) (fun h=>by cases h) hacc]
      congr 1
      dsimp only
      rw[z26]
      have e:=htk pos (Nat.le_refl _)
      rw[@List.drop_eq_nil_of_le _ (l.take pos) _ (by simp;omega),List.nil_append]at e
      rcases hn rfl with hg|hacc0
      ·subst hg
       by_cases h0:acc=[]
       ·subst h0;simp[zax9,e]
       ·have:=J_ne hacc h0
        have hb2:(J l acc==[])=false:=by simpa using this
        simp[h0,hb2,e]
      ·subst hacc0;simp[zax9,e]
  ·have:pos=s.size:=by omega
   subst this
   have hnil:l.drop s.size=[]:=by rw[hsz];simp
   rw[Lib.spansFromP_end _ _ _ _ _ _ hlt,clnN,if_pos hnil]
   cases st with
   |none=>rfl
   |some a=>rfl
theorem z0k {s:ByteArray} {p:Nat→Bool} (hp:∀c,p c=blk c) (hv:vld s.data.toList=true):Lib.join ((Lib.goFieldsP p s).map (·.data.toList)) [32]=cln s.data.toList:=by
 have h:=z4n (s:=s) rfl p hp s.size 0 none [] false (by omega) (by omega) (by rw[List.drop_zero,Lib.size_eq];exact hv) (fun a h=>by cases h) (fun _=>.inr rfl) (fun x h=>by cases h)
 rw[List.drop_zero]at h
 have hc:cln s.data.toList=clnN s.size s.data.toList [] false:=by unfold cln;rw[Lib.size_eq]
 rw[hc]
 refine Eq.trans ?_ h
 unfold J pcs Lib.goFieldsP Lib.spansOfP
 rw[List.map_map]
 congr 1
 refine List.map_congr_left (fun x _=>?_)
 show (s.extract x.1 x.2).data.toList=(s.data.toList.take x.2).drop x.1
 rw[Lib.extract_data,List.drop_take]
theorem zac4 (p:Nat→Bool) (s:ByteArray):∀(f pos:Nat) (st:Option Nat) (acc:List (Nat×Nat)),(Lib.spansFromP p s f pos st acc).1.length≤acc.length+f:=by
 intro f
 induction f with
 |zero=>intro pos st acc;exact Nat.le_refl _
 |succ f ih=>
  intro pos st acc
  unfold Lib.spansFromP
  split
  ·split
   ·cases st with
    |none=>exact Nat.le_trans (ih _ _ _) (by omega)
    |some a=>exact Nat.le_trans (ih _ _ _) (by simp;omega)
   ·cases st with
    |none=>exact Nat.le_trans (ih _ _ _) (by omega)
    |some a=>exact Nat.le_trans (ih _ _ _) (by omega)
  ·simp
theorem z00 (p:Nat→Bool) (s:ByteArray):(Lib.goFieldsP p s).length≤s.size+1:=by
 have:=zac4 p s s.size 0 none []
 unfold Lib.goFieldsP Lib.spansOfP Lib.closeSpans
 rw[List.length_map]
 split
 ·rw[List.length_append];simp at this ⊢;omega
 ·simp at this;omega
theorem zafd:∀(n:Nat) (l out:List UInt8) (gap:Bool),(clnN n l out gap).length≤out.length+2*l.length:=by
 intro n
 induction n with
 |zero=>intro l out gap;simp[clnN]
 |succ n ih=>
  intro l out gap
  rw[clnN]
  split
  ·omega
  ·have hw:1≤wid l:=by unfold wid;split<;>omega
   have hl:0<l.length:=List.length_pos_iff.2 (by assumption)
   split
   ·have:=ih (l.drop (wid l)) out true
    rw[List.length_drop]at this
    omega
   ·have:=ih (l.drop (wid l)) ((if gap&&!(out==[]) then out++[32] else out)++l.take (wid l)) false
    rw[List.length_drop]at this
    have h2:(if gap&&!(out==[]) then out++[32] else out).length≤out.length+1:=by split<;>simp
    simp only[List.length_append,List.length_take]at this
    omega
theorem zapb (s:ByteArray):(cln s.data.toList).length≤2*s.size:=by
 have:=zafd s.data.toList.length s.data.toList [] false
 rw[Lib.size_eq]
 simpa[cln]using this
end Go.Proofs.YtpaidiaknfhclaaGreatDoor.Ev
namespace Go.Proofs
open Go.Shelf
def Tryz.laysValid_ren:Go.Shelf.Ren:=⟨fun|196=>193|259=>239|n=>n,fun|9=>9|4=>4|3=>3|5=>5|12=>12|119=>238|0=>0|46=>145|139=>241|138=>240|53=>197|n=>n,fun|3=>0|4=>1|n=>n⟩
theorem Tryz.laysValid:Go.Proofs.Lays.n196 Tryz.prog Tryz.laysValid_ren:={
 mixed:=by kernel_rfl
 f196:=Tryz.func193.trans (congrArg some (by kernel_rfl))
 f259:=Tryz.func239.trans (congrArg some (by kernel_rfl))
 t0:=Tryz.underlying0
 a0:=Tryz.isAgg0
 z0:=Tryz.sizeOf0
 v0:=Tryz.zeroValue0
 t3:=Tryz.underlying3
 a3:=Tryz.isAgg3
 z3:=Tryz.sizeOf3
 v3:=Tryz.zeroValue3
 t4:=Tryz.underlying4
 a4:=Tryz.isAgg4
 z4:=Tryz.sizeOf4
 v4:=Tryz.zeroValue4
 t5:=Tryz.underlying5
 a5:=Tryz.isAgg5
 z5:=Tryz.sizeOf5
 v5:=Tryz.zeroValue5
 t9:=Tryz.underlying9
 a9:=Tryz.isAgg9
 z9:=Tryz.sizeOf9
 v9:=Tryz.zeroValue9
 t12:=Tryz.underlying12
 a12:=Tryz.isAgg12
 z12:=Tryz.sizeOf12
 v12:=Tryz.zeroValue12
 t46:=Tryz.underlying145
 a46:=Tryz.isAgg145
 z46:=Tryz.sizeOf145
 v46:=Tryz.zeroValue145
 t53:=Tryz.underlying197
 a53:=Tryz.isAgg197
 z53:=Tryz.sizeOf197
 v53:=Tryz.zeroValue197
 t119:=Tryz.underlying238
 a119:=Tryz.isAgg238
 z119:=Tryz.sizeOf238
 t138:=Tryz.underlying240
 a138:=Tryz.isAgg240
 z138:=Tryz.sizeOf240
 v138:=Tryz.zeroValue240
 t139:=Tryz.underlying241
 a139:=Tryz.isAgg241
 z139:=Tryz.sizeOf241
 v139:=Tryz.zeroValue241
 g3:=by kernel_rfl
 g4:=by kernel_rfl}
def Tryz.lays156_ren:Go.Shelf.Ren:=⟨fun|156=>240|165=>255|166=>256|169=>257|240=>266|241=>267|276=>273|277=>274|n=>n,fun|31=>245|9=>9|3=>3|4=>4|0=>0|20=>20|72=>261|76=>264|70=>258|37=>259|75=>263|127=>276|164=>279|5=>5|80=>266|n=>n,fun|n=>n⟩
theorem Tryz.lays156:Go.Proofs.Lays.n156 Tryz.prog Tryz.lays156_ren:={
 mixed:=by kernel_rfl
 f156:=Tryz.func240.trans (congrArg some (by kernel_rfl))
 f165:=Tryz.func255.trans (congrArg some (by kernel_rfl))
 f166:=Tryz.func256.trans (congrArg some (by kernel_rfl))
 f169:=Tryz.func257.trans (congrArg some (by kernel_rfl))
 f240:=Tryz.func266.trans (congrArg some (by kernel_rfl))
 f241:=Tryz.func267.trans (congrArg some (by kernel_rfl))
 f276:=Tryz.func273.trans (congrArg some (by kernel_rfl))
 f277:=Tryz.func274.trans (congrArg some (by kernel_rfl))
 t0:=Tryz.underlying0
 a0:=Tryz.isAgg0
 z0:=Tryz.sizeOf0
 v0:=Tryz.zeroValue0
 t3:=Tryz.underlying3
 a3:=Tryz.isAgg3
 z3:=Tryz.sizeOf3
 v3:=Tryz.zeroValue3
 t4:=Tryz.underlying4
 a4:=Tryz.isAgg4
 z4:=Tryz.sizeOf4
 v4:=Tryz.zeroValue4
 t9:=Tryz.underlying9
 a9:=Tryz.isAgg9
 z9:=Tryz.sizeOf9
 v9:=Tryz.zeroValue9
 t20:=Tryz.underlying20
 a20:=Tryz.isAgg20
 z20:=Tryz.sizeOf20
 v20:=Tryz.zeroValue20
 t31:=Tryz.underlying245
 a31:=Tryz.isAgg245
 z31:=Tryz.sizeOf245
 v31:=Tryz.zeroValue245
 t37:=Tryz.underlying259
 a37:=Tryz.isAgg259
 z37:=Tryz.sizeOf259
 v37:=Tryz.zeroValue259
 t70:=Tryz.underlying258
 a70:=Tryz.isAgg258
 z70:=Tryz.sizeOf258
 v70:=Tryz.zeroValue258
 t72:=Tryz.underlying261
 a72:=Tryz.isAgg261
 z72:=Tryz.sizeOf261
 v72:=Tryz.zeroValue261
 t75:=Tryz.underlying263
 a75:=Tryz.isAgg263
 z75:=Tryz.sizeOf263
 v75:=Tryz.zeroValue263
 t76:=Tryz.underlying264
 a76:=Tryz.isAgg264
 z76:=Tryz.sizeOf264
 v76:=Tryz.zeroValue264
 t127:=Tryz.underlying276
 a127:=Tryz.isAgg276
 z127:=Tryz.sizeOf276
 v127:=Tryz.zeroValue276
 t164:=Tryz.underlying279
 a164:=Tryz.isAgg279
 z164:=Tryz.sizeOf279
 v164:=Tryz.zeroValue279}
theorem Tryz.Builder_Extra_156:Builder.Extra Tryz.prog Tryz.lays156_ren:={
 sizeBuilder:=by kernel_rfl
 liesBuilder:=by kernel_rfl
 t5:=Tryz.underlying5
 a5:=Tryz.isAgg5
 z5:=Tryz.sizeOf5
 v5:=Tryz.zeroValue5
 infoByte:=by kernel_rfl
 cellsByte:=by kernel_rfl
 sizeByte:=by kernel_rfl
 neB5:=by decide}
open Go.RowKit in
theorem Tryz.strings_Join_none (a:Option Addr) (c:Nat) (sep:ByteArray) (w:World) :
 Calls Tryz.prog 240 #[.slice a 0 c,.string sep] w fun e w'=>e=.returned (.string ⟨#[]⟩)∧w'=w:=Any.strings_Join_none Tryz.lays156 Tryz.Builder_Extra_156 a c sep w
open Go.RowKit in
theorem Tryz.strings_Join (bk o c:Nat) (xs:List ByteArray) (sep:ByteArray) (w:World) (hcells:∀(j:Nat) x,xs[j]?=some x→w.cell? ⟨bk,o+j,none⟩=some (.string x)) (hbk:bk<w.heap.size) (hN:xs.length≤140737488355328) (hcap:xs.length≤c) (hlen:(Lib.join (xs.map (·.data.toList)) sep.data.toList).length≤140737488355328) :
 Calls Tryz.prog 240 #[.slice (some ⟨bk,o,none⟩) xs.length c,.string sep] w fun e w'=>e=.returned (.string ⟨(Lib.join (xs.map (·.data.toList)) sep.data.toList).toArray⟩)∧Below w.heap.size w w':=Any.strings_Join Tryz.lays156 Tryz.Builder_Extra_156 bk o c xs sep w hcells hbk hN hcap hlen
def Tryz.lays229_ren:Go.Shelf.Ren:=⟨fun|229=>241|n=>n,fun|9=>9|40=>247|31=>245|152=>267|3=>3|0=>0|4=>4|21=>21|154=>269|n=>n,fun|n=>n⟩
theorem Tryz.lays229:Go.Proofs.Lays.n229 Tryz.prog Tryz.lays229_ren:={
 mixed:=by kernel_rfl
 f229:=Tryz.func241.trans (congrArg some (by kernel_rfl))
 t0:=Tryz.underlying0
 a0:=Tryz.isAgg0
 z0:=Tryz.sizeOf0
 v0:=Tryz.zeroValue0
 t3:=Tryz.underlying3
 a3:=Tryz.isAgg3
 z3:=Tryz.sizeOf3
 v3:=Tryz.zeroValue3
 t4:=Tryz.underlying4
 a4:=Tryz.isAgg4
 z4:=Tryz.sizeOf4
 v4:=Tryz.zeroValue4
 t9:=Tryz.underlying9
 a9:=Tryz.isAgg9
 z9:=Tryz.sizeOf9
 v9:=Tryz.zeroValue9
 t21:=Tryz.underlying21
 a21:=Tryz.isAgg21
 z21:=Tryz.sizeOf21
 v21:=Tryz.zeroValue21
 t31:=Tryz.underlying245
 a31:=Tryz.isAgg245
 z31:=Tryz.sizeOf245
 v31:=Tryz.zeroValue245
 t40:=Tryz.underlying247
 a40:=Tryz.isAgg247
 z40:=Tryz.sizeOf247
 v40:=Tryz.zeroValue247
 t152:=Tryz.underlying267
 a152:=Tryz.isAgg267
 z152:=Tryz.sizeOf267
 v152:=Tryz.zeroValue267
 t154:=Tryz.underlying269
 a154:=Tryz.isAgg269
 z154:=Tryz.sizeOf269
 v154:=Tryz.zeroValue269}
open Go.RowKit Go.Lib in
theorem Tryz.strings_FieldsFunc_runes (g:Nat) (lb:Array Value) (eg:∀args w,(callFunc g args).run Tryz.prog w=.ok (.enter g args) w) (p:Nat→Bool) (s:ByteArray) (w:World) (hs:s.size≤4294967296) (hp:PredAtRunes Tryz.prog g lb p w) :
 Calls Tryz.prog 241 #[.string s,.func (.func g) #[] lb] w fun e w'=>∃A,e=.returned (.slice (some ⟨A,0,none⟩) (Lib.goFieldsP p s).length (Lib.goFieldsP p s).length)∧w.heap.size≤A∧
  w'.ownsRow w.heap.size 9 1 (.slice (some ⟨A,0,none⟩) (Lib.goFieldsP p s).length (Lib.goFieldsP p s).length) (Lib.goFieldsP p s).length ((Lib.goFieldsP p s).map Value.string)∧Below w.heap.size w w':=Any.strings_FieldsFunc_runes Tryz.lays229 g lb eg p s w hs hp (by kernel_rfl) (by kernel_rfl)
open Go.RowKit Go.Lib in
theorem Tryz.strings_FieldsFunc (g:Nat) (lb:Array Value) (eg:∀args w,(callFunc g args).run Tryz.prog w=.ok (.enter g args) w) (p:Nat→Bool) (s:ByteArray) (w:World) (hs:s.size≤4294967296) (hp:PredAt Tryz.prog g lb encR p w) :
 Calls Tryz.prog 241 #[.string s,.func (.func g) #[] lb] w fun e w'=>∃A,e=.returned (.slice (some ⟨A,0,none⟩) (Lib.goFieldsP p s).length (Lib.goFieldsP p s).length)∧w.heap.size≤A∧
  w'.ownsRow w.heap.size 9 1 (.slice (some ⟨A,0,none⟩) (Lib.goFieldsP p s).length (Lib.goFieldsP p s).length) (Lib.goFieldsP p s).length ((Lib.goFieldsP p s).map Value.string)∧Below w.heap.size w w':=Any.strings_FieldsFunc Tryz.lays229 g lb eg p s w hs hp (by kernel_rfl) (by kernel_rfl)
def Tryz.laysSort_ren:Go.Shelf.Ren:=⟨fun|6=>59|15=>116|14=>115|28=>183|29=>184|20=>175|21=>176|22=>177|23=>178|24=>179|25=>180|26=>181|27=>182|46=>232|47=>233|48=>234|49=>235|50=>236|57=>254|n=>n,fun|22=>60|24=>63|25=>100|3=>3|39=>145|0=>0|53=>195|55=>197|4=>4|46=>188|45=>187|50=>192|5=>5|9=>9|66=>230|70=>234|76=>256|77=>37|n=>n,fun|n=>n⟩
theorem Tryz.laysSort:Go.Proofs.SlLaysF0.n6 Tryz.prog Tryz.laysSort_ren:={
 mixed:=by kernel_rfl
 f6:=⟨Tryz.f59.name,by decide,Tryz.func59.trans (congrArg some (by kernel_rfl))⟩
 f14:=⟨Tryz.f115.name,by decide,Tryz.func115.trans (congrArg some (by kernel_rfl))⟩
 f15:=Tryz.func116.trans (congrArg some (by kernel_rfl))
 f20:=⟨Tryz.f175.name,by decide,Tryz.func175.trans (congrArg some (by kernel_rfl))⟩
 f21:=⟨Tryz.f176.name,by decide,Tryz.func176.trans (congrArg some (by kernel_rfl))⟩
 f22:=⟨Tryz.f177.name,by decide,Tryz.func177.trans (congrArg some (by kernel_rfl))⟩
 f23:=⟨Tryz.f178.name,by decide,Tryz.func178.trans (congrArg some (by kernel_rfl))⟩
 f24:=⟨Tryz.f179.name,by decide,Tryz.func179.trans (congrArg some (by kernel_rfl))⟩
 f25:=⟨Tryz.f180.name,by decide,Tryz.func180.trans (congrArg some (by kernel_rfl))⟩
 f26:=⟨Tryz.f181.name,by decide,Tryz.func181.trans (congrArg some (by kernel_rfl))⟩
 f27:=⟨Tryz.f182.name,by decide,Tryz.func182.trans (congrArg some (by kernel_rfl))⟩
 f28:=Tryz.func183.trans (congrArg some (by kernel_rfl))
 f29:=Tryz.func184.trans (congrArg some (by kernel_rfl))
 f46:=⟨Tryz.f232.name,by decide,Tryz.func232.trans (congrArg some (by kernel_rfl))⟩
 f47:=Tryz.func233.trans (congrArg some (by kernel_rfl))
 f48:=Tryz.func234.trans (congrArg some (by kernel_rfl))
 f49:=⟨Tryz.f235.name,by decide,Tryz.func235.trans (congrArg some (by kernel_rfl))⟩
 f50:=⟨Tryz.f236.name,by decide,Tryz.func236.trans (congrArg some (by kernel_rfl))⟩
 f57:=⟨Tryz.f254.name,by decide,Tryz.func254.trans (congrArg some (by kernel_rfl))⟩
 t0:=Tryz.underlying0
 a0:=Tryz.isAgg0
 z0:=Tryz.sizeOf0
 v0:=Tryz.zeroValue0
 t3:=Tryz.underlying3
 a3:=Tryz.isAgg3
 z3:=Tryz.sizeOf3
 v3:=Tryz.zeroValue3
 t4:=Tryz.underlying4
 a4:=Tryz.isAgg4
 z4:=Tryz.sizeOf4
 v4:=Tryz.zeroValue4
 t5:=Tryz.underlying5
 a5:=Tryz.isAgg5
 z5:=Tryz.sizeOf5
 v5:=Tryz.zeroValue5
 t9:=Tryz.underlying9
 a9:=Tryz.isAgg9
 z9:=Tryz.sizeOf9
 v9:=Tryz.zeroValue9
 t22:=Tryz.underlying60
 a22:=Tryz.isAgg60
 z22:=Tryz.sizeOf60
 v22:=Tryz.zeroValue60
 t25:=Tryz.underlying100
 a25:=Tryz.isAgg100
 z25:=Tryz.sizeOf100
 v25:=Tryz.zeroValue100
 t39:=Tryz.underlying145
 a39:=Tryz.isAgg145
 z39:=Tryz.sizeOf145
 v39:=Tryz.zeroValue145
 t45:=Tryz.underlying187
 a45:=Tryz.isAgg187
 z45:=Tryz.sizeOf187
 v45:=Tryz.zeroValue187
 t46:=Tryz.underlying188
 a46:=Tryz.isAgg188
 z46:=Tryz.sizeOf188
 v46:=Tryz.zeroValue188
 t50:=Tryz.underlying192
 a50:=Tryz.isAgg192
 z50:=Tryz.sizeOf192
 v50:=Tryz.zeroValue192
 t53:=Tryz.underlying195
 a53:=Tryz.isAgg195
 z53:=Tryz.sizeOf195
 v53:=Tryz.zeroValue195
 t55:=Tryz.underlying197
 a55:=Tryz.isAgg197
 z55:=Tryz.sizeOf197
 v55:=Tryz.zeroValue197
 t66:=Tryz.underlying230
 a66:=Tryz.isAgg230
 z66:=Tryz.sizeOf230
 v66:=Tryz.zeroValue230
 t70:=Tryz.underlying234
 a70:=Tryz.isAgg234
 z70:=Tryz.sizeOf234
 v70:=Tryz.zeroValue234
 t76:=Tryz.underlying256
 a76:=Tryz.isAgg256
 z76:=Tryz.sizeOf256
 v76:=Tryz.zeroValue256
 t77:=Tryz.underlying37
 a77:=Tryz.isAgg37
 z77:=Tryz.sizeOf37
 v77:=Tryz.zeroValue37}
def Tryz.laysCmp_ren:Go.Shelf.Ren:=⟨fun|5=>62|7=>117|n=>n,fun|22=>3|3=>3|4=>4|n=>n,fun|n=>n⟩
theorem Tryz.laysCmp:Go.Proofs.SlLaysC2.n5 Tryz.prog Tryz.laysCmp_ren:={
 mixed:=by kernel_rfl
 f5:=⟨Tryz.f62.name,by decide,Tryz.func62.trans (congrArg some (by kernel_rfl))⟩
 f7:=⟨Tryz.f117.name,by decide,Tryz.func117.trans (congrArg some (by kernel_rfl))⟩
 t3:=Tryz.underlying3
 a3:=Tryz.isAgg3
 z3:=Tryz.sizeOf3
 v3:=Tryz.zeroValue3
 t4:=Tryz.underlying4
 a4:=Tryz.isAgg4
 z4:=Tryz.sizeOf4
 v4:=Tryz.zeroValue4
 t22:=Tryz.underlying3
 a22:=Tryz.isAgg3
 z22:=Tryz.sizeOf3
 v22:=Tryz.zeroValue3}
def Tryz.laysLen_ren:Go.Shelf.Ren:=⟨fun|125=>116|128=>183|129=>184|n=>n,fun|46=>145|3=>3|51=>195|53=>197|4=>4|5=>5|9=>9|n=>n,fun|n=>n⟩
theorem Tryz.laysLen:Go.Proofs.Lays.n125 Tryz.prog Tryz.laysLen_ren:={
 mixed:=by kernel_rfl
 f125:=Tryz.func116.trans (congrArg some (by kernel_rfl))
 f128:=Tryz.func183.trans (congrArg some (by kernel_rfl))
 f129:=Tryz.func184.trans (congrArg some (by kernel_rfl))
 t3:=Tryz.underlying3
 a3:=Tryz.isAgg3
 z3:=Tryz.sizeOf3
 v3:=Tryz.zeroValue3
 t4:=Tryz.underlying4
 a4:=Tryz.isAgg4
 z4:=Tryz.sizeOf4
 v4:=Tryz.zeroValue4
 t5:=Tryz.underlying5
 a5:=Tryz.isAgg5
 z5:=Tryz.sizeOf5
 v5:=Tryz.zeroValue5
 t9:=Tryz.underlying9
 a9:=Tryz.isAgg9
 z9:=Tryz.sizeOf9
 v9:=Tryz.zeroValue9
 t46:=Tryz.underlying145
 a46:=Tryz.isAgg145
 z46:=Tryz.sizeOf145
 v46:=Tryz.zeroValue145
 t51:=Tryz.underlying195
 a51:=Tryz.isAgg195
 z51:=Tryz.sizeOf195
 v51:=Tryz.zeroValue195
 t53:=Tryz.underlying197
 a53:=Tryz.isAgg197
 z53:=Tryz.sizeOf197
 v53:=Tryz.zeroValue197}
end Go.Proofs
namespace Go.Proofs.YtpaidiaknfhclaaGreatDoor
open Go Ev
open Go.Lib Go.RowKit
theorem zaac {X:Ending} (b:Bool) {b':Bool} (h:X=.returned (.bool b)) (e:b=b'):X=.returned (.bool b'):=e▸h
set_option maxHeartbeats 4000000 in
set_option maxRecDepth 1000000 in
theorem z24 (s:ByteArray) (w:World) (hs:s.size≤1073741824) (hT:Lib.Utf8Tabs 0 1 w) :
 Calls Tryz.prog 126 #[.string s] w fun e w'=>e=.returned (.bool (vld s.data.toList))∧Below w.heap.size w w':=by
 have cV:Calls Tryz.prog 193 #[.string s] w _:=Any.utf8_ValidString Tryz.laysValid s w (by omega) hT
 have hvl:vld s.data.toList=(Lib.validD s.data.toList&&okN s.size s.data.toList):=by rw[Lib.size_eq];exact zax2 _ _
 rw[hvl]
 clear hvl
 generalize Lib.validD s.data.toList=V at cV ⊢
 cases V with
 |false=>
  rw[Bool.false_and]
  go_enter Tryz.func126,Tryz.ntmps126
  go_wp2_with (go_at_call 193;refine cV.mono ?_;rintro e w' ⟨rfl,hb⟩)
  go_ret
  exact ⟨rfl,hb⟩
 |true=>
  rw[Bool.true_and]
  go_enter Tryz.func126,Tryz.ntmps126
  go_wp2_with (go_at_call 193;refine cV.mono ?_;rintro e w' ⟨rfl,hb⟩)
  go_loopg [4] (s.size+1) (fun gk s4 wx=>∃pos:Nat,wx.heap[w'.heap.size]?=some (.stringIter s pos)∧Below w.heap.size w wx∧
   okN gk (s.data.toList.drop pos)=okN s.size s.data.toList∧s.size≤pos+gk∧pos≤s.size)
  case atStart=>
   refine ⟨0,World.iter_heap w' s 0,hb.alloc hb.size _,?_,by omega,by omega⟩
   rw[List.drop_zero]
   exact zaic _ _ _ (by rw[←Lib.size_eq];omega) (by rw[←Lib.size_eq];omega)
  case round=>
   obtain ⟨pos,hit,hbw,hok,hfu,hps⟩:=hrel
   have hdec:Lib.decodeL (s.data.toList.drop pos)=Utf8.decode s pos:=Lib.decodeL_drop s pos
   by_cases hlt:pos<s.size
   ·obtain ⟨g',rfl⟩:∃g',gk=g'+1:=⟨gk-1,by omega⟩
    have hnx:∀ty,(Instr.next (.pointer (some ⟨w'.heap.size,0,none⟩)) true ty).run Tryz.prog wr=_:=fun ty=>Lib.run_next_any_at wr w'.heap.size s pos ty hit hlt
    have hne:s.data.toList.drop pos≠[]:=by rw[Ne,List.drop_eq_nil_iff,←Lib.size_eq];omega
    have hwd:=zfq hne
    rw[hdec,List.length_drop,←Lib.size_eq]at hwd
    simp only[okN,hne,if_false,hdec,List.drop_drop]at hok
    obtain ⟨R,hR⟩:∃R,(Utf8.decode s pos).1=R:=⟨_,rfl⟩
    obtain ⟨K,hK⟩:∃K,(Utf8.decode s pos).2=K:=⟨_,rfl⟩
    rw[hR,hK]at hnx hok
    rw[hK]at hwd
    have hit2:=Lib.iterAt_heap wr w'.heap.size s pos (pos+K) hit
    have hbw2:=Lib.below_iterAt hbw (k:=w'.heap.size) hb.size s (pos+K)
    by_cases h1:R<32
    ·have hz:(R:Int)<32:=by omega
     have hb1:badC R=true:=zgg.2 (.inl h1)
     rw[if_pos hb1]at hok
     go_wp2
     go_ret
     first|exact ⟨rfl,hbw2⟩|exact ⟨zaac false rfl hok,hbw2⟩
    ·have hz:¬(R:Int)<32:=by omega
     by_cases h2:127≤R
     ·have hz2:(127:Int)≤(R:Int):=by omega
      by_cases h3:R≤159
      ·have hz3:(R:Int)≤159:=by omega
       have hb1:badC R=true:=zgg.2 (.inr (.inl ⟨h2,h3⟩))
       rw[if_pos hb1]at hok
       go_wp2
       go_ret
       first|exact ⟨rfl,hbw2⟩|exact ⟨zaac false rfl hok,hbw2⟩
      ·have hz3:¬(R:Int)≤159:=by omega
       by_cases h4:65535<R
       ·have hz4:(65535:Int)<(R:Int):=by omega
        have hb1:badC R=true:=zgg.2 (.inr (.inr h4))
        rw[if_pos hb1]at hok
        go_wp2
        go_ret
        first|exact ⟨rfl,hbw2⟩|exact ⟨zaac false rfl hok,hbw2⟩
       ·have hz4:¬(65535:Int)<(R:Int):=by omega
        have hb1:¬badC R=true:=fun h=>by rw[zgg]at h;omega
        rw[if_neg hb1]at hok
        go_wp2
        go_roundg g'
        case measure=>omega
        case rel=>exact ⟨pos+K,hit2,hbw2,hok,by omega,by omega⟩
     ·have hz2:¬(127:Int)≤(R:Int):=by omega
      have hz4:¬(65535:Int)<(R:Int):=by omega
      have hb1:¬badC R=true:=fun h=>by rw[zgg]at h;omega
      rw[if_neg hb1]at hok
      go_wp2
      go_roundg g'
      case measure=>omega
      case rel=>exact ⟨pos+K,hit2,hbw2,hok,by omega,by omega⟩
   ·have:pos=s.size:=by omega
    subst this
    have hnx:∀ty,(Instr.next (.pointer (some ⟨w'.heap.size,0,none⟩)) true ty).run Tryz.prog wr=_:=fun ty=>Lib.run_next_end_at wr w'.heap.size s s.size ty hit hlt
    have hnil:s.data.toList.drop s.size=[]:=by rw[Lib.size_eq];simp
    have hok2:okN s.size s.data.toList=true:=by rw[←hok,hnil];cases gk<;>simp[okN]
    go_wp2
    go_ret
    first|exact ⟨rfl,hbw⟩|exact ⟨zaac true rfl hok2.symm,hbw⟩
set_option maxRecDepth 1000000 in
theorem zz2 (R:Nat) (hR:R≤1114111) (w:World):Calls Tryz.prog 242 #[.int .i32 (R:Int)] w fun e w'=>e=.returned (.bool (blk R))∧∃q,w'=w.drewN q:=by
 by_cases h1:R=32
 ·subst h1
  go_enter Tryz.func242,Tryz.ntmps242
  go_wp2
  go_ret
  exact ⟨rfl,0,rfl⟩
 ·have z1:¬(R:Int)=32:=by omega
  by_cases h2:R=160
  ·subst h2
   go_enter Tryz.func242,Tryz.ntmps242
   go_wp2
   go_ret
   exact ⟨rfl,0,rfl⟩
  ·have z2:¬(R:Int)=160:=by omega
   have hb:blk R=false:=by unfold blk;simp[h1,h2]
   go_enter Tryz.func242,Tryz.ntmps242
   go_wp2
   go_ret
   exact ⟨zaac ((R:Int)==32||(R:Int)==160) rfl (by rw[hb,Bool.or_eq_false_iff];exact ⟨by simp;omega,by simp;omega⟩),0,rfl⟩
set_option maxHeartbeats 4000000 in
set_option maxRecDepth 1000000 in
theorem z0j (s:ByteArray) (w:World) (hs:s.size≤1073741824) (hv:vld s.data.toList=true) :
 Calls Tryz.prog 198 #[.string s] w fun e w'=>e=.returned (.string ⟨(cln s.data.toList).toArray⟩)∧Below w.heap.size w w':=by
 have eg:∀args w,(callFunc 242 args).run Tryz.prog w=.ok (.enter 242 args) w:=enters_of Tryz.func242 (by kernel_rfl) rfl
 have hp:PredAtRunes Tryz.prog 242 #[] blk w:=fun W x hx hb=>by
  exact zz2 x hx W
 have cF:=Tryz.strings_FieldsFunc_runes 242 #[] eg blk s w (by omega) hp
 have hj:=z0k (s:=s) (p:=blk) (fun _=>rfl) hv
 have hlen:(cln s.data.toList).length≤2*s.size:=zapb s
 obtain ⟨Fs,hFs⟩:∃Fs,Lib.goFieldsP blk s=Fs:=⟨_,rfl⟩
 have hfl:=z00 blk s
 rw[hFs]at hj cF hfl
 have cJ:∀A W,Below w.heap.size w W→W.ownsRow w.heap.size 9 1 (.slice (some ⟨A,0,none⟩) Fs.length Fs.length) Fs.length (Fs.map Value.string)→
  Calls Tryz.prog 240 #[.slice (some ⟨A,0,none⟩) Fs.length Fs.length,.string ⟨#[32]⟩] W fun e w'=>e=.returned (.string ⟨(cln s.data.toList).toArray⟩)∧Below w.heap.size w w':=by
  intro A W hb hrow
  by_cases h0:Fs=[]
  ·subst h0
   have:=Tryz.strings_Join_none (some ⟨A,0,none⟩) 0 ⟨#[32]⟩ W
   refine this.mono ?_
   rintro e w' ⟨rfl,rfl⟩
   rw[←hj]
   exact ⟨rfl,hb⟩
  ·obtain ⟨-,h|⟨g,cap,cur,hv2,hbg,hh,hn,hmx,hcs,hct⟩⟩:=hrow
   ·exact absurd (List.length_eq_zero_iff.1 h.2) h0
   ·injection hv2 with e1 e2 e3
    injection e1 with e1
    injection e1 with e1
    subst e1
    have hj2:(Lib.join (Fs.map (·.data.toList)) (⟨#[32]⟩:ByteArray).data.toList)=cln s.data.toList:=hj
    have:=Tryz.strings_Join A 0 Fs.length Fs ⟨#[32]⟩ W (fun j x hx=>by
     rw[Nat.mul_one]at hct
     have hj3:j<Fs.length:=(List.getElem?_eq_some_iff.1 hx).1
     have e4:cur.toList[j]?=some (Value.string x):=by
      rw[←List.getElem?_take_of_lt hj3,hct,List.getElem?_map,hx];rfl
     rw[Array.getElem?_toList]at e4
     rw[Nat.zero_add]
     simp only[World.cell?,hh]
     exact e4) (Array.getElem?_eq_some_iff.1 hh).1 (by omega) (Nat.le_refl _) (by rw[hj2];omega)
    refine this.mono ?_
    rintro e w' ⟨rfl,hb2⟩
    rw[hj2]
    exact ⟨rfl,hb.trans (hb2.mono hb.size)⟩
 clear hj hlen hFs hfl
 go_enter Tryz.func198,Tryz.ntmps198
 go_wp2_with (first|(go_at_call 241;refine cF.mono ?_;rintro e w' ⟨A,rfl,hA,hrow,hb⟩)|(go_at_call 240;refine (cJ A _ hb hrow).mono ?_;rintro e w'' ⟨rfl,hb2⟩))
 go_ret
 exact ⟨rfl,hb2⟩
end Go.Proofs.YtpaidiaknfhclaaGreatDoor
namespace Go.Proofs.YtpaidiaknfhclaaGreatDoor
open Go Ev
theorem zhp:∃i0 z,Tryz.prog.info? 53=some i0∧i0.zero=some z∧z.cells.size=10∧i0.size=10∧i0.bytes≤128:=by
 have h:(match Tryz.prog.info? 53 with|some i=>(match i.zero with|some z=>Nat.beq z.cells.size 10&&Nat.beq i.size 10&&Nat.ble i.bytes 128|none=>false)|none=>false)=true:=by kernel_rfl
 split at h
 ·rename_i i hi
  split at h
  ·rename_i z hz
   simp only[Bool.and_eq_true]at h
   exact ⟨i,z,hi,hz,Nat.eq_of_beq_eq_true h.1.1,Nat.eq_of_beq_eq_true h.1.2,Nat.le_of_ble_eq_true h.2⟩
  ·cases h
 ·cases h
set_option maxHeartbeats 4000000 in
set_option maxRecDepth 100000 in
theorem zmg {w:World} {b n c i vb vo vc:Nat} {L vs:List Value} {t:TypeId} (hi:i<n) (hroom:n+1≤c) (hlim:n+1≤1073741824) (hvb:vb≠b)
 (hb:w.heap[b]?=some (.cells L.toArray t (0,0))) (hL:L.length=c*10) (hvl:vs.length=10)
 (hvs:∀j v,vs[j]?=some v→w.cell? ⟨vb,vo+j,none⟩=some v) (h1:∀v∈(L.drop (i*10)).take ((n-i)*10),v.oneCell'=true) (h2:∀v∈vs,v.oneCell'=true) :
 Calls Tryz.prog 102 #[.slice (some ⟨b,0,none⟩) n c,.int .i64 i,.slice (some ⟨vb,vo,none⟩) 1 vc] w fun e w'=>
  e=.returned (.slice (some ⟨b,0,none⟩) (n+1) c)∧w'=(w.drew.setRow b (Go.splice L ((i+1)*10) ((L.drop (i*10)).take ((n-i)*10))).toArray).setRow b (Go.splice (Go.splice L ((i+1)*10) ((L.drop (i*10)).take ((n-i)*10))) (i*10) vs).toArray:=by
 obtain ⟨i0,z0,hi0,hz0,hzs,hsz,hby⟩:=zhp
 have hz2:¬((i:Int)=(n:Int)):=by omega
 have hva:∃va ta fa,w.heap[vb]?=some (.cells va ta fa)∧0<va.size:=by
  have h:=hvs 0 _ (List.getElem?_eq_getElem (by omega))
  unfold World.cell? at h
  split at h
  ·rename_i c0 t0 f0 hc0
   exact ⟨c0,t0,f0,hc0,by have:=(Array.getElem?_eq_some_iff.1 h).1;omega⟩
  ·cases h
 obtain ⟨va,ta,fa,hva,hva0⟩:=hva
 have hov:∀lb cb,(callFunc 154 #[.slice (some ⟨vb,vo,none⟩) 1 vc,.slice (some ⟨b,(i+1)*10,none⟩) lb cb]).run Tryz.prog w=.ok (.value (.bool false)) w:=fun lb cb=>by
  rw[run_callFunc_extern Tryz.func154 (by kernel_rfl) (by kernel_rfl) (by kernel_rfl) (e:=Extern.SlicesOverlaps.overlaps #[22,22] #[4]) (by kernel_rfl),
   zd4 Tryz.underlying22 hi0 (a:=⟨vb,vo,none⟩) (b:=⟨b,(i+1)*10,none⟩) hvb hva hva0 hb (by simp only[List.size_toArray];omega)]
  rfl
 have hLn:(n+1)*10≤L.length:=by rw[hL];exact Nat.mul_le_mul_right _ hroom
 obtain ⟨C1,hC1⟩:∃C1,C1=(L.drop (i*10)).take ((n-i)*10):=⟨_,rfl⟩
 have hC1l:C1.length=(n-i)*10:=by rw[hC1];simp;omega
 obtain ⟨M1,hM1⟩:∃M1,M1=Go.splice L ((i+1)*10) C1:=⟨_,rfl⟩
 have hM1l:M1.length=L.length:=by rw[hM1];exact length_splice _ _ _ (by omega)
 rw[←hC1,←hM1]
 have hcp1:∀ty dc sc,(Builtin.copy_ #[22,22] ty #[.slice (some ⟨b,(i+1)*10,none⟩) (n-i) dc,.slice (some ⟨b,i*10,none⟩) (n+1-i) sc]).run Tryz.prog w.drew=.ok (goInt ((n-i:Nat):Int)) (w.drew.setRow b M1.toArray):=fun ty dc sc=>by
  have hmin:Nat.min (n+1-i) (n-i)=n-i:=by show min _ _=_;omega
  have:=zbr (P:=Tryz.prog) (w:=w.drew) (sT:=22) (ty:=ty) (dCap:=dc) (sCap:=sc) (dLen:=n-i) (sLen:=n+1-i) (o:=(i+1)*10) (a:=⟨b,i*10,none⟩) Tryz.underlying22 hi0 hsz hb (cs:=C1) (by rw[hmin];exact hC1l)
   (fun j v hj=>by
    rw[Addr.add_lit]
    show w.cell? _=_
    simp only[World.cell?,hb]
    rw[hC1,List.getElem?_take]at hj
    split at hj
    ·simpa using hj
    ·cases hj) (by omega) (by rw[hC1];exact h1)
  rw[hmin,←hM1]at this
  exact this
 have hcp2:∀(W:World),W=(w.drew.setRow b M1.toArray)→∀ty dc,(Builtin.copy_ #[22,22] ty #[.slice (some ⟨b,i*10,none⟩) (n+1-i) dc,.slice (some ⟨vb,vo,none⟩) 1 vc]).run Tryz.prog W=.ok (goInt 1) (W.setRow b (Go.splice M1 (i*10) vs).toArray):=fun W hW ty dc=>by
  have hmin:Nat.min 1 (n+1-i)=1:=by show min _ _=_;omega
  have:=zbr (P:=Tryz.prog) (w:=W) (sT:=22) (ty:=ty) (dCap:=dc) (sCap:=vc) (dLen:=n+1-i) (sLen:=1) (o:=i*10) (a:=⟨vb,vo,none⟩) Tryz.underlying22 hi0 hsz (g:=b) (t:=t) (L:=M1) (by rw[hW];exact setRow_heap _ _ _ _ _ _ hb) (cs:=vs) (by rw[hmin];omega)
   (fun j v hj=>by
    rw[Addr.add_lit,hW,cell_setRow_other _ _ _ _ hvb]
    exact hvs j v hj) (by omega) h2
  rw[hmin]at this
  exact this
 have hw1:IntKind.i64.wrap ((i:Int)+1)=(i:Int)+1:=by rw[IntKind.wrap_i64];omega
 have hb1:(0:Int)≤(i:Int)+1:=by omega
 have hin:i≤n:=by omega
 have htn:((i:Int)+1).toNat=i+1:=by omega
 have hb2:¬(c=i+1):=by omega
 have hb3:(i:Int)≤(n:Int)+1:=by omega
 have hb4:¬(c=i):=by omega
 have mixed:Tryz.prog.follows .mixedOrders=true:=by kernel_rfl
 clear hC1 hM1 hC1l hM1l h1 h2 hvs hL
 go_enter Tryz.func102,Tryz.ntmps102
 go_wp2_with (simp only[hov])
 go_region_law_o (refine zdm rfl _ _ 22 22 rfl _ _ (by simp[Act.eval,Act.put]) (by simp[Act.eval,Act.put]) (hcp1 _ _ _) ?_)
 go_wp2_with (at_builtin;refine zl7 rfl _ _ 22 22 rfl _ _ rfl rfl (hcp2 _ rfl _ _) ?_)
 go_ret
 exact ⟨rfl,rfl⟩
theorem zmt {i0:TypeInfo} {k c:Nat} (h:c<k) (hk:k≤1073741824) (hby:i0.bytes≤128):Builtin.nextslicecap k c*i0.bytes≤281474976710656:=
 growslice_fits h (Nat.le_trans (Nat.mul_le_mul hk hby) (by decide))
set_option maxHeartbeats 4000000 in
set_option maxRecDepth 100000 in
theorem zpa {w:World} {b n c vb vo vc:Nat} {L vs:List Value} {t:TypeId} (hroom:n+1≤c) (hlim:n+1≤1073741824)
 (hb:w.heap[b]?=some (.cells L.toArray t (0,0))) (hL:L.length=c*10) (hvl:vs.length=10)
 (hvs:∀j v,vs[j]?=some v→w.cell? ⟨vb,vo+j,none⟩=some v) (h2:∀v∈vs,v.oneCell'=true) :
 Calls Tryz.prog 102 #[.slice (some ⟨b,0,none⟩) n c,.int .i64 n,.slice (some ⟨vb,vo,none⟩) 1 vc] w fun e w'=>
  e=.returned (.slice (some ⟨b,0,none⟩) (n+1) c)∧w'=w.setRow b (Go.splice L (n*10) vs).toArray:=by
 obtain ⟨i0,z0,hi0,hz0,hzs,hsz,hby⟩:=zhp
 have hLn:(n+1)*10≤L.length:=by rw[hL];exact Nat.mul_le_mul_right _ hroom
 have hf:=run_firstCells_some (P:=Tryz.prog) w i0.size 1 ⟨vb,vo,none⟩ 1 vc vs (by omega) (fun j v hj=>by rw[Addr.add_lit];exact hvs j v hj)
 have hap:∀ty,(Builtin.append_ #[22,22] ty #[.slice (some ⟨b,0,none⟩) n c,.slice (some ⟨vb,vo,none⟩) 1 vc]).run Tryz.prog w=.ok (.slice (some ⟨b,0,none⟩) (n+1) c) (w.setRow b (Go.splice L (n*10) vs).toArray):=fun ty=>by
  have:=zcf (P:=Tryz.prog) (w:=w) (ty:=ty) (ts:=#[22,22]) rfl rfl Tryz.underlying22 Tryz.underlying22 hi0 hf hroom hb (by simp only[List.size_toArray];rw[hsz];omega) h2
  rw[hsz]at this
  simpa[Go.splice]using this
 go_enter Tryz.func102,Tryz.ntmps102
 go_wp2_with (at_builtin;refine zbs rfl _ _ _ _ rfl _ _ rfl rfl (hap _) ?_)
 all_goals (go_ret;exact ⟨rfl,rfl⟩)
set_option maxHeartbeats 4000000 in
set_option maxRecDepth 100000 in
theorem zrc {w:World} {base:Option Addr} {n c vb vo vc:Nat} {olds vs:List Value} (hnc:n≤c) (hroom:c<n+1) (hlim:n+1≤1073741824) (hvl:vs.length=10)
 (hnil:base=none→n=0) (hol:olds.length=n*10) (hos:∀a,base=some a→∀j v,olds[j]?=some v→w.cell? (a.add j)=some v)
 (hvs:∀j v,vs[j]?=some v→w.cell? ⟨vb,vo+j,none⟩=some v) :
 Calls Tryz.prog 102 #[.slice base n c,.int .i64 n,.slice (some ⟨vb,vo,none⟩) 1 vc] w fun e w'=>
  ∃cap zs,e=.returned (.slice (some ⟨w.heap.size,0,none⟩) (n+1) cap)∧w'=w.drew.alloc (.cells (olds++(vs++zs)).toArray 53)∧n+1≤cap∧zs.length=(cap-(n+1))*10:=by
 obtain ⟨i0,z0,hi0,hz0,hzs,hsz,hby⟩:=zhp
 have hf:=run_firstCells_some (P:=Tryz.prog) w.drew i0.size 1 ⟨vb,vo,none⟩ 1 vc vs (by omega) (fun j v hj=>by rw[Addr.add_lit];exact hvs j v hj)
 have hold:(Builtin.firstCells i0.size n (.slice base n c)).run Tryz.prog w.drew=.ok olds.toArray w.drew:=by
  cases base with
  |none=>
   have h0:=hnil rfl
   subst h0
   rw[List.length_eq_zero_iff.1 (by omega:olds.length=0)]
   exact run_firstCells_none w.drew _ 0 0 c
  |some a=>exact run_firstCells_some w.drew _ n a n c olds (by rw[hsz];omega) (fun j v hj=>hos a rfl j v hj)
 have hap:∀ty,(Builtin.append_ #[22,22] ty #[.slice base n c,.slice (some ⟨vb,vo,none⟩) 1 vc]).run Tryz.prog w=_:=fun ty=>
  zcx (P:=Tryz.prog) (w:=w) (ty:=ty) (ts:=#[22,22]) rfl rfl Tryz.underlying22 Tryz.underlying22 hi0 hz0 hf hold hroom (by omega) (zmt hroom hlim hby)
 have hge:=zco w (n+1) c 53
 obtain ⟨G,hG⟩:∃G,G=grownCap w (n+1) c 53:=⟨_,rfl⟩
 obtain ⟨zs,hzs'⟩:∃zs,zs=(Builtin.zeroCells z0.cells (G-(n+1))).toList:=⟨_,rfl⟩
 rw[←hG]at hap hge
 rw[←hzs']at hap
 have hzl:zs.length=(G-(n+1))*10:=by rw[hzs',Array.length_toList,size_zeroCells,hzs]
 clear hG hzs'
 go_enter Tryz.func102,Tryz.ntmps102
 cases base with
 |none=>
  have h0:=hnil rfl
  subst h0
  go_wp2_with (at_builtin;refine zbs rfl _ _ _ _ rfl _ _ rfl rfl (hap _) ?_)
  all_goals (go_ret;first|exact ⟨_,_,rfl,rfl,hge,hzl⟩|exact ⟨_,rfl,_,rfl,hge,hzl⟩)
 |some a=>
  obtain ⟨ab,ao,asp⟩:=a
  go_wp2_with (at_builtin;refine zbs rfl _ _ _ _ rfl _ _ rfl rfl (hap _) ?_)
  all_goals (go_ret;first|exact ⟨_,_,rfl,rfl,hge,hzl⟩|exact ⟨_,rfl,_,rfl,hge,hzl⟩)
set_option maxHeartbeats 4000000 in
set_option maxRecDepth 100000 in
theorem zo9 {w:World} {b n c i vb vo vc:Nat} {L vs:List Value} {t:TypeId} (hi:i<n) (hnc:n≤c) (hroom:c<n+1) (hlim:n+1≤1073741824) (hvb:vb≠b)
 (hb:w.heap[b]?=some (.cells L.toArray t (0,0))) (hL:L.length=c*10) (hvl:vs.length=10)
 (hvs:∀j v,vs[j]?=some v→w.cell? ⟨vb,vo+j,none⟩=some v) (h1:∀v∈(L.drop (i*10)).take ((n-i)*10),v.oneCell'=true) (h2:∀v∈vs,v.oneCell'=true) :
 Calls Tryz.prog 102 #[.slice (some ⟨b,0,none⟩) n c,.int .i64 i,.slice (some ⟨vb,vo,none⟩) 1 vc] w fun e w'=>
  ∃cap row,e=.returned (.slice (some ⟨w.heap.size,0,none⟩) (n+1) cap)∧n+1≤cap∧row.length=cap*10∧row.take (i*10)=L.take (i*10)∧
   w'.heap=(w.heap.push (.cells (Go.splice (Go.splice row (i*10) vs) ((i+1)*10) ((L.drop (i*10)).take ((n-i)*10))).toArray 53))∧w'.os=w.os∧w'.output=w.output∧w'.tape=w.tape:=by
 obtain ⟨i0,z0,hi0,hz0,hzs,hsz,hby⟩:=zhp
 have hz2:¬((i:Int)=(n:Int)):=by omega
 have hz3:(c:Int)<(n:Int)+1:=by omega
 have hLn:n*10≤L.length:=by rw[hL];exact Nat.mul_le_mul_right _ hnc
 have hbw:b<w.heap.size:=(Array.getElem?_eq_some_iff.1 hb).1
 have hvw:vb<w.heap.size:=by
  have h:=hvs 0 _ (List.getElem?_eq_getElem (by omega))
  unfold World.cell? at h
  split at h
  ·rename_i c0 t0 f0 hc0
   exact (Array.getElem?_eq_some_iff.1 hc0).1
  ·cases h
 have hkk:(n:Int)+1-(i:Int)=((n+1-i:Nat):Int):=by omega
 have hik:i+(n+1-i)=n+1:=by omega
 have hTl:(L.take (i*10)).length=i*10:=by simp;omega
 have hold:(Builtin.firstCells i0.size i (.slice (some ⟨b,0,none⟩) i c)).run Tryz.prog w.drew=.ok (L.take (i*10)).toArray w.drew:=by
  refine run_firstCells_some w.drew _ i ⟨b,0,none⟩ i c (L.take (i*10)) (by rw[hsz];exact hTl) (fun j v hj=>?_)
  rw[Addr.add_lit,Nat.zero_add]
  show w.cell? _=_
  simp only[World.cell?,hb]
  rw[List.getElem?_take]at hj
  split at hj
  ·simpa using hj
  ·cases hj
 have hrz:∀ty,(Builtin.append_ #[22,3] ty #[.slice (some ⟨b,0,none⟩) i c,.int .i64 ((n:Int)+1-(i:Int))]).run Tryz.prog w =
  .ok (.slice (some ⟨w.heap.size,0,none⟩) (n+1) (grownCap w (n+1) c 53)) (w.drew.alloc (.cells ((L.take (i*10)).toArray++Builtin.zeroCells z0.cells (n+1-i)++Builtin.zeroCells z0.cells (grownCap w (n+1) c 53-(n+1))) 53)):=fun ty=>by
  have h:=Lib.run_append_grow_zeros w 22 3 ty 53 i0 _ .i64 .i64 Tryz.underlying22 Tryz.underlying3 hi0 hz0 (some ⟨b,0,none⟩) i c _ hold (n+1-i) (by omega) (by omega) (by omega) (by omega)
   (Nat.le_trans (Nat.mul_le_mul (show n+1-i≤1073741824 by omega) hby) (by decide)) (by rw[hik];exact zmt hroom hlim hby)
  rw[hik]at h
  rw[hkk]
  exact h
 have hge:=zco w (n+1) c 53
 obtain ⟨G,hG⟩:∃G,G=grownCap w (n+1) c 53:=⟨_,rfl⟩
 rw[←hG]at hrz hge
 have hG63:G≤9223372036854775807:=by
  have:=grownCap_le_maxLen w (n+1) c 53 (by unfold maxLen;omega)
  rw[←hG]at this
  unfold maxLen at this
  omega
 obtain ⟨R,hR⟩:∃R:List Value,R=L.take (i*10)++((Builtin.zeroCells z0.cells (n+1-i)).toList++(Builtin.zeroCells z0.cells (G-(n+1))).toList):=⟨_,rfl⟩
 have hRl:R.length=G*10:=by
  rw[hR]
  simp only[List.length_append,Array.length_toList,size_zeroCells,hzs,hTl]
  rw[←Nat.add_mul,←Nat.add_mul]
  congr 1
  omega
 have hRt:R.take (i*10)=L.take (i*10):=by rw[hR,List.take_append_of_le_length (by omega),List.take_of_length_le (by omega)]
 have hRe:(L.take (i*10)).toArray++Builtin.zeroCells z0.cells (n+1-i)++Builtin.zeroCells z0.cells (G-(n+1))=R.toArray:=by
  rw[hR];apply Array.ext';simp
 rw[hRe]at hrz
 obtain ⟨C1,hC1⟩:∃C1,C1=(L.drop (i*10)).take ((n-i)*10):=⟨_,rfl⟩
 have hC1l:C1.length=(n-i)*10:=by rw[hC1];simp;omega
 have hGn:(n+1)*10≤R.length:=by rw[hRl];exact Nat.mul_le_mul_right _ hge
 obtain ⟨M1,hM1⟩:∃M1,M1=Go.splice R (i*10) vs:=⟨_,rfl⟩
 have hM1l:M1.length=R.length:=by rw[hM1];exact length_splice _ _ _ (by omega)
 rw[←hC1]
 obtain ⟨gb,hgb⟩:∃gb,gb=w.heap.size:=⟨_,rfl⟩
 have hnew:∀W:World,W.heap=w.heap.push (.cells R.toArray 53)→W.heap[gb]?=some (.cells R.toArray 53 (0,0)):=fun W hW=>by rw[hW,hgb];simp
 have hpast:∀W:World,W.heap=w.heap.push (.cells R.toArray 53)→∀k,k<w.heap.size→W.heap[k]?=w.heap[k]?:=fun W hW k hk=>by rw[hW,Array.getElem?_push_lt hk];simp[hk]
 have hcpA:∀(W:World),W.heap=w.heap.push (.cells R.toArray 53)→∀ty dc,(Builtin.copy_ #[22,22] ty #[.slice (some ⟨gb,i*10,none⟩) (n+1-i) dc,.slice (some ⟨vb,vo,none⟩) 1 vc]).run Tryz.prog W=.ok (goInt 1) (W.setRow gb M1.toArray):=fun W hW ty dc=>by
  have hmin:Nat.min 1 (n+1-i)=1:=by show min _ _=_;omega
  have:=zbr (P:=Tryz.prog) (w:=W) (sT:=22) (ty:=ty) (dCap:=dc) (sCap:=vc) (dLen:=n+1-i) (sLen:=1) (o:=i*10) (a:=⟨vb,vo,none⟩) Tryz.underlying22 hi0 hsz (g:=gb) (t:=53) (L:=R) (hnew W hW) (cs:=vs) (by rw[hmin];omega)
   (fun j v hj=>by
    rw[Addr.add_lit]
    unfold World.cell?
    rw[show W.heap[(⟨vb,vo+j,none⟩:Addr).block]?=w.heap[vb]? from hpast W hW vb hvw]
    exact hvs j v hj) (by omega) h2
  rw[hmin,←hM1]at this
  exact this
 have hcpB:∀(W W0:World),W0.heap=w.heap.push (.cells R.toArray 53)→W.heap=(W0.setRow gb M1.toArray).heap→∀ty dc sc,(Builtin.copy_ #[22,22] ty #[.slice (some ⟨gb,(i+1)*10,none⟩) (n-i) dc,.slice (some ⟨b,i*10,none⟩) (n-i) sc]).run Tryz.prog W=.ok (goInt ((n-i:Nat):Int)) (W.setRow gb (Go.splice M1 ((i+1)*10) C1).toArray):=fun W W0 hW0 hW ty dc sc=>by
  have hmin:Nat.min (n-i) (n-i)=n-i:=by show min _ _=_;omega
  have:=zbr (P:=Tryz.prog) (w:=W) (sT:=22) (ty:=ty) (dCap:=dc) (sCap:=sc) (dLen:=n-i) (sLen:=n-i) (o:=(i+1)*10) (a:=⟨b,i*10,none⟩) Tryz.underlying22 hi0 hsz (g:=gb) (t:=53) (L:=M1) (by rw[hW];exact setRow_heap _ _ _ _ _ _ (hnew W0 hW0)) (cs:=C1) (by rw[hmin];exact hC1l)
   (fun j v hj=>by
    rw[Addr.add_lit]
    unfold World.cell?
    have e:W.heap[(⟨b,i*10+j,none⟩:Addr).block]?=w.heap[b]?:=by
     show W.heap[b]?=_
     rw[hW,setRow_other _ _ _ _ (by omega),hpast W0 hW0 b hbw]
    rw[e,hb]
    rw[hC1,List.getElem?_take]at hj
    split at hj
    ·simpa using hj
    ·cases hj) (by omega) (by rw[hC1];exact h1)
  rw[hmin]at this
  exact this
 have hw1:IntKind.i64.wrap ((i:Int)+1)=(i:Int)+1:=by rw[IntKind.wrap_i64];omega
 have hb1:(0:Int)≤(i:Int)+1:=by omega
 have hin:i≤n:=by omega
 have htn:((i:Int)+1).toNat=i+1:=by omega
 have hb3:(i:Int)≤(n:Int):=by omega
 have hGi:¬(G=i):=by omega
 have hGim:¬(G=i+1):=by omega
 have hci:¬(c=i):=by omega
 have hmixed:Tryz.prog.follows .mixedOrders=true:=by kernel_rfl
 have mixed:=hmixed
 have hfin:∀W W0:World,W0.heap=w.heap.push (.cells R.toArray 53)→W.heap=(W0.setRow gb M1.toArray).heap→(W.setRow gb (Go.splice M1 ((i+1)*10) C1).toArray).heap=w.heap.push (.cells (Go.splice M1 ((i+1)*10) C1).toArray 53):=fun W W0 hW0 hW=>by
  have h1:W.heap[gb]?=some (.cells M1.toArray 53 (0,0)):=by rw[hW];exact setRow_heap _ _ _ _ _ _ (hnew W0 hW0)
  have hsz0:W.heap.size=w.heap.size+1:=by rw[hW,setRow_size,hW0];simp
  apply Array.ext_getElem?
  intro k
  by_cases hk:k=gb
  ·subst hk
   rw[setRow_heap _ _ _ _ _ _ h1,hgb];simp
  ·rw[setRow_other _ _ _ _ hk]
   by_cases hk2:k<w.heap.size
   ·rw[hW,setRow_other _ _ _ _ hk,hpast W0 hW0 k hk2,Array.getElem?_push_lt hk2];simp[hk2]
   ·rw[Array.getElem?_eq_none (by omega),Array.getElem?_eq_none (by simp;omega)]
 have hMM:Go.splice (Go.splice R (i*10) vs) ((i+1)*10) C1=Go.splice M1 ((i+1)*10) C1:=by rw[hM1]
 subst hgb
 have hcpA':=hcpA ((w.alloc (.cells R.toArray 53)).drew) rfl
 clear hkk hcpA hik hold hG hR hRe hC1 hM1 hC1l hM1l h1 h2 hvs hL hTl
 go_enter Tryz.func102,Tryz.ntmps102
 go_wp2_with (at_builtin;refine zbs rfl _ _ _ _ rfl _ _ rfl rfl (hrz _) ?_)
 go_region_law_o (refine zdm rfl _ _ 22 22 rfl (.slice (some ⟨w.heap.size,(i+1)*10,none⟩) (n-i) (G-(i+1))) (.slice (some ⟨b,i*10,none⟩) (n-i) (c-i)) (by simp[Act.eval,Act.put]) (by simp[Act.eval,Act.put]) (hcpB (((w.alloc (.cells R.toArray 53)).drew.setRow w.heap.size M1.toArray).drew) (w.drew.alloc (.cells R.toArray 53)) rfl rfl 3 (G-(i+1)) (c-i)) ?_)
 go_wp2
 go_ret
 refine ⟨G,R,rfl,hge,hRl,hRt,?_,rfl,rfl,rfl⟩
 rw[hMM]
 exact hfin _ (w.drew.alloc (.cells R.toArray 53)) rfl rfl
end Go.Proofs.YtpaidiaknfhclaaGreatDoor
namespace Go.Proofs.YtpaidiaknfhclaaGreatDoor
open Go Ev
theorem zft:∃i0 z,Tryz.prog.info? 71=some i0∧i0.zero=some z∧z.cells.size=6∧i0.size=6∧i0.bytes≤128:=by
 have h:(match Tryz.prog.info? 71 with|some i=>(match i.zero with|some z=>Nat.beq z.cells.size 6&&Nat.beq i.size 6&&Nat.ble i.bytes 128|none=>false)|none=>false)=true:=by kernel_rfl
 split at h
 ·rename_i i hi
  split at h
  ·rename_i z hz
   simp only[Bool.and_eq_true]at h
   exact ⟨i,z,hi,hz,Nat.eq_of_beq_eq_true h.1.1,Nat.eq_of_beq_eq_true h.1.2,Nat.le_of_ble_eq_true h.2⟩
  ·cases h
 ·cases h
set_option maxHeartbeats 4000000 in
set_option maxRecDepth 100000 in
theorem ziz {w:World} {b n c i vb vo vc:Nat} {L vs:List Value} {t:TypeId} (hi:i<n) (hroom:n+1≤c) (hlim:n+1≤1073741824) (hvb:vb≠b)
 (hb:w.heap[b]?=some (.cells L.toArray t (0,0))) (hL:L.length=c*6) (hvl:vs.length=6)
 (hvs:∀j v,vs[j]?=some v→w.cell? ⟨vb,vo+j,none⟩=some v) (h1:∀v∈(L.drop (i*6)).take ((n-i)*6),v.oneCell'=true) (h2:∀v∈vs,v.oneCell'=true) :
 Calls Tryz.prog 210 #[.slice (some ⟨b,0,none⟩) n c,.int .i64 i,.slice (some ⟨vb,vo,none⟩) 1 vc] w fun e w'=>
  e=.returned (.slice (some ⟨b,0,none⟩) (n+1) c)∧w'=(w.drew.setRow b (Go.splice L ((i+1)*6) ((L.drop (i*6)).take ((n-i)*6))).toArray).setRow b (Go.splice (Go.splice L ((i+1)*6) ((L.drop (i*6)).take ((n-i)*6))) (i*6) vs).toArray:=by
 obtain ⟨i0,z0,hi0,hz0,hzs,hsz,hby⟩:=zft
 have hz2:¬((i:Int)=(n:Int)):=by omega
 have hva:∃va ta fa,w.heap[vb]?=some (.cells va ta fa)∧0<va.size:=by
  have h:=hvs 0 _ (List.getElem?_eq_getElem (by omega))
  unfold World.cell? at h
  split at h
  ·rename_i c0 t0 f0 hc0
   exact ⟨c0,t0,f0,hc0,by have:=(Array.getElem?_eq_some_iff.1 h).1;omega⟩
  ·cases h
 obtain ⟨va,ta,fa,hva,hva0⟩:=hva
 have hov:∀lb cb,(callFunc 243 #[.slice (some ⟨vb,vo,none⟩) 1 vc,.slice (some ⟨b,(i+1)*6,none⟩) lb cb]).run Tryz.prog w=.ok (.value (.bool false)) w:=fun lb cb=>by
  rw[run_callFunc_extern Tryz.func243 (by kernel_rfl) (by kernel_rfl) (by kernel_rfl) (e:=Extern.SlicesOverlaps.overlaps #[23,23] #[4]) (by kernel_rfl),
   zd4 Tryz.underlying23 hi0 (a:=⟨vb,vo,none⟩) (b:=⟨b,(i+1)*6,none⟩) hvb hva hva0 hb (by simp only[List.size_toArray];omega)]
  rfl
 have hLn:(n+1)*6≤L.length:=by rw[hL];exact Nat.mul_le_mul_right _ hroom
 obtain ⟨C1,hC1⟩:∃C1,C1=(L.drop (i*6)).take ((n-i)*6):=⟨_,rfl⟩
 have hC1l:C1.length=(n-i)*6:=by rw[hC1];simp;omega
 obtain ⟨M1,hM1⟩:∃M1,M1=Go.splice L ((i+1)*6) C1:=⟨_,rfl⟩
 have hM1l:M1.length=L.length:=by rw[hM1];exact length_splice _ _ _ (by omega)
 rw[←hC1,←hM1]
 have hcp1:∀ty dc sc,(Builtin.copy_ #[23,23] ty #[.slice (some ⟨b,(i+1)*6,none⟩) (n-i) dc,.slice (some ⟨b,i*6,none⟩) (n+1-i) sc]).run Tryz.prog w.drew=.ok (goInt ((n-i:Nat):Int)) (w.drew.setRow b M1.toArray):=fun ty dc sc=>by
  have hmin:Nat.min (n+1-i) (n-i)=n-i:=by show min _ _=_;omega
  have:=zbr (P:=Tryz.prog) (w:=w.drew) (sT:=23) (ty:=ty) (dCap:=dc) (sCap:=sc) (dLen:=n-i) (sLen:=n+1-i) (o:=(i+1)*6) (a:=⟨b,i*6,none⟩) Tryz.underlying23 hi0 hsz hb (cs:=C1) (by rw[hmin];exact hC1l)
   (fun j v hj=>by
    rw[Addr.add_lit]
    show w.cell? _=_
    simp only[World.cell?,hb]
    rw[hC1,List.getElem?_take]at hj
    split at hj
    ·simpa using hj
    ·cases hj) (by omega) (by rw[hC1];exact h1)
  rw[hmin,←hM1]at this
  exact this
 have hcp2:∀(W:World),W=(w.drew.setRow b M1.toArray)→∀ty dc,(Builtin.copy_ #[23,23] ty #[.slice (some ⟨b,i*6,none⟩) (n+1-i) dc,.slice (some ⟨vb,vo,none⟩) 1 vc]).run Tryz.prog W=.ok (goInt 1) (W.setRow b (Go.splice M1 (i*6) vs).toArray):=fun W hW ty dc=>by
  have hmin:Nat.min 1 (n+1-i)=1:=by show min _ _=_;omega
  have:=zbr (P:=Tryz.prog) (w:=W) (sT:=23) (ty:=ty) (dCap:=dc) (sCap:=vc) (dLen:=n+1-i) (sLen:=1) (o:=i*6) (a:=⟨vb,vo,none⟩) Tryz.underlying23 hi0 hsz (g:=b) (t:=t) (L:=M1) (by rw[hW];exact setRow_heap _ _ _ _ _ _ hb) (cs:=vs) (by rw[hmin];omega)
   (fun j v hj=>by
    rw[Addr.add_lit,hW,cell_setRow_other _ _ _ _ hvb]
    exact hvs j v hj) (by omega) h2
  rw[hmin]at this
  exact this
 have hw1:IntKind.i64.wrap ((i:Int)+1)=(i:Int)+1:=by rw[IntKind.wrap_i64];omega
 have hb1:(0:Int)≤(i:Int)+1:=by omega
 have hin:i≤n:=by omega
 have htn:((i:Int)+1).toNat=i+1:=by omega
 have hb2:¬(c=i+1):=by omega
 have hb3:(i:Int)≤(n:Int)+1:=by omega
 have hb4:¬(c=i):=by omega
 have mixed:Tryz.prog.follows .mixedOrders=true:=by kernel_rfl
 clear hC1 hM1 hC1l hM1l h1 h2 hvs hL
 go_enter Tryz.func210,Tryz.ntmps210
 go_wp2_with (simp only[hov])
 go_region_law_o (refine zdm rfl _ _ 23 23 rfl _ _ (by simp[Act.eval,Act.put]) (by simp[Act.eval,Act.put]) (hcp1 _ _ _) ?_)
 go_wp2_with (at_builtin;refine zl7 rfl _ _ 23 23 rfl _ _ rfl rfl (hcp2 _ rfl _ _) ?_)
 go_ret
 exact ⟨rfl,rfl⟩
theorem zim {i0:TypeInfo} {k c:Nat} (h:c<k) (hk:k≤1073741824) (hby:i0.bytes≤128):Builtin.nextslicecap k c*i0.bytes≤281474976710656:=
 growslice_fits h (Nat.le_trans (Nat.mul_le_mul hk hby) (by decide))
set_option maxHeartbeats 4000000 in
set_option maxRecDepth 100000 in
theorem zkd {w:World} {b n c vb vo vc:Nat} {L vs:List Value} {t:TypeId} (hroom:n+1≤c) (hlim:n+1≤1073741824)
 (hb:w.heap[b]?=some (.cells L.toArray t (0,0))) (hL:L.length=c*6) (hvl:vs.length=6)
 (hvs:∀j v,vs[j]?=some v→w.cell? ⟨vb,vo+j,none⟩=some v) (h2:∀v∈vs,v.oneCell'=true) :
 Calls Tryz.prog 210 #[.slice (some ⟨b,0,none⟩) n c,.int .i64 n,.slice (some ⟨vb,vo,none⟩) 1 vc] w fun e w'=>
  e=.returned (.slice (some ⟨b,0,none⟩) (n+1) c)∧w'=w.setRow b (Go.splice L (n*6) vs).toArray:=by
 obtain ⟨i0,z0,hi0,hz0,hzs,hsz,hby⟩:=zft
 have hLn:(n+1)*6≤L.length:=by rw[hL];exact Nat.mul_le_mul_right _ hroom
 have hf:=run_firstCells_some (P:=Tryz.prog) w i0.size 1 ⟨vb,vo,none⟩ 1 vc vs (by omega) (fun j v hj=>by rw[Addr.add_lit];exact hvs j v hj)
 have hap:∀ty,(Builtin.append_ #[23,23] ty #[.slice (some ⟨b,0,none⟩) n c,.slice (some ⟨vb,vo,none⟩) 1 vc]).run Tryz.prog w=.ok (.slice (some ⟨b,0,none⟩) (n+1) c) (w.setRow b (Go.splice L (n*6) vs).toArray):=fun ty=>by
  have:=zcf (P:=Tryz.prog) (w:=w) (ty:=ty) (ts:=#[23,23]) rfl rfl Tryz.underlying23 Tryz.underlying23 hi0 hf hroom hb (by simp only[List.size_toArray];rw[hsz];omega) h2
  rw[hsz]at this
  simpa[Go.splice]using this
 go_enter Tryz.func210,Tryz.ntmps210
 go_wp2_with (at_builtin;refine zbs rfl _ _ _ _ rfl _ _ rfl rfl (hap _) ?_)
 all_goals (go_ret;exact ⟨rfl,rfl⟩)
set_option maxHeartbeats 4000000 in
set_option maxRecDepth 100000 in
theorem zmi {w:World} {base:Option Addr} {n c vb vo vc:Nat} {olds vs:List Value} (hnc:n≤c) (hroom:c<n+1) (hlim:n+1≤1073741824) (hvl:vs.length=6)
 (hnil:base=none→n=0) (hol:olds.length=n*6) (hos:∀a,base=some a→∀j v,olds[j]?=some v→w.cell? (a.add j)=some v)
 (hvs:∀j v,vs[j]?=some v→w.cell? ⟨vb,vo+j,none⟩=some v) :
 Calls Tryz.prog 210 #[.slice base n c,.int .i64 n,.slice (some ⟨vb,vo,none⟩) 1 vc] w fun e w'=>
  ∃cap zs,e=.returned (.slice (some ⟨w.heap.size,0,none⟩) (n+1) cap)∧w'=w.drew.alloc (.cells (olds++(vs++zs)).toArray 71)∧n+1≤cap∧zs.length=(cap-(n+1))*6:=by
 obtain ⟨i0,z0,hi0,hz0,hzs,hsz,hby⟩:=zft
 have hf:=run_firstCells_some (P:=Tryz.prog) w.drew i0.size 1 ⟨vb,vo,none⟩ 1 vc vs (by omega) (fun j v hj=>by rw[Addr.add_lit];exact hvs j v hj)
 have hold:(Builtin.firstCells i0.size n (.slice base n c)).run Tryz.prog w.drew=.ok olds.toArray w.drew:=by
  cases base with
  |none=>
   have h0:=hnil rfl
   subst h0
   rw[List.length_eq_zero_iff.1 (by omega:olds.length=0)]
   exact run_firstCells_none w.drew _ 0 0 c
  |some a=>exact run_firstCells_some w.drew _ n a n c olds (by rw[hsz];omega) (fun j v hj=>hos a rfl j v hj)
 have hap:∀ty,(Builtin.append_ #[23,23] ty #[.slice base n c,.slice (some ⟨vb,vo,none⟩) 1 vc]).run Tryz.prog w=_:=fun ty=>
  zcx (P:=Tryz.prog) (w:=w) (ty:=ty) (ts:=#[23,23]) rfl rfl Tryz.underlying23 Tryz.underlying23 hi0 hz0 hf hold hroom (by omega) (zim hroom hlim hby)
 have hge:=zco w (n+1) c 71
 obtain ⟨G,hG⟩:∃G,G=grownCap w (n+1) c 71:=⟨_,rfl⟩
 obtain ⟨zs,hzs'⟩:∃zs,zs=(Builtin.zeroCells z0.cells (G-(n+1))).toList:=⟨_,rfl⟩
 rw[←hG]at hap hge
 rw[←hzs']at hap
 have hzl:zs.length=(G-(n+1))*6:=by rw[hzs',Array.length_toList,size_zeroCells,hzs]
 clear hG hzs'
 go_enter Tryz.func210,Tryz.ntmps210
 cases base with
 |none=>
  have h0:=hnil rfl
  subst h0
  go_wp2_with (at_builtin;refine zbs rfl _ _ _ _ rfl _ _ rfl rfl (hap _) ?_)
  all_goals (go_ret;first|exact ⟨_,_,rfl,rfl,hge,hzl⟩|exact ⟨_,rfl,_,rfl,hge,hzl⟩)
 |some a=>
  obtain ⟨ab,ao,asp⟩:=a
  go_wp2_with (at_builtin;refine zbs rfl _ _ _ _ rfl _ _ rfl rfl (hap _) ?_)
  all_goals (go_ret;first|exact ⟨_,_,rfl,rfl,hge,hzl⟩|exact ⟨_,rfl,_,rfl,hge,hzl⟩)
set_option maxHeartbeats 4000000 in
set_option maxRecDepth 100000 in
theorem zkc {w:World} {b n c i vb vo vc:Nat} {L vs:List Value} {t:TypeId} (hi:i<n) (hnc:n≤c) (hroom:c<n+1) (hlim:n+1≤1073741824) (hvb:vb≠b)
 (hb:w.heap[b]?=some (.cells L.toArray t (0,0))) (hL:L.length=c*6) (hvl:vs.length=6)
 (hvs:∀j v,vs[j]?=some v→w.cell? ⟨vb,vo+j,none⟩=some v) (h1:∀v∈(L.drop (i*6)).take ((n-i)*6),v.oneCell'=true) (h2:∀v∈vs,v.oneCell'=true) :
 Calls Tryz.prog 210 #[.slice (some ⟨b,0,none⟩) n c,.int .i64 i,.slice (some ⟨vb,vo,none⟩) 1 vc] w fun e w'=>
  ∃cap row,e=.returned (.slice (some ⟨w.heap.size,0,none⟩) (n+1) cap)∧n+1≤cap∧row.length=cap*6∧row.take (i*6)=L.take (i*6)∧
   w'.heap=(w.heap.push (.cells (Go.splice (Go.splice row (i*6) vs) ((i+1)*6) ((L.drop (i*6)).take ((n-i)*6))).toArray 71))∧w'.os=w.os∧w'.output=w.output∧w'.tape=w.tape:=by
 obtain ⟨i0,z0,hi0,hz0,hzs,hsz,hby⟩:=zft
 have hz2:¬((i:Int)=(n:Int)):=by omega
 have hz3:(c:Int)<(n:Int)+1:=by omega
 have hLn:n*6≤L.length:=by rw[hL];exact Nat.mul_le_mul_right _ hnc
 have hbw:b<w.heap.size:=(Array.getElem?_eq_some_iff.1 hb).1
 have hvw:vb<w.heap.size:=by
  have h:=hvs 0 _ (List.getElem?_eq_getElem (by omega))
  unfold World.cell? at h
  split at h
  ·rename_i c0 t0 f0 hc0
   exact (Array.getElem?_eq_some_iff.1 hc0).1
  ·cases h
 have hkk:(n:Int)+1-(i:Int)=((n+1-i:Nat):Int):=by omega
 have hik:i+(n+1-i)=n+1:=by omega
 have hTl:(L.take (i*6)).length=i*6:=by simp;omega
 have hold:(Builtin.firstCells i0.size i (.slice (some ⟨b,0,none⟩) i c)).run Tryz.prog w.drew=.ok (L.take (i*6)).toArray w.drew:=by
  refine run_firstCells_some w.drew _ i ⟨b,0,none⟩ i c (L.take (i*6)) (by rw[hsz];exact hTl) (fun j v hj=>?_)
  rw[Addr.add_lit,Nat.zero_add]
  show w.cell? _=_
  simp only[World.cell?,hb]
  rw[List.getElem?_take]at hj
  split at hj
  ·simpa using hj
  ·cases hj
 have hrz:∀ty,(Builtin.append_ #[23,3] ty #[.slice (some ⟨b,0,none⟩) i c,.int .i64 ((n:Int)+1-(i:Int))]).run Tryz.prog w =
  .ok (.slice (some ⟨w.heap.size,0,none⟩) (n+1) (grownCap w (n+1) c 71)) (w.drew.alloc (.cells ((L.take (i*6)).toArray++Builtin.zeroCells z0.cells (n+1-i)++Builtin.zeroCells z0.cells (grownCap w (n+1) c 71-(n+1))) 71)):=fun ty=>by
  have h:=Lib.run_append_grow_zeros w 23 3 ty 71 i0 _ .i64 .i64 Tryz.underlying23 Tryz.underlying3 hi0 hz0 (some ⟨b,0,none⟩) i c _ hold (n+1-i) (by omega) (by omega) (by omega) (by omega)
   (Nat.le_trans (Nat.mul_le_mul (show n+1-i≤1073741824 by omega) hby) (by decide)) (by rw[hik];exact zim hroom hlim hby)
  rw[hik]at h
  rw[hkk]
  exact h
 have hge:=zco w (n+1) c 71
 obtain ⟨G,hG⟩:∃G,G=grownCap w (n+1) c 71:=⟨_,rfl⟩
 rw[←hG]at hrz hge
 have hG63:G≤9223372036854775807:=by
  have:=grownCap_le_maxLen w (n+1) c 71 (by unfold maxLen;omega)
  rw[←hG]at this
  unfold maxLen at this
  omega
 obtain ⟨R,hR⟩:∃R:List Value,R=L.take (i*6)++((Builtin.zeroCells z0.cells (n+1-i)).toList++(Builtin.zeroCells z0.cells (G-(n+1))).toList):=⟨_,rfl⟩
 have hRl:R.length=G*6:=by
  rw[hR]
  simp only[List.length_append,Array.length_toList,size_zeroCells,hzs,hTl]
  rw[←Nat.add_mul,←Nat.add_mul]
  congr 1
  omega
 have hRt:R.take (i*6)=L.take (i*6):=by rw[hR,List.take_append_of_le_length (by omega),List.take_of_length_le (by omega)]
 have hRe:(L.take (i*6)).toArray++Builtin.zeroCells z0.cells (n+1-i)++Builtin.zeroCells z0.cells (G-(n+1))=R.toArray:=by
  rw[hR];apply Array.ext';simp
 rw[hRe]at hrz
 obtain ⟨C1,hC1⟩:∃C1,C1=(L.drop (i*6)).take ((n-i)*6):=⟨_,rfl⟩
 have hC1l:C1.length=(n-i)*6:=by rw[hC1];simp;omega
 have hGn:(n+1)*6≤R.length:=by rw[hRl];exact Nat.mul_le_mul_right _ hge
 obtain ⟨M1,hM1⟩:∃M1,M1=Go.splice R (i*6) vs:=⟨_,rfl⟩
 have hM1l:M1.length=R.length:=by rw[hM1];exact length_splice _ _ _ (by omega)
 rw[←hC1]
 obtain ⟨gb,hgb⟩:∃gb,gb=w.heap.size:=⟨_,rfl⟩
 have hnew:∀W:World,W.heap=w.heap.push (.cells R.toArray 71)→W.heap[gb]?=some (.cells R.toArray 71 (0,0)):=fun W hW=>by rw[hW,hgb];simp
 have hpast:∀W:World,W.heap=w.heap.push (.cells R.toArray 71)→∀k,k<w.heap.size→W.heap[k]?=w.heap[k]?:=fun W hW k hk=>by rw[hW,Array.getElem?_push_lt hk];simp[hk]
 have hcpA:∀(W:World),W.heap=w.heap.push (.cells R.toArray 71)→∀ty dc,(Builtin.copy_ #[23,23] ty #[.slice (some ⟨gb,i*6,none⟩) (n+1-i) dc,.slice (some ⟨vb,vo,none⟩) 1 vc]).run Tryz.prog W=.ok (goInt 1) (W.setRow gb M1.toArray):=fun W hW ty dc=>by
  have hmin:Nat.min 1 (n+1-i)=1:=by show min _ _=_;omega
  have:=zbr (P:=Tryz.prog) (w:=W) (sT:=23) (ty:=ty) (dCap:=dc) (sCap:=vc) (dLen:=n+1-i) (sLen:=1) (o:=i*6) (a:=⟨vb,vo,none⟩) Tryz.underlying23 hi0 hsz (g:=gb) (t:=71) (L:=R) (hnew W hW) (cs:=vs) (by rw[hmin];omega)
   (fun j v hj=>by
    rw[Addr.add_lit]
    unfold World.cell?
    rw[show W.heap[(⟨vb,vo+j,none⟩:Addr).block]?=w.heap[vb]? from hpast W hW vb hvw]
    exact hvs j v hj) (by omega) h2
  rw[hmin,←hM1]at this
  exact this
 have hcpB:∀(W W0:World),W0.heap=w.heap.push (.cells R.toArray 71)→W.heap=(W0.setRow gb M1.toArray).heap→∀ty dc sc,(Builtin.copy_ #[23,23] ty #[.slice (some ⟨gb,(i+1)*6,none⟩) (n-i) dc,.slice (some ⟨b,i*6,none⟩) (n-i) sc]).run Tryz.prog W=.ok (goInt ((n-i:Nat):Int)) (W.setRow gb (Go.splice M1 ((i+1)*6) C1).toArray):=fun W W0 hW0 hW ty dc sc=>by
  have hmin:Nat.min (n-i) (n-i)=n-i:=by show min _ _=_;omega
  have:=zbr (P:=Tryz.prog) (w:=W) (sT:=23) (ty:=ty) (dCap:=dc) (sCap:=sc) (dLen:=n-i) (sLen:=n-i) (o:=(i+1)*6) (a:=⟨b,i*6,none⟩) Tryz.underlying23 hi0 hsz (g:=gb) (t:=71) (L:=M1) (by rw[hW];exact setRow_heap _ _ _ _ _ _ (hnew W0 hW0)) (cs:=C1) (by rw[hmin];exact hC1l)
   (fun j v hj=>by
    rw[Addr.add_lit]
    unfold World.cell?
    have e:W.heap[(⟨b,i*6+j,none⟩:Addr).block]?=w.heap[b]?:=by
     show W.heap[b]?=_
     rw[hW,setRow_other _ _ _ _ (by omega),hpast W0 hW0 b hbw]
    rw[e,hb]
    rw[hC1,List.getElem?_take]at hj
    split at hj
    ·simpa using hj
    ·cases hj) (by omega) (by rw[hC1];exact h1)
  rw[hmin]at this
  exact this
 have hw1:IntKind.i64.wrap ((i:Int)+1)=(i:Int)+1:=by rw[IntKind.wrap_i64];omega
 have hb1:(0:Int)≤(i:Int)+1:=by omega
 have hin:i≤n:=by omega
 have htn:((i:Int)+1).toNat=i+1:=by omega
 have hb3:(i:Int)≤(n:Int):=by omega
 have hGi:¬(G=i):=by omega
 have hGim:¬(G=i+1):=by omega
 have hci:¬(c=i):=by omega
 have hmixed:Tryz.prog.follows .mixedOrders=true:=by kernel_rfl
 have mixed:=hmixed
 have hfin:∀W W0:World,W0.heap=w.heap.push (.cells R.toArray 71)→W.heap=(W0.setRow gb M1.toArray).heap→(W.setRow gb (Go.splice M1 ((i+1)*6) C1).toArray).heap=w.heap.push (.cells (Go.splice M1 ((i+1)*6) C1).toArray 71):=fun W W0 hW0 hW=>by
  have h1:W.heap[gb]?=some (.cells M1.toArray 71 (0,0)):=by rw[hW];exact setRow_heap _ _ _ _ _ _ (hnew W0 hW0)
  have hsz0:W.heap.size=w.heap.size+1:=by rw[hW,setRow_size,hW0];simp
  apply Array.ext_getElem?
  intro k
  by_cases hk:k=gb
  ·subst hk
   rw[setRow_heap _ _ _ _ _ _ h1,hgb];simp
  ·rw[setRow_other _ _ _ _ hk]
   by_cases hk2:k<w.heap.size
   ·rw[hW,setRow_other _ _ _ _ hk,hpast W0 hW0 k hk2,Array.getElem?_push_lt hk2];simp[hk2]
   ·rw[Array.getElem?_eq_none (by omega),Array.getElem?_eq_none (by simp;omega)]
 have hMM:Go.splice (Go.splice R (i*6) vs) ((i+1)*6) C1=Go.splice M1 ((i+1)*6) C1:=by rw[hM1]
 subst hgb
 have hcpA':=hcpA ((w.alloc (.cells R.toArray 71)).drew) rfl
 clear hkk hcpA hik hold hG hR hRe hC1 hM1 hC1l hM1l h1 h2 hvs hL hTl
 go_enter Tryz.func210,Tryz.ntmps210
 go_wp2_with (at_builtin;refine zbs rfl _ _ _ _ rfl _ _ rfl rfl (hrz _) ?_)
 go_region_law_o (refine zdm rfl _ _ 23 23 rfl (.slice (some ⟨w.heap.size,(i+1)*6,none⟩) (n-i) (G-(i+1))) (.slice (some ⟨b,i*6,none⟩) (n-i) (c-i)) (by simp[Act.eval,Act.put]) (by simp[Act.eval,Act.put]) (hcpB (((w.alloc (.cells R.toArray 71)).drew.setRow w.heap.size M1.toArray).drew) (w.drew.alloc (.cells R.toArray 71)) rfl rfl 3 (G-(i+1)) (c-i)) ?_)
 go_wp2
 go_ret
 refine ⟨G,R,rfl,hge,hRl,hRt,?_,rfl,rfl,rfl⟩
 rw[hMM]
 exact hfin _ (w.drew.alloc (.cells R.toArray 71)) rfl rfl
end Go.Proofs.YtpaidiaknfhclaaGreatDoor
namespace Go.Proofs.YtpaidiaknfhclaaGreatDoor
open Go Ev
theorem zhq:∃i0 z,Tryz.prog.info? 73=some i0∧i0.zero=some z∧z.cells.size=6∧i0.size=6∧i0.bytes≤128:=by
 have h:(match Tryz.prog.info? 73 with|some i=>(match i.zero with|some z=>Nat.beq z.cells.size 6&&Nat.beq i.size 6&&Nat.ble i.bytes 128|none=>false)|none=>false)=true:=by kernel_rfl
 split at h
 ·rename_i i hi
  split at h
  ·rename_i z hz
   simp only[Bool.and_eq_true]at h
   exact ⟨i,z,hi,hz,Nat.eq_of_beq_eq_true h.1.1,Nat.eq_of_beq_eq_true h.1.2,Nat.le_of_ble_eq_true h.2⟩
  ·cases h
 ·cases h
set_option maxHeartbeats 4000000 in
set_option maxRecDepth 100000 in
theorem zmh {w:World} {b n c i vb vo vc:Nat} {L vs:List Value} {t:TypeId} (hi:i<n) (hroom:n+1≤c) (hlim:n+1≤1073741824) (hvb:vb≠b)
 (hb:w.heap[b]?=some (.cells L.toArray t (0,0))) (hL:L.length=c*6) (hvl:vs.length=6)
 (hvs:∀j v,vs[j]?=some v→w.cell? ⟨vb,vo+j,none⟩=some v) (h1:∀v∈(L.drop (i*6)).take ((n-i)*6),v.oneCell'=true) (h2:∀v∈vs,v.oneCell'=true) :
 Calls Tryz.prog 168 #[.slice (some ⟨b,0,none⟩) n c,.int .i64 i,.slice (some ⟨vb,vo,none⟩) 1 vc] w fun e w'=>
  e=.returned (.slice (some ⟨b,0,none⟩) (n+1) c)∧w'=(w.drew.setRow b (Go.splice L ((i+1)*6) ((L.drop (i*6)).take ((n-i)*6))).toArray).setRow b (Go.splice (Go.splice L ((i+1)*6) ((L.drop (i*6)).take ((n-i)*6))) (i*6) vs).toArray:=by
 obtain ⟨i0,z0,hi0,hz0,hzs,hsz,hby⟩:=zhq
 have hz2:¬((i:Int)=(n:Int)):=by omega
 have hva:∃va ta fa,w.heap[vb]?=some (.cells va ta fa)∧0<va.size:=by
  have h:=hvs 0 _ (List.getElem?_eq_getElem (by omega))
  unfold World.cell? at h
  split at h
  ·rename_i c0 t0 f0 hc0
   exact ⟨c0,t0,f0,hc0,by have:=(Array.getElem?_eq_some_iff.1 h).1;omega⟩
  ·cases h
 obtain ⟨va,ta,fa,hva,hva0⟩:=hva
 have hov:∀lb cb,(callFunc 223 #[.slice (some ⟨vb,vo,none⟩) 1 vc,.slice (some ⟨b,(i+1)*6,none⟩) lb cb]).run Tryz.prog w=.ok (.value (.bool false)) w:=fun lb cb=>by
  rw[run_callFunc_extern Tryz.func223 (by kernel_rfl) (by kernel_rfl) (by kernel_rfl) (e:=Extern.SlicesOverlaps.overlaps #[24,24] #[4]) (by kernel_rfl),
   zd4 Tryz.underlying24 hi0 (a:=⟨vb,vo,none⟩) (b:=⟨b,(i+1)*6,none⟩) hvb hva hva0 hb (by simp only[List.size_toArray];omega)]
  rfl
 have hLn:(n+1)*6≤L.length:=by rw[hL];exact Nat.mul_le_mul_right _ hroom
 obtain ⟨C1,hC1⟩:∃C1,C1=(L.drop (i*6)).take ((n-i)*6):=⟨_,rfl⟩
 have hC1l:C1.length=(n-i)*6:=by rw[hC1];simp;omega
 obtain ⟨M1,hM1⟩:∃M1,M1=Go.splice L ((i+1)*6) C1:=⟨_,rfl⟩
 have hM1l:M1.length=L.length:=by rw[hM1];exact length_splice _ _ _ (by omega)
 rw[←hC1,←hM1]
 have hcp1:∀ty dc sc,(Builtin.copy_ #[24,24] ty #[.slice (some ⟨b,(i+1)*6,none⟩) (n-i) dc,.slice (some ⟨b,i*6,none⟩) (n+1-i) sc]).run Tryz.prog w.drew=.ok (goInt ((n-i:Nat):Int)) (w.drew.setRow b M1.toArray):=fun ty dc sc=>by
  have hmin:Nat.min (n+1-i) (n-i)=n-i:=by show min _ _=_;omega
  have:=zbr (P:=Tryz.prog) (w:=w.drew) (sT:=24) (ty:=ty) (dCap:=dc) (sCap:=sc) (dLen:=n-i) (sLen:=n+1-i) (o:=(i+1)*6) (a:=⟨b,i*6,none⟩) Tryz.underlying24 hi0 hsz hb (cs:=C1) (by rw[hmin];exact hC1l)
   (fun j v hj=>by
    rw[Addr.add_lit]
    show w.cell? _=_
    simp only[World.cell?,hb]
    rw[hC1,List.getElem?_take]at hj
    split at hj
    ·simpa using hj
    ·cases hj) (by omega) (by rw[hC1];exact h1)
  rw[hmin,←hM1]at this
  exact this
 have hcp2:∀(W:World),W=(w.drew.setRow b M1.toArray)→∀ty dc,(Builtin.copy_ #[24,24] ty #[.slice (some ⟨b,i*6,none⟩) (n+1-i) dc,.slice (some ⟨vb,vo,none⟩) 1 vc]).run Tryz.prog W=.ok (goInt 1) (W.setRow b (Go.splice M1 (i*6) vs).toArray):=fun W hW ty dc=>by
  have hmin:Nat.min 1 (n+1-i)=1:=by show min _ _=_;omega
  have:=zbr (P:=Tryz.prog) (w:=W) (sT:=24) (ty:=ty) (dCap:=dc) (sCap:=vc) (dLen:=n+1-i) (sLen:=1) (o:=i*6) (a:=⟨vb,vo,none⟩) Tryz.underlying24 hi0 hsz (g:=b) (t:=t) (L:=M1) (by rw[hW];exact setRow_heap _ _ _ _ _ _ hb) (cs:=vs) (by rw[hmin];omega)
   (fun j v hj=>by
    rw[Addr.add_lit,hW,cell_setRow_other _ _ _ _ hvb]
    exact hvs j v hj) (by omega) h2
  rw[hmin]at this
  exact this
 have hw1:IntKind.i64.wrap ((i:Int)+1)=(i:Int)+1:=by rw[IntKind.wrap_i64];omega
 have hb1:(0:Int)≤(i:Int)+1:=by omega
 have hin:i≤n:=by omega
 have htn:((i:Int)+1).toNat=i+1:=by omega
 have hb2:¬(c=i+1):=by omega
 have hb3:(i:Int)≤(n:Int)+1:=by omega
 have hb4:¬(c=i):=by omega
 have mixed:Tryz.prog.follows .mixedOrders=true:=by kernel_rfl
 clear hC1 hM1 hC1l hM1l h1 h2 hvs hL
 go_enter Tryz.func168,Tryz.ntmps168
 go_wp2_with (simp only[hov])
 go_region_law_o (refine zdm rfl _ _ 24 24 rfl _ _ (by simp[Act.eval,Act.put]) (by simp[Act.eval,Act.put]) (hcp1 _ _ _) ?_)
 go_wp2_with (at_builtin;refine zl7 rfl _ _ 24 24 rfl _ _ rfl rfl (hcp2 _ rfl _ _) ?_)
 go_ret
 exact ⟨rfl,rfl⟩
theorem zmu {i0:TypeInfo} {k c:Nat} (h:c<k) (hk:k≤1073741824) (hby:i0.bytes≤128):Builtin.nextslicecap k c*i0.bytes≤281474976710656:=
 growslice_fits h (Nat.le_trans (Nat.mul_le_mul hk hby) (by decide))
set_option maxHeartbeats 4000000 in
set_option maxRecDepth 100000 in
theorem zpc {w:World} {b n c vb vo vc:Nat} {L vs:List Value} {t:TypeId} (hroom:n+1≤c) (hlim:n+1≤1073741824)
 (hb:w.heap[b]?=some (.cells L.toArray t (0,0))) (hL:L.length=c*6) (hvl:vs.length=6)
 (hvs:∀j v,vs[j]?=some v→w.cell? ⟨vb,vo+j,none⟩=some v) (h2:∀v∈vs,v.oneCell'=true) :
 Calls Tryz.prog 168 #[.slice (some ⟨b,0,none⟩) n c,.int .i64 n,.slice (some ⟨vb,vo,none⟩) 1 vc] w fun e w'=>
  e=.returned (.slice (some ⟨b,0,none⟩) (n+1) c)∧w'=w.setRow b (Go.splice L (n*6) vs).toArray:=by
 obtain ⟨i0,z0,hi0,hz0,hzs,hsz,hby⟩:=zhq
 have hLn:(n+1)*6≤L.length:=by rw[hL];exact Nat.mul_le_mul_right _ hroom
 have hf:=run_firstCells_some (P:=Tryz.prog) w i0.size 1 ⟨vb,vo,none⟩ 1 vc vs (by omega) (fun j v hj=>by rw[Addr.add_lit];exact hvs j v hj)
 have hap:∀ty,(Builtin.append_ #[24,24] ty #[.slice (some ⟨b,0,none⟩) n c,.slice (some ⟨vb,vo,none⟩) 1 vc]).run Tryz.prog w=.ok (.slice (some ⟨b,0,none⟩) (n+1) c) (w.setRow b (Go.splice L (n*6) vs).toArray):=fun ty=>by
  have:=zcf (P:=Tryz.prog) (w:=w) (ty:=ty) (ts:=#[24,24]) rfl rfl Tryz.underlying24 Tryz.underlying24 hi0 hf hroom hb (by simp only[List.size_toArray];rw[hsz];omega) h2
  rw[hsz]at this
  simpa[Go.splice]using this
 go_enter Tryz.func168,Tryz.ntmps168
 go_wp2_with (at_builtin;refine zbs rfl _ _ _ _ rfl _ _ rfl rfl (hap _) ?_)
 all_goals (go_ret;exact ⟨rfl,rfl⟩)
set_option maxHeartbeats 4000000 in
set_option maxRecDepth 100000 in
theorem zrd {w:World} {base:Option Addr} {n c vb vo vc:Nat} {olds vs:List Value} (hnc:n≤c) (hroom:c<n+1) (hlim:n+1≤1073741824) (hvl:vs.length=6)
 (hnil:base=none→n=0) (hol:olds.length=n*6) (hos:∀a,base=some a→∀j v,olds[j]?=some v→w.cell? (a.add j)=some v)
 (hvs:∀j v,vs[j]?=some v→w.cell? ⟨vb,vo+j,none⟩=some v) :
 Calls Tryz.prog 168 #[.slice base n c,.int .i64 n,.slice (some ⟨vb,vo,none⟩) 1 vc] w fun e w'=>
  ∃cap zs,e=.returned (.slice (some ⟨w.heap.size,0,none⟩) (n+1) cap)∧w'=w.drew.alloc (.cells (olds++(vs++zs)).toArray 73)∧n+1≤cap∧zs.length=(cap-(n+1))*6:=by
 obtain ⟨i0,z0,hi0,hz0,hzs,hsz,hby⟩:=zhq
 have hf:=run_firstCells_some (P:=Tryz.prog) w.drew i0.size 1 ⟨vb,vo,none⟩ 1 vc vs (by omega) (fun j v hj=>by rw[Addr.add_lit];exact hvs j v hj)
 have hold:(Builtin.firstCells i0.size n (.slice base n c)).run Tryz.prog w.drew=.ok olds.toArray w.drew:=by
  cases base with
  |none=>
   have h0:=hnil rfl
   subst h0
   rw[List.length_eq_zero_iff.1 (by omega:olds.length=0)]
   exact run_firstCells_none w.drew _ 0 0 c
  |some a=>exact run_firstCells_some w.drew _ n a n c olds (by rw[hsz];omega) (fun j v hj=>hos a rfl j v hj)
 have hap:∀ty,(Builtin.append_ #[24,24] ty #[.slice base n c,.slice (some ⟨vb,vo,none⟩) 1 vc]).run Tryz.prog w=_:=fun ty=>
  zcx (P:=Tryz.prog) (w:=w) (ty:=ty) (ts:=#[24,24]) rfl rfl Tryz.underlying24 Tryz.underlying24 hi0 hz0 hf hold hroom (by omega) (zmu hroom hlim hby)
 have hge:=zco w (n+1) c 73
 obtain ⟨G,hG⟩:∃G,G=grownCap w (n+1) c 73:=⟨_,rfl⟩
 obtain ⟨zs,hzs'⟩:∃zs,zs=(Builtin.zeroCells z0.cells (G-(n+1))).toList:=⟨_,rfl⟩
 rw[←hG]at hap hge
 rw[←hzs']at hap
 have hzl:zs.length=(G-(n+1))*6:=by rw[hzs',Array.length_toList,size_zeroCells,hzs]
 clear hG hzs'
 go_enter Tryz.func168,Tryz.ntmps168
 cases base with
 |none=>
  have h0:=hnil rfl
  subst h0
  go_wp2_with (at_builtin;refine zbs rfl _ _ _ _ rfl _ _ rfl rfl (hap _) ?_)
  all_goals (go_ret;first|exact ⟨_,_,rfl,rfl,hge,hzl⟩|exact ⟨_,rfl,_,rfl,hge,hzl⟩)
 |some a=>
  obtain ⟨ab,ao,asp⟩:=a
  go_wp2_with (at_builtin;refine zbs rfl _ _ _ _ rfl _ _ rfl rfl (hap _) ?_)
  all_goals (go_ret;first|exact ⟨_,_,rfl,rfl,hge,hzl⟩|exact ⟨_,rfl,_,rfl,hge,hzl⟩)
set_option maxHeartbeats 4000000 in
set_option maxRecDepth 100000 in
theorem zpb {w:World} {b n c i vb vo vc:Nat} {L vs:List Value} {t:TypeId} (hi:i<n) (hnc:n≤c) (hroom:c<n+1) (hlim:n+1≤1073741824) (hvb:vb≠b)
 (hb:w.heap[b]?=some (.cells L.toArray t (0,0))) (hL:L.length=c*6) (hvl:vs.length=6)
 (hvs:∀j v,vs[j]?=some v→w.cell? ⟨vb,vo+j,none⟩=some v) (h1:∀v∈(L.drop (i*6)).take ((n-i)*6),v.oneCell'=true) (h2:∀v∈vs,v.oneCell'=true) :
 Calls Tryz.prog 168 #[.slice (some ⟨b,0,none⟩) n c,.int .i64 i,.slice (some ⟨vb,vo,none⟩) 1 vc] w fun e w'=>
  ∃cap row,e=.returned (.slice (some ⟨w.heap.size,0,none⟩) (n+1) cap)∧n+1≤cap∧row.length=cap*6∧row.take (i*6)=L.take (i*6)∧
   w'.heap=(w.heap.push (.cells (Go.splice (Go.splice row (i*6) vs) ((i+1)*6) ((L.drop (i*6)).take ((n-i)*6))).toArray 73))∧w'.os=w.os∧w'.output=w.output∧w'.tape=w.tape:=by
 obtain ⟨i0,z0,hi0,hz0,hzs,hsz,hby⟩:=zhq
 have hz2:¬((i:Int)=(n:Int)):=by omega
 have hz3:(c:Int)<(n:Int)+1:=by omega
 have hLn:n*6≤L.length:=by rw[hL];exact Nat.mul_le_mul_right _ hnc
 have hbw:b<w.heap.size:=(Array.getElem?_eq_some_iff.1 hb).1
 have hvw:vb<w.heap.size:=by
  have h:=hvs 0 _ (List.getElem?_eq_getElem (by omega))
  unfold World.cell? at h
  split at h
  ·rename_i c0 t0 f0 hc0
   exact (Array.getElem?_eq_some_iff.1 hc0).1
  ·cases h
 have hkk:(n:Int)+1-(i:Int)=((n+1-i:Nat):Int):=by omega
 have hik:i+(n+1-i)=n+1:=by omega
 have hTl:(L.take (i*6)).length=i*6:=by simp;omega
 have hold:(Builtin.firstCells i0.size i (.slice (some ⟨b,0,none⟩) i c)).run Tryz.prog w.drew=.ok (L.take (i*6)).toArray w.drew:=by
  refine run_firstCells_some w.drew _ i ⟨b,0,none⟩ i c (L.take (i*6)) (by rw[hsz];exact hTl) (fun j v hj=>?_)
  rw[Addr.add_lit,Nat.zero_add]
  show w.cell? _=_
  simp only[World.cell?,hb]
  rw[List.getElem?_take]at hj
  split at hj
  ·simpa using hj
  ·cases hj
 have hrz:∀ty,(Builtin.append_ #[24,3] ty #[.slice (some ⟨b,0,none⟩) i c,.int .i64 ((n:Int)+1-(i:Int))]).run Tryz.prog w =
  .ok (.slice (some ⟨w.heap.size,0,none⟩) (n+1) (grownCap w (n+1) c 73)) (w.drew.alloc (.cells ((L.take (i*6)).toArray++Builtin.zeroCells z0.cells (n+1-i)++Builtin.zeroCells z0.cells (grownCap w (n+1) c 73-(n+1))) 73)):=fun ty=>by
  have h:=Lib.run_append_grow_zeros w 24 3 ty 73 i0 _ .i64 .i64 Tryz.underlying24 Tryz.underlying3 hi0 hz0 (some ⟨b,0,none⟩) i c _ hold (n+1-i) (by omega) (by omega) (by omega) (by omega)
   (Nat.le_trans (Nat.mul_le_mul (show n+1-i≤1073741824 by omega) hby) (by decide)) (by rw[hik];exact zmu hroom hlim hby)
  rw[hik]at h
  rw[hkk]
  exact h
 have hge:=zco w (n+1) c 73
 obtain ⟨G,hG⟩:∃G,G=grownCap w (n+1) c 73:=⟨_,rfl⟩
 rw[←hG]at hrz hge
 have hG63:G≤9223372036854775807:=by
  have:=grownCap_le_maxLen w (n+1) c 73 (by unfold maxLen;omega)
  rw[←hG]at this
  unfold maxLen at this
  omega
 obtain ⟨R,hR⟩:∃R:List Value,R=L.take (i*6)++((Builtin.zeroCells z0.cells (n+1-i)).toList++(Builtin.zeroCells z0.cells (G-(n+1))).toList):=⟨_,rfl⟩
 have hRl:R.length=G*6:=by
  rw[hR]
  simp only[List.length_append,Array.length_toList,size_zeroCells,hzs,hTl]
  rw[←Nat.add_mul,←Nat.add_mul]
  congr 1
  omega
 have hRt:R.take (i*6)=L.take (i*6):=by rw[hR,List.take_append_of_le_length (by omega),List.take_of_length_le (by omega)]
 have hRe:(L.take (i*6)).toArray++Builtin.zeroCells z0.cells (n+1-i)++Builtin.zeroCells z0.cells (G-(n+1))=R.toArray:=by
  rw[hR];apply Array.ext';simp
 rw[hRe]at hrz
 obtain ⟨C1,hC1⟩:∃C1,C1=(L.drop (i*6)).take ((n-i)*6):=⟨_,rfl⟩
 have hC1l:C1.length=(n-i)*6:=by rw[hC1];simp;omega
 have hGn:(n+1)*6≤R.length:=by rw[hRl];exact Nat.mul_le_mul_right _ hge
 obtain ⟨M1,hM1⟩:∃M1,M1=Go.splice R (i*6) vs:=⟨_,rfl⟩
 have hM1l:M1.length=R.length:=by rw[hM1];exact length_splice _ _ _ (by omega)
 rw[←hC1]
 obtain ⟨gb,hgb⟩:∃gb,gb=w.heap.size:=⟨_,rfl⟩
 have hnew:∀W:World,W.heap=w.heap.push (.cells R.toArray 73)→W.heap[gb]?=some (.cells R.toArray 73 (0,0)):=fun W hW=>by rw[hW,hgb];simp
 have hpast:∀W:World,W.heap=w.heap.push (.cells R.toArray 73)→∀k,k<w.heap.size→W.heap[k]?=w.heap[k]?:=fun W hW k hk=>by rw[hW,Array.getElem?_push_lt hk];simp[hk]
 have hcpA:∀(W:World),W.heap=w.heap.push (.cells R.toArray 73)→∀ty dc,(Builtin.copy_ #[24,24] ty #[.slice (some ⟨gb,i*6,none⟩) (n+1-i) dc,.slice (some ⟨vb,vo,none⟩) 1 vc]).run Tryz.prog W=.ok (goInt 1) (W.setRow gb M1.toArray):=fun W hW ty dc=>by
  have hmin:Nat.min 1 (n+1-i)=1:=by show min _ _=_;omega
  have:=zbr (P:=Tryz.prog) (w:=W) (sT:=24) (ty:=ty) (dCap:=dc) (sCap:=vc) (dLen:=n+1-i) (sLen:=1) (o:=i*6) (a:=⟨vb,vo,none⟩) Tryz.underlying24 hi0 hsz (g:=gb) (t:=73) (L:=R) (hnew W hW) (cs:=vs) (by rw[hmin];omega)
   (fun j v hj=>by
    rw[Addr.add_lit]
    unfold World.cell?
    rw[show W.heap[(⟨vb,vo+j,none⟩:Addr).block]?=w.heap[vb]? from hpast W hW vb hvw]
    exact hvs j v hj) (by omega) h2
  rw[hmin,←hM1]at this
  exact this
 have hcpB:∀(W W0:World),W0.heap=w.heap.push (.cells R.toArray 73)→W.heap=(W0.setRow gb M1.toArray).heap→∀ty dc sc,(Builtin.copy_ #[24,24] ty #[.slice (some ⟨gb,(i+1)*6,none⟩) (n-i) dc,.slice (some ⟨b,i*6,none⟩) (n-i) sc]).run Tryz.prog W=.ok (goInt ((n-i:Nat):Int)) (W.setRow gb (Go.splice M1 ((i+1)*6) C1).toArray):=fun W W0 hW0 hW ty dc sc=>by
  have hmin:Nat.min (n-i) (n-i)=n-i:=by show min _ _=_;omega
  have:=zbr (P:=Tryz.prog) (w:=W) (sT:=24) (ty:=ty) (dCap:=dc) (sCap:=sc) (dLen:=n-i) (sLen:=n-i) (o:=(i+1)*6) (a:=⟨b,i*6,none⟩) Tryz.underlying24 hi0 hsz (g:=gb) (t:=73) (L:=M1) (by rw[hW];exact setRow_heap _ _ _ _ _ _ (hnew W0 hW0)) (cs:=C1) (by rw[hmin];exact hC1l)
   (fun j v hj=>by
    rw[Addr.add_lit]
    unfold World.cell?
    have e:W.heap[(⟨b,i*6+j,none⟩:Addr).block]?=w.heap[b]?:=by
     show W.heap[b]?=_
     rw[hW,setRow_other _ _ _ _ (by omega),hpast W0 hW0 b hbw]
    rw[e,hb]
    rw[hC1,List.getElem?_take]at hj
    split at hj
    ·simpa using hj
    ·cases hj) (by omega) (by rw[hC1];exact h1)
  rw[hmin]at this
  exact this
 have hw1:IntKind.i64.wrap ((i:Int)+1)=(i:Int)+1:=by rw[IntKind.wrap_i64];omega
 have hb1:(0:Int)≤(i:Int)+1:=by omega
 have hin:i≤n:=by omega
 have htn:((i:Int)+1).toNat=i+1:=by omega
 have hb3:(i:Int)≤(n:Int):=by omega
 have hGi:¬(G=i):=by omega
 have hGim:¬(G=i+1):=by omega
 have hci:¬(c=i):=by omega
 have hmixed:Tryz.prog.follows .mixedOrders=true:=by kernel_rfl
 have mixed:=hmixed
 have hfin:∀W W0:World,W0.heap=w.heap.push (.cells R.toArray 73)→W.heap=(W0.setRow gb M1.toArray).heap→(W.setRow gb (Go.splice M1 ((i+1)*6) C1).toArray).heap=w.heap.push (.cells (Go.splice M1 ((i+1)*6) C1).toArray 73):=fun W W0 hW0 hW=>by
  have h1:W.heap[gb]?=some (.cells M1.toArray 73 (0,0)):=by rw[hW];exact setRow_heap _ _ _ _ _ _ (hnew W0 hW0)
  have hsz0:W.heap.size=w.heap.size+1:=by rw[hW,setRow_size,hW0];simp
  apply Array.ext_getElem?
  intro k
  by_cases hk:k=gb
  ·subst hk
   rw[setRow_heap _ _ _ _ _ _ h1,hgb];simp
  ·rw[setRow_other _ _ _ _ hk]
   by_cases hk2:k<w.heap.size
   ·rw[hW,setRow_other _ _ _ _ hk,hpast W0 hW0 k hk2,Array.getElem?_push_lt hk2];simp[hk2]
   ·rw[Array.getElem?_eq_none (by omega),Array.getElem?_eq_none (by simp;omega)]
 have hMM:Go.splice (Go.splice R (i*6) vs) ((i+1)*6) C1=Go.splice M1 ((i+1)*6) C1:=by rw[hM1]
 subst hgb
 have hcpA':=hcpA ((w.alloc (.cells R.toArray 73)).drew) rfl
 clear hkk hcpA hik hold hG hR hRe hC1 hM1 hC1l hM1l h1 h2 hvs hL hTl
 go_enter Tryz.func168,Tryz.ntmps168
 go_wp2_with (at_builtin;refine zbs rfl _ _ _ _ rfl _ _ rfl rfl (hrz _) ?_)
 go_region_law_o (refine zdm rfl _ _ 24 24 rfl (.slice (some ⟨w.heap.size,(i+1)*6,none⟩) (n-i) (G-(i+1))) (.slice (some ⟨b,i*6,none⟩) (n-i) (c-i)) (by simp[Act.eval,Act.put]) (by simp[Act.eval,Act.put]) (hcpB (((w.alloc (.cells R.toArray 73)).drew.setRow w.heap.size M1.toArray).drew) (w.drew.alloc (.cells R.toArray 73)) rfl rfl 3 (G-(i+1)) (c-i)) ?_)
 go_wp2
 go_ret
 refine ⟨G,R,rfl,hge,hRl,hRt,?_,rfl,rfl,rfl⟩
 rw[hMM]
 exact hfin _ (w.drew.alloc (.cells R.toArray 73)) rfl rfl
end Go.Proofs.YtpaidiaknfhclaaGreatDoor
namespace Go.Proofs.YtpaidiaknfhclaaGreatDoor
open Go Ev
theorem z0u:∃i0 z,Tryz.prog.info? 75=some i0∧i0.zero=some z∧z.cells.size=11∧i0.size=11∧∀v∈z.cells,v.oneCell'=true:=by
 have h:(match Tryz.prog.info? 75 with|some i=>(match i.zero with|some z=>Nat.beq z.cells.size 11&&Nat.beq i.size 11&&z.cells.toList.all (·.oneCell')|none=>false)|none=>false)=true:=by kernel_rfl
 split at h
 ·rename_i i hi
  split at h
  ·rename_i z hz
   simp only[Bool.and_eq_true]at h
   exact ⟨i,z,hi,hz,Nat.eq_of_beq_eq_true h.1.1,Nat.eq_of_beq_eq_true h.1.2,fun v hv=>List.all_eq_true.1 h.2 v (by simpa using hv)⟩
  ·cases h
 ·cases h
set_option maxHeartbeats 4000000 in
set_option maxRecDepth 100000 in
theorem zo1 {w:World} {base:Option Addr} {n c i:Nat} (hnc:n≤c) (hi:i≤n) :
 Calls Tryz.prog 225 #[.slice base n c,.int .i64 i,.int .i64 i] w fun e w'=>e=.returned (.slice base n c)∧w'=w:=by
 cases base with
 |none=>
  go_enter Tryz.func225,Tryz.ntmps225
  go_wp2
  all_goals (go_ret;exact ⟨rfl,rfl⟩)
 |some a=>
  obtain ⟨ab,ao,asp⟩:=a
  go_enter Tryz.func225,Tryz.ntmps225
  go_wp2
  all_goals (go_ret;exact ⟨rfl,rfl⟩)
set_option maxHeartbeats 4000000 in
set_option maxRecDepth 100000 in
theorem zo2 {w:World} {b n c i j:Nat} {L:List Value} {t:TypeId} (hij:i<j) (hj:j≤n) (hnc:n≤c)
 (hb:w.heap[b]?=some (.cells L.toArray t (0,0))) (hL:L.length=c*11) (h1:∀v∈(L.drop (j*11)).take ((n-j)*11),v.oneCell'=true) :
 Calls Tryz.prog 225 #[.slice (some ⟨b,0,none⟩) n c,.int .i64 i,.int .i64 j] w fun e w'=>
  e=.returned (.slice (some ⟨b,0,none⟩) (i+(n-j)) c)∧∃(M0:Array Value) (zs:List Value),zs.length=(j-i)*11∧w'=(w.drew.setRow b M0).setRow b (Go.splice (Go.splice L (i*11) ((L.drop (j*11)).take ((n-j)*11))) ((i+(n-j))*11) zs).toArray:=by
 obtain ⟨i0,z0,hi0,hz0,hzs,hsz,hz1⟩:=z0u
 have hLn:n*11≤L.length:=by rw[hL];exact Nat.mul_le_mul_right _ hnc
 obtain ⟨C1,hC1⟩:∃C1,C1=(L.drop (j*11)).take ((n-j)*11):=⟨_,rfl⟩
 have hC1l:C1.length=(n-j)*11:=by rw[hC1];simp;omega
 obtain ⟨M1,hM1⟩:∃M1,M1=Go.splice L (i*11) C1:=⟨_,rfl⟩
 have hM1l:M1.length=L.length:=by rw[hM1];exact length_splice _ _ _ (by omega)
 rw[←hC1,←hM1]
 obtain ⟨A,hA,hsrc⟩:∃A:Addr,(if c=j then some (⟨b,0,none⟩:Addr) else some ⟨b,j*11,none⟩)=some A∧∀q v,C1[q]?=some v→w.drew.cell? (A.add q)=some v:=by
  by_cases h:c=j
  ·refine ⟨⟨b,0,none⟩,by simp[h],fun q v hq=>?_⟩
   have:=(List.getElem?_eq_some_iff.1 hq).1
   omega
  ·refine ⟨⟨b,j*11,none⟩,by simp[h],fun q v hq=>?_⟩
   rw[Addr.add_lit]
   show w.cell? _=_
   simp only[World.cell?,hb]
   rw[hC1,List.getElem?_take]at hq
   split at hq
   ·simpa using hq
   ·cases hq
 have hf:∀xc,(Builtin.firstCells i0.size (n-j) (.slice (some A) (n-j) xc)).run Tryz.prog w.drew=.ok C1.toArray w.drew:=fun xc=>run_firstCells_some (P:=Tryz.prog) w.drew i0.size (n-j) A (n-j) xc C1 (by rw[hsz];exact hC1l) hsrc
 have hone:∀v∈C1,v.oneCell'=true:=by rw[hC1];exact h1
 have hap:∀ty xc,(Builtin.append_ #[25,25] ty #[.slice (some ⟨b,0,none⟩) i c,.slice (some A) (n-j) xc]).run Tryz.prog w.drew=.ok (.slice (some ⟨b,0,none⟩) (i+(n-j)) c) (w.drew.setRow b M1.toArray):=fun ty xc=>by
  have:=zcf (P:=Tryz.prog) (w:=w.drew) (ty:=ty) (ts:=#[25,25]) rfl rfl Tryz.underlying25 Tryz.underlying25 hi0 (hf xc) (sLen:=i) (sCap:=c) (by omega) hb (by simp only[List.size_toArray];rw[hsz];omega) hone
  rw[hsz]at this
  rw[hM1]
  simpa[Go.splice]using this
 obtain ⟨zs,hzs'⟩:∃zs,zs=(Builtin.zeroCells z0.cells (j-i)).toList:=⟨_,rfl⟩
 have hzl:zs.length=(j-i)*11:=by rw[hzs',Array.length_toList,Go.size_zeroCells,hzs]
 have hcl:∀ty cc,(Builtin.clear_ #[25] ty #[.slice (some ⟨b,(i+(n-j))*11,none⟩) (n-(i+(n-j))) cc]).run Tryz.prog (w.drew.setRow b M1.toArray)=.ok (.tuple #[]) ((w.drew.setRow b M1.toArray).setRow b (Go.splice M1 ((i+(n-j))*11) zs).toArray):=fun ty cc=>by
  have e:n-(i+(n-j))=j-i:=by omega
  rw[e,hzs']
  exact zls (P:=Tryz.prog) (w:=w.drew.setRow b M1.toArray) Tryz.underlying25 hi0 hz0 (by omega) (setRow_heap _ _ _ _ _ _ hb) (by rw[hzs];omega) hz1
 have hic:i≤c:=by omega
 have hjc:j≤c:=by omega
 have mixed:Tryz.prog.follows .mixedOrders=true:=by kernel_rfl
 clear hC1 hM1 hC1l hM1l h1 hL hf hone hzs'
 go_enter Tryz.func225,Tryz.ntmps225
 go_wp2_with fail
 go_region_law_o (refine zof rfl (.tmp 22) (.tmp 25) 25 25 rfl (.slice (some ⟨b,0,none⟩) i c) (.slice (some A) (n-j) (c-j)) (by simp[Act.eval,Act.put]) (by simp[Act.eval,Act.put]) (hap _ _) ?_)
 go_wp2
 go_ret
 exact ⟨rfl,_,zs,hzl,rfl⟩
end Go.Proofs.YtpaidiaknfhclaaGreatDoor
namespace Go.Proofs.YtpaidiaknfhclaaGreatDoor
open Go Ev
theorem z0v:∃i0 z,Tryz.prog.info? 73=some i0∧i0.zero=some z∧z.cells.size=6∧i0.size=6∧∀v∈z.cells,v.oneCell'=true:=by
 have h:(match Tryz.prog.info? 73 with|some i=>(match i.zero with|some z=>Nat.beq z.cells.size 6&&Nat.beq i.size 6&&z.cells.toList.all (·.oneCell')|none=>false)|none=>false)=true:=by kernel_rfl
 split at h
 ·rename_i i hi
  split at h
  ·rename_i z hz
   simp only[Bool.and_eq_true]at h
   exact ⟨i,z,hi,hz,Nat.eq_of_beq_eq_true h.1.1,Nat.eq_of_beq_eq_true h.1.2,fun v hv=>List.all_eq_true.1 h.2 v (by simpa using hv)⟩
  ·cases h
 ·cases h
set_option maxHeartbeats 4000000 in
set_option maxRecDepth 100000 in
theorem zo3 {w:World} {base:Option Addr} {n c i:Nat} (hnc:n≤c) (hi:i≤n) :
 Calls Tryz.prog 187 #[.slice base n c,.int .i64 i,.int .i64 i] w fun e w'=>e=.returned (.slice base n c)∧w'=w:=by
 cases base with
 |none=>
  go_enter Tryz.func187,Tryz.ntmps187
  go_wp2
  all_goals (go_ret;exact ⟨rfl,rfl⟩)
 |some a=>
  obtain ⟨ab,ao,asp⟩:=a
  go_enter Tryz.func187,Tryz.ntmps187
  go_wp2
  all_goals (go_ret;exact ⟨rfl,rfl⟩)
set_option maxHeartbeats 4000000 in
set_option maxRecDepth 100000 in
theorem zo4 {w:World} {b n c i j:Nat} {L:List Value} {t:TypeId} (hij:i<j) (hj:j≤n) (hnc:n≤c)
 (hb:w.heap[b]?=some (.cells L.toArray t (0,0))) (hL:L.length=c*6) (h1:∀v∈(L.drop (j*6)).take ((n-j)*6),v.oneCell'=true) :
 Calls Tryz.prog 187 #[.slice (some ⟨b,0,none⟩) n c,.int .i64 i,.int .i64 j] w fun e w'=>
  e=.returned (.slice (some ⟨b,0,none⟩) (i+(n-j)) c)∧∃(M0:Array Value) (zs:List Value),zs.length=(j-i)*6∧w'=(w.drew.setRow b M0).setRow b (Go.splice (Go.splice L (i*6) ((L.drop (j*6)).take ((n-j)*6))) ((i+(n-j))*6) zs).toArray:=by
 obtain ⟨i0,z0,hi0,hz0,hzs,hsz,hz1⟩:=z0v
 have hLn:n*6≤L.length:=by rw[hL];exact Nat.mul_le_mul_right _ hnc
 obtain ⟨C1,hC1⟩:∃C1,C1=(L.drop (j*6)).take ((n-j)*6):=⟨_,rfl⟩
 have hC1l:C1.length=(n-j)*6:=by rw[hC1];simp;omega
 obtain ⟨M1,hM1⟩:∃M1,M1=Go.splice L (i*6) C1:=⟨_,rfl⟩
 have hM1l:M1.length=L.length:=by rw[hM1];exact length_splice _ _ _ (by omega)
 rw[←hC1,←hM1]
 obtain ⟨A,hA,hsrc⟩:∃A:Addr,(if c=j then some (⟨b,0,none⟩:Addr) else some ⟨b,j*6,none⟩)=some A∧∀q v,C1[q]?=some v→w.drew.cell? (A.add q)=some v:=by
  by_cases h:c=j
  ·refine ⟨⟨b,0,none⟩,by simp[h],fun q v hq=>?_⟩
   have:=(List.getElem?_eq_some_iff.1 hq).1
   omega
  ·refine ⟨⟨b,j*6,none⟩,by simp[h],fun q v hq=>?_⟩
   rw[Addr.add_lit]
   show w.cell? _=_
   simp only[World.cell?,hb]
   rw[hC1,List.getElem?_take]at hq
   split at hq
   ·simpa using hq
   ·cases hq
 have hf:∀xc,(Builtin.firstCells i0.size (n-j) (.slice (some A) (n-j) xc)).run Tryz.prog w.drew=.ok C1.toArray w.drew:=fun xc=>run_firstCells_some (P:=Tryz.prog) w.drew i0.size (n-j) A (n-j) xc C1 (by rw[hsz];exact hC1l) hsrc
 have hone:∀v∈C1,v.oneCell'=true:=by rw[hC1];exact h1
 have hap:∀ty xc,(Builtin.append_ #[24,24] ty #[.slice (some ⟨b,0,none⟩) i c,.slice (some A) (n-j) xc]).run Tryz.prog w.drew=.ok (.slice (some ⟨b,0,none⟩) (i+(n-j)) c) (w.drew.setRow b M1.toArray):=fun ty xc=>by
  have:=zcf (P:=Tryz.prog) (w:=w.drew) (ty:=ty) (ts:=#[24,24]) rfl rfl Tryz.underlying24 Tryz.underlying24 hi0 (hf xc) (sLen:=i) (sCap:=c) (by omega) hb (by simp only[List.size_toArray];rw[hsz];omega) hone
  rw[hsz]at this
  rw[hM1]
  simpa[Go.splice]using this
 obtain ⟨zs,hzs'⟩:∃zs,zs=(Builtin.zeroCells z0.cells (j-i)).toList:=⟨_,rfl⟩
 have hzl:zs.length=(j-i)*6:=by rw[hzs',Array.length_toList,Go.size_zeroCells,hzs]
 have hcl:∀ty cc,(Builtin.clear_ #[24] ty #[.slice (some ⟨b,(i+(n-j))*6,none⟩) (n-(i+(n-j))) cc]).run Tryz.prog (w.drew.setRow b M1.toArray)=.ok (.tuple #[]) ((w.drew.setRow b M1.toArray).setRow b (Go.splice M1 ((i+(n-j))*6) zs).toArray):=fun ty cc=>by
  have e:n-(i+(n-j))=j-i:=by omega
  rw[e,hzs']
  exact zls (P:=Tryz.prog) (w:=w.drew.setRow b M1.toArray) Tryz.underlying24 hi0 hz0 (by omega) (setRow_heap _ _ _ _ _ _ hb) (by rw[hzs];omega) hz1
 have hic:i≤c:=by omega
 have hjc:j≤c:=by omega
 have mixed:Tryz.prog.follows .mixedOrders=true:=by kernel_rfl
 clear hC1 hM1 hC1l hM1l h1 hL hf hone hzs'
 go_enter Tryz.func187,Tryz.ntmps187
 go_wp2_with fail
 go_region_law_o (refine zof rfl (.tmp 22) (.tmp 25) 24 24 rfl (.slice (some ⟨b,0,none⟩) i c) (.slice (some A) (n-j) (c-j)) (by simp[Act.eval,Act.put]) (by simp[Act.eval,Act.put]) (hap _ _) ?_)
 go_wp2
 go_ret
 exact ⟨rfl,_,zs,hzl,rfl⟩
end Go.Proofs.YtpaidiaknfhclaaGreatDoor
namespace Go.Proofs.YtpaidiaknfhclaaGreatDoor
open Go Ev
open Go.Lib Go.RowKit
theorem za5i {X:Ending} (a:Int) {b:Int} (h:X=.returned (.int .i64 a)) (e:a=b):X=.returned (.int .i64 b):=e▸h
theorem zauw (b cap:Nat) (x y z:Int) (w:World) (h0:w.cell? ⟨b,0,none⟩=some (.int .i64 x)) (h1:w.cell? ⟨b,1,none⟩=some (.int .i64 y)) (h2:w.cell? ⟨b,2,none⟩=some (.int .i64 z)) :
 Calls Tryz.prog 61 #[.slice (some ⟨b,0,none⟩) 3 cap] w fun e w'=>e=.returned (.int .i64 (zha x (zha y z)))∧w'=w:=by
 obtain ⟨R,hR⟩:∃R,R=zha x (zha y z):=⟨_,rfl⟩
 have r0:x≠0→x=R:=fun h=>by rw[hR];unfold zha;rw[if_neg h]
 have r1:x=0→y≠0→y=R:=fun h h'=>by rw[hR];unfold zha;rw[if_pos h,if_neg h']
 have r2:x=0→y=0→z=R:=fun h h'=>by rw[hR];unfold zha;rw[if_pos h,if_pos h']
 rw[←hR]
 clear hR
 go_enter Tryz.func61,Tryz.ntmps61
 go_wp2
 go_loop [2,8] (fun r i=>∃k:Nat,k≤3∧i=.int .i64 k∧r=.int .i64 0∧(1≤k→x=0)∧(2≤k→y=0)∧(3≤k→z=0)) (fun _ i=>3-(intOf i).toNat)
 case atStart=>exact ⟨0,by omega,rfl,rfl,by omega,by omega,by omega⟩
 case round=>
  obtain ⟨k,hk,rfl,rfl,k1,k2,k3⟩:=hrel
  rcases (by omega:k=0∨k=1∨k=2∨k=3) with rfl|rfl|rfl|rfl
  ·clear k1 k2 k3
   have H1:Hid ((x != 0)=true→x=R):=fun h=>r0 (by simpa using h)
   clear r0 r1 r2
   go_wp2
   all_goals first
    |(rw[←H1.out (by assumption)];go_ret;exact ⟨rfl,rfl⟩)
    |(go_round;(case rel=>exact ⟨1,by omega,by go_num,rfl,fun _=>by simp_all,by omega,by omega⟩);(case measure=>simp[intOf]))
  ·have H1:Hid ((y != 0)=true→y=R):=fun h=>r1 (k1 (by omega)) (by simpa using h)
   have H0:Hid (x=0):=k1 (by omega)
   clear k1 k2 k3 r0 r1 r2
   go_wp2
   all_goals first
    |(rw[←H1.out (by assumption)];go_ret;exact ⟨rfl,rfl⟩)
    |(go_round;(case rel=>exact ⟨2,by omega,by go_num,rfl,fun _=>H0.out,fun _=>by simp_all,by omega⟩);(case measure=>simp[intOf]))
  ·have H1:Hid (z=R):=r2 (k1 (by omega)) (k2 (by omega))
   have H0:Hid (x=0∧y=0):=⟨k1 (by omega),k2 (by omega)⟩
   clear k1 k2 k3 r0 r1 r2
   go_wp2
   all_goals first
    |(rw[←H1.out];go_ret;exact ⟨rfl,rfl⟩)
    |(go_round;(case rel=>exact ⟨3,by omega,by go_num,rfl,fun _=>H0.out.1,fun _=>H0.out.2,fun _=>by simp_all⟩);(case measure=>simp[intOf]))
  ·have H1:Hid (0=R):=(k3 (by omega)).symm.trans (r2 (k1 (by omega)) (k2 (by omega)))
   clear k1 k2 k3 r0 r1 r2
   go_wp2
   rw[←H1.out]
   go_ret
   exact ⟨rfl,rfl⟩
def encC (x:Weed_candidate):List Value:=[.int .i64 x.id_,.int .i64 x.record,.int .i64 x.loans,.int .i64 x.last]
def cfC (a b:Weed_candidate):Int:=zha (Go.Lib.compareInt a.loans b.loans) (zha (Go.Lib.compareInt a.last b.last) (Go.Lib.compareInt a.id_ b.id_))
set_option maxHeartbeats 4000000 in
theorem zafe (a b:Weed_candidate) (W:World):Calls Tryz.prog 60 #[.agg (encC a).toArray,.agg (encC b).toArray] W fun e w'=>e=.returned (.int .i64 (cfC a b))∧∃q os',w'=Go.Sort.grow (W.drewN q) os':=by
 obtain ⟨i1,c1,l1,s1⟩:=a
 obtain ⟨i2,c2,l2,s2⟩:=b
 have hcon:∀(x y:Int) (W':World),Calls Tryz.prog 62 #[.int .i64 x,.int .i64 y] W' fun e w'=>e=.returned (.int .i64 (Go.Lib.compareInt x y))∧w'=W':=fun x y W'=>AnyG.cmp_Compare_int Tryz.laysCmp x y W'
 show Calls Tryz.prog 60 #[.agg #[.int .i64 i1,.int .i64 c1,.int .i64 l1,.int .i64 s1],.agg #[.int .i64 i2,.int .i64 c2,.int .i64 l2,.int .i64 s2]] W fun e w'=>e=.returned (.int .i64 (zha (Go.Lib.compareInt l1 l2) (zha (Go.Lib.compareInt s1 s2) (Go.Lib.compareInt i1 i2))))∧∃q os',w'=Go.Sort.grow (W.drewN q) os'
 have k1:=hcon l1 l2
 have k2:=hcon s1 s2
 have k3:=hcon i1 i2
 clear hcon
 generalize Go.Lib.compareInt l1 l2=r1 at *
 generalize Go.Lib.compareInt s1 s2=r2 at *
 generalize Go.Lib.compareInt i1 i2=r3 at *
 go_enter Tryz.func60,Tryz.ntmps60
 go_wp2
 go_region_held3 (fun w'=>w'.cell? ⟨W.heap.size,0,none⟩=some (.int .i64 i1)∧w'.cell? ⟨W.heap.size,2,none⟩=some (.int .i64 l1)∧w'.cell? ⟨W.heap.size,3,none⟩=some (.int .i64 s1)∧w'.cell? ⟨W.heap.size+1,0,none⟩=some (.int .i64 i2)∧w'.cell? ⟨W.heap.size+1,2,none⟩=some (.int .i64 l2)∧w'.cell? ⟨W.heap.size+1,3,none⟩=some (.int .i64 s2)) (go_keep)
  (first
   |(go_at_call_of 62 (Value.int .i64 l1);refine (k1 _).mono ?_;rintro e w' ⟨rfl,rfl⟩)
   |(go_at_call_of 62 (Value.int .i64 s1);refine (k2 _).mono ?_;rintro e w' ⟨rfl,rfl⟩)
   |(go_at_call_of 62 (Value.int .i64 i1);refine (k3 _).mono ?_;rintro e w' ⟨rfl,rfl⟩)
   |(go_at_call 61;refine (zauw _ _ r1 r2 r3 _ (by go_simp) (by go_simp) (by go_simp)).mono ?_;rintro e w' ⟨rfl,rfl⟩))
 all_goals go_wp2
 all_goals go_ret
 exact ⟨rfl,1,_,by rw[Go.Sort.alloc_eq_grow,Go.Sort.alloc_eq_grow,Go.Sort.alloc_eq_grow,Go.Sort.grow_grow,Go.Sort.grow_grow];rfl⟩
end Go.Proofs.YtpaidiaknfhclaaGreatDoor
namespace Go.Proofs.YtpaidiaknfhclaaGreatDoor
open Go Ev
open Go.Sort
set_option maxRecDepth 100000
theorem zw0 (a b:Weed_candidate):cfC a b<0↔a.loans<b.loans∨(a.loans=b.loans∧(a.last<b.last∨(a.last=b.last∧a.id_<b.id_))):=by
 unfold cfC zha Go.Lib.compareInt
 by_cases h1:a.loans<b.loans
 ·simp[h1]
 ·by_cases h2:a.loans>b.loans
  ·have:¬a.loans=b.loans:=by omega
   simp[h1,h2,this]
  ·have h3:a.loans=b.loans:=by omega
   by_cases h4:a.last<b.last
   ·simp[h3,h4]
   ·by_cases h5:a.last>b.last
    ·have:¬a.last=b.last:=by omega
     simp[h3,h4,h5,this]
    ·have h6:a.last=b.last:=by omega
     by_cases h7:a.id_<b.id_
     ·simp[h3,h6,h7]
     ·by_cases h8:a.id_>b.id_
      ·simp[h3,h6,h7,h8]
      ·simp[h3,h6,h7,h8]
theorem ztv:SWO (ltOf cfC) where
 irrefl x:=by
  have h:=zw0 x x
  unfold ltOf
  rw[decide_eq_false_iff_not,h];omega
 trans x y z h1 h2:=by
  unfold ltOf at *
  simp only[decide_eq_true_eq,zw0]at *
  omega
 ntrans x y z h1 h2:=by
  unfold ltOf at *
  simp only[decide_eq_false_iff_not,zw0]at *
  omega
theorem zapa {w:World} {I J:Nat→Nat→Prop} {xs:List Weed_candidate} {vals:Array Value}
 (hc:∀i (hi:i<xs.length) j d,(sg.enc Kd.kWeed_candidate xs[i])[j]?=some d→∃v,vals[i*sg.sz Kd.kWeed_candidate+j]?=some v∧DR sg w I J v d) :
 ∀i (hi:i<xs.length) j v,(encC xs[i])[j]?=some v→vals[i*4+j]?=some v:=by
 intro i hi j v hv
 have key:∀n,(sg.enc Kd.kWeed_candidate xs[i])[j]?=some (.int .i64 n)→v=.int .i64 n→vals[i*4+j]?=some v:=by
  intro n h1 h2
  obtain ⟨u,h3,h4⟩:=hc i hi j _ h1
  rw[h2,←h4.int_inv];exact h3
 match j,hv with
 |0,hv=>exact key _ rfl (Option.some.inj hv).symm
 |1,hv=>exact key _ rfl (Option.some.inj hv).symm
 |2,hv=>exact key _ rfl (Option.some.inj hv).symm
 |3,hv=>exact key _ rfl (Option.some.inj hv).symm
 |j+4,hv=>simp[encC]at hv
theorem z6w {xs:List Weed_candidate} {i j:Nat} (hi:i<xs.length) (hj:j<4):(encC xs[i])[j]?=some (flatK encC 4 xs.toArray)[i*4+j]!:=by
 have h:i*4+j<xs.toArray.size*4:=by simp;omega
 rw[get_flatK _ _ _ _ h]
 have e1:(i*4+j) / 4=i:=by omega
 have e2:(i*4+j) % 4=j:=by omega
 rw[e1,e2]
 have e3:xs.toArray[i]! = xs[i]:=by simp[hi]
 rw[e3]
 have:j<(encC xs[i]).length:=hj
 rw[List.getElem?_eq_getElem this,List.getElem!_eq_getElem?_getD,List.getElem?_eq_getElem this]
 rfl
theorem zatd {w:World} {xs:List Weed_candidate} {blk:Nat} {vals:Array Value} {t:TypeId} (hb:w.heap[blk]?=some (.cells vals t (0,0)))
 (hc:∀i (hi:i<xs.length) j v,(encC xs[i])[j]?=some v→vals[i*4+j]?=some v):HoldsK encC 4 w blk 0 xs.toArray:=by
 intro t ht
 have ht:t<xs.length*4:=by simpa using ht
 have e:t=t / 4*4+t % 4:=by omega
 have h1:=z6w (xs:=xs) (i:=t / 4) (j:=t % 4) (by omega) (by omega)
 rw[←e]at h1
 have h2:=hc (t / 4) (by omega) (t % 4) _ h1
 rw[←e]at h2
 refine ⟨?_,?_⟩
 ·simp only[World.cell?,hb,Nat.zero_add,h2]
  rfl
 ·simp[World.frozen?,hb]
theorem zaf2 {w:World} {I J:Nat→Nat→Prop} {F:Array Value} {blk q:Nat} {vals:Array Value} {t:TypeId} {os:Array Obj} (hp:Pre sg w I J [blk]) (hb:w.heap[blk]?=some (.cells vals t (0,0))) (hy:F.size≤vals.size) :
 GrowM [blk] w (grow (putRow id (Sort.ahead w q) blk 0 F) os) I I∧
 ∃vals',(grow (putRow id (Sort.ahead w q) blk 0 F) os).heap[blk]?=some (.cells vals' t (0,0))∧vals'.size=vals.size∧∀i,i<F.size→vals'[i]?=some F[i]!:=by
 have hlt:blk<w.heap.size:=(Array.getElem?_eq_some_iff.1 hb).1
 have hh:(grow (putRow id (Sort.ahead w q) blk 0 F) os).heap=w.heap.modify blk (onCells (putCells id 0 F))++os:=rfl
 have hsz:(w.heap.modify blk (onCells (putCells id 0 F))).size=w.heap.size:=by simp
 have hget:∀b,b<w.heap.size→(grow (putRow id (Sort.ahead w q) blk 0 F) os).heap[b]?=if blk=b then (w.heap[b]?).map (onCells (putCells id 0 F)) else w.heap[b]?:=by
  intro b hb
  rw[hh,Array.getElem?_append_left (by rw[hsz];exact hb),Array.getElem?_modify]
 refine ⟨⟨?_,rfl,rfl,rfl,fun b h1 h2=>?_,fun _ _ h=>h,fun _ _ h=>.inl h,fun b o h=>?_⟩,putCells id 0 F vals,?_,?_,?_⟩
 ·rw[hh,Array.size_append,hsz];omega
 ·rw[hget b h1,if_neg (fun e=>h2 (by simp[e]))]
 ·have:=hp.ib b o h
  rw[hh,Array.size_append,hsz];omega
 ·rw[hget blk hlt,if_pos rfl,hb]
  rfl
 ·simp[putCells]
 ·intro i hi
  unfold putCells
  rw[Array.getElem?_mapIdx,Array.getElem?_eq_getElem (by omega)]
  simp[hi]
theorem z03 {mb:List Nat} {w:World} {I:Nat→Nat→Prop} (h:∀b o,I b o→b<w.heap.size):GrowM mb w w I I:=⟨Nat.le_refl _,rfl,rfl,rfl,fun _ _ _=>rfl,fun _ _ h=>h,fun _ _ h=>.inl h,h⟩
theorem zaoa {w:World} {I J:Nat→Nat→Prop} {vs:Array Value} (h:Args sg w I J vs [.fn 60 [] []]):vs = #[.func (.func 60) #[] #[]]:=by
 obtain ⟨h1,h2⟩:=h
 have h1:vs.size=1:=h1
 obtain ⟨v,hv⟩:∃v,vs[0]?=some v:=⟨vs[0],by simp[h1]⟩
 have h3:=h2 0 v _ hv rfl
 cases h3 with
 |fn f p c ps cs hp hc k1 k2=>
  have hp:p = #[]:=Array.eq_empty_of_size_eq_zero hp
  have hc:c = #[]:=Array.eq_empty_of_size_eq_zero hc
  subst hp
  subst hc
  refine Array.ext (by simp[h1]) (fun i hi _=>?_)
  have:i=0:=by omega
  subst this
  have:=(Array.getElem?_eq_some_iff.1 hv).2
  simpa using this
theorem z4o (blk off size:Nat) (w:World):CmpLays Tryz.prog 60 #[] encC 4 cfC blk off size w:=fun m os dk _ x y=>zafe x y (sortWorldK encC 4 w blk off m dk os)
theorem zaif (xs:List Weed_candidate):(pdqL cfC xs).length=xs.length:=by
 have h:=(pdq_sorts (ltOf cfC) ztv xs.toArray 0 xs.toArray.size (Lib.bitLen xs.toArray.size) true true (Nat.zero_le _) (Nat.le_refl _) (Or.inl rfl)).1.1
 show (pdq (ltOf cfC) xs.toArray 0 xs.length (Go.Lib.bitLen xs.length) true true).toList.length=_
 simpa using h
theorem za4q:fnB Tryz.prog 59 Tryz.f59 []=true:=by kernel_rfl
theorem z6r:∀args w,(callFunc 60 args).run Tryz.prog w=.ok (.enter 60 args) w:=enters_of Tryz.func60 (by kernel_rfl) rfl
theorem zare:∀ds a r,z3j.dec ds=some a→zalf a=some r→Con Tryz.prog sg 59 ds [] (zana.enc r) []:=by
 intro ds a r hd hf
 obtain ⟨code,fok,-,-⟩:=zbt Tryz.func59 za4q
 have hac:CCOk z3j:=CCOk.cons (zak.lst _) (CCOk.cons (zak.fnc _ CCOk.nil CCOk.nil) CCOk.nil)
 have hds:=hac ds a hd
 have hmd:sg.md 59=.inpl:=by kernel_rfl
 unfold Con
 rw[hmd]
 obtain ⟨zs,u⟩:=a
 have hds:WL ds [.lst .kWeed_candidate zs,.fn 60 [] []]:=hds
 have hf:(bif decide (zs.length≤LIM) then some (pdqL cfC zs) else none)=some r:=hf
 intro _ k xs ds0 he xs' hr w I J mb v0 vs hp ho hargs
 subst he
 have hr:(D.lst Kd.kWeed_candidate r:DD)=D.lst k xs':=hr
 cases hr
 have hw0:=hds.2 0 _ _ rfl rfl
 cases hw0 with
 |leaf _ _ hw0=>
 cases hw0
 have hargs:=WL.args (cs':=[.fn 60 [] []]) ⟨by simpa using hds.1,fun q d d' h1 h2=>hds.2 (q+1) d d' h1 h2⟩ hargs
 have:=zaoa hargs
 subst this
 cases hlim:decide (zs.length≤LIM) with
 |false=>rw[hlim]at hf;cases hf
 |true=>
  rw[hlim]at hf
  have hl:=of_decide_eq_true hlim
  unfold LIM at hl
  have hf:some (pdqL cfC zs)=some r:=hf
  cases hf
  have hlen:=zaif zs
  unfold zdc
  rw[show (#[v0]++#[Value.func (.func 60) #[] #[]]) = #[v0,Value.func (.func 60) #[] #[]] from rfl,MuLone.run_callFunc_enter fok.at_ fok.name fok.body _ w]
  simp only
  obtain ⟨base,cap,rfl,hcap,ho⟩:=ho
  rcases ho with ⟨rfl,rfl⟩|⟨blk,vals,t,rfl,rfl,hb,hv,hc⟩
  ·have hz:zs=[]:=List.length_eq_zero_iff.1 (by omega)
   subst hz
   have h:=AnyF.slices_SortFunc_none Tryz.laysSort base 0 (.func (.func 60) #[] #[]) w
   refine h.mono (fun e w' he=>?_)
   obtain ⟨rfl,rfl⟩:=he
   exact ⟨rfl,hlen,I,z03 hp.ib,base,0,by rw[List.length_eq_zero_iff.1 hlen],by rw[hlen];simp,.inl ⟨rfl,rfl⟩⟩
  ·have hc2:=zapa hc
   have hv:vals.size=cap*4:=hv
   have h:=AnyQ.slices_SortFunc_eq Tryz.laysSort 4 Tryz.isAgg63 Tryz.sizeOf63 encC (fun _=>rfl) (fun x v hv=>by simp[encC]at hv;rcases hv with rfl|rfl|rfl|rfl<;>rfl) cfC ztv 60 #[] blk 0 cap zs.toArray w z6r (z4o blk 0 zs.toArray.size w) (zatd hb hc2) (Array.getElem?_eq_some_iff.1 hb).1 (by simp;omega)
   refine h.mono (fun e w' he=>?_)
   obtain ⟨rfl,n,os,rfl⟩:=he
   obtain ⟨g,vals',h1,h2,h3⟩:=zaf2 (q:=n) (os:=os) (F:=flatK encC 4 (pdqL cfC zs).toArray) hp hb (by simp;omega)
   refine ⟨rfl,hlen,I,g,some ⟨blk,0,none⟩,cap,by rw[hlen],by omega,.inr ⟨blk,vals',t,rfl,rfl,h1,by rw[h2];exact hv,?_⟩⟩
   intro i hi j d hd
   have key:∀n,j<4→(encC (pdqL cfC zs)[i])[j]?=some (.int .i64 n)→d=.int .i64 n→∃v,vals'[i*4+j]?=some v∧∀W,DR sg W I I v d:=by
    intro n hj e1 e2
    have h4:=z6w (xs:=pdqL cfC zs) hi hj
    have h5:=h3 (i*4+j) (by simp;omega)
    rw[←h4,e1]at h5
    exact ⟨_,h5,fun W=>by rw[e2];exact .int _ _⟩
   match j,hd with
   |0,hd=>obtain ⟨v,q1,q2⟩:=key _ (by omega) rfl (Option.some.inj hd).symm;exact ⟨v,q1,q2 _⟩
   |1,hd=>obtain ⟨v,q1,q2⟩:=key _ (by omega) rfl (Option.some.inj hd).symm;exact ⟨v,q1,q2 _⟩
   |2,hd=>obtain ⟨v,q1,q2⟩:=key _ (by omega) rfl (Option.some.inj hd).symm;exact ⟨v,q1,q2 _⟩
   |3,hd=>obtain ⟨v,q1,q2⟩:=key _ (by omega) rfl (Option.some.inj hd).symm;exact ⟨v,q1,q2 _⟩
   |j+4,hd=>exact absurd (show (none:Option DD)=some d from hd) (by simp)
end Go.Proofs.YtpaidiaknfhclaaGreatDoor
namespace Go.Proofs.YtpaidiaknfhclaaGreatDoor
set_option maxRecDepth 100000
open Ev
open Go
theorem za0s:fnB Tryz.prog 102 Tryz.f102 []=true:=by kernel_rfl
theorem z06:InsOk Tryz.prog 102 (sg.sz Kd.kItem) 53:=⟨zmg,zpa,zrc,zo9⟩
theorem zaq3:∀ds a r,z3f.dec ds=some a→zalb a=some r→Con Tryz.prog sg 102 ds [] (zam1.enc r) []:=by
 intro ds a r hd hf
 obtain ⟨code,fok,-,-⟩:=zbt Tryz.func102 za0s
 have hac:CCOk z3f:=CCOk.cons (zak.lst _) (CCOk.cons (zak.int _) (CCOk.cons (zak.lst _) CCOk.nil))
 exact zov good.sgk fok (by kernel_rfl) z06 (hac ds a hd) hf
theorem za02:fnB Tryz.prog 210 Tryz.f210 []=true:=by kernel_rfl
theorem zra:InsOk Tryz.prog 210 (sg.sz Kd.kPatron) 71:=⟨ziz,zkd,zmi,zkc⟩
theorem zarn:∀ds a r,z3l.dec ds=some a→zalg a=some r→Con Tryz.prog sg 210 ds [] (zand.enc r) []:=by
 intro ds a r hd hf
 obtain ⟨code,fok,-,-⟩:=zbt Tryz.func210 za02
 have hac:CCOk z3l:=CCOk.cons (zak.lst _) (CCOk.cons (zak.int _) (CCOk.cons (zak.lst _) CCOk.nil))
 exact zov good.sgk fok (by kernel_rfl) zra (hac ds a hd) hf
theorem za0y:fnB Tryz.prog 168 Tryz.f168 []=true:=by kernel_rfl
theorem z07:InsOk Tryz.prog 168 (sg.sz Kd.kLoan) 73:=⟨zmh,zpc,zrd,zpb⟩
theorem zarp:∀ds a r,z3m.dec ds=some a→zalh a=some r→Con Tryz.prog sg 168 ds [] (zanf.enc r) []:=by
 intro ds a r hd hf
 obtain ⟨code,fok,-,-⟩:=zbt Tryz.func168 za0y
 have hac:CCOk z3m:=CCOk.cons (zak.lst _) (CCOk.cons (zak.int _) (CCOk.cons (zak.lst _) CCOk.nil))
 exact zov good.sgk fok (by kernel_rfl) z07 (hac ds a hd) hf
theorem za03:fnB Tryz.prog 225 Tryz.f225 []=true:=by kernel_rfl
theorem z0s:DelOk Tryz.prog 225 (sg.sz Kd.kHold):=⟨zo1,zo2⟩
theorem zaq5:∀ds a r,z3h.dec ds=some a→zald a=some r→Con Tryz.prog sg 225 ds [] (zam3.enc r) []:=by
 intro ds a r hd hf
 obtain ⟨code,fok,-,-⟩:=zbt Tryz.func225 za03
 have hac:CCOk z3h:=CCOk.cons (zak.lst _) (CCOk.cons (zak.int _) (CCOk.cons (zak.int _) CCOk.nil))
 exact zw2 good.sgk fok (by kernel_rfl) z0s (hac ds a hd) hf
theorem za00:fnB Tryz.prog 187 Tryz.f187 []=true:=by kernel_rfl
theorem z0t:DelOk Tryz.prog 187 (sg.sz Kd.kLoan):=⟨zo3,zo4⟩
theorem zaq4:∀ds a r,z3g.dec ds=some a→zalc a=some r→Con Tryz.prog sg 187 ds [] (zam2.enc r) []:=by
 intro ds a r hd hf
 obtain ⟨code,fok,-,-⟩:=zbt Tryz.func187 za00
 have hac:CCOk z3g:=CCOk.cons (zak.lst _) (CCOk.cons (zak.int _) (CCOk.cons (zak.int _) CCOk.nil))
 exact zw2 good.sgk fok (by kernel_rfl) z0t (hac ds a hd) hf
end Go.Proofs.YtpaidiaknfhclaaGreatDoor
namespace Go.Proofs.YtpaidiaknfhclaaGreatDoor
open Go Ev
open Go.Lib Go.RowKit
set_option maxRecDepth 100000
theorem zp3 {w:World} {I:Nat→Nat→Prop} (h:zog sg w I):Lib.Utf8Tabs 0 1 w:=by
 constructor
 ·intro c hc
  have hl:c<za4.length:=by simp[za4];exact hc
  obtain ⟨v,h1,-,h3⟩:=h 0 .ku8 za4 (by kernel_rfl) c hl 0 (.int .u8 za4[c]) rfl
  rw[h3.int_inv]at h1
  have e:za4[c]=(Lib.firstT c:Int):=by simp[za4]
  rw[e]at h1
  have h1:w.cell? ⟨0,c*1+0,none⟩=_:=h1
  rw[Nat.mul_one,Nat.add_zero]at h1
  exact h1
 ·intro i hi
  have hl:i<zaq.length:=by simp[zaq];exact hi
  obtain ⟨v,h1,-,h3⟩:=h 1 .kUtf8_acceptRange zaq (by kernel_rfl) i hl 0 (.int .u8 zaq[i].lo) rfl
  obtain ⟨v',k1,-,k3⟩:=h 1 .kUtf8_acceptRange zaq (by kernel_rfl) i hl 1 (.int .u8 zaq[i].hi) rfl
  rw[h3.int_inv]at h1
  rw[k3.int_inv]at k1
  have e:zaq[i]=⟨(Lib.accLo i:Int),(Lib.accHi i:Int)⟩:=by simp[zaq]
  rw[e]at h1 k1
  have h1:w.cell? ⟨1,i*2+0,none⟩=_:=h1
  have k1:w.cell? ⟨1,i*2+1,none⟩=_:=k1
  rw[Nat.mul_comm,Nat.add_zero]at h1
  rw[Nat.mul_comm]at k1
  exact ⟨h1,k1⟩
theorem zm6 {w w':World} {I:Nat→Nat→Prop} (hi:∀b o,I b o→b<w.heap.size) (h:Below w.heap.size w w'):Grow w w' I I:=
 ⟨h.size,h.os,h.output,h.tape,h.block,fun _ _ h=>h,fun _ _ h=>.inl h,fun b o hb=>Nat.lt_of_lt_of_le (hi b o hb) h.size⟩
theorem zac6 {w:World} {I J:Nat→Nat→Prop} {vs:Array Value} {l:List UInt8} (ha:Args sg w I J vs [.str l]):∃b:ByteArray,vs = #[.string b]∧l=b.data.toList:=by
 obtain ⟨h1,h2⟩:=ha
 have h1:vs.size=1:=h1
 have h0:=h2 0 vs[0] (.str l) (Array.getElem?_eq_getElem (by omega)) rfl
 generalize hv:vs[0]=v at h0
 cases h0 with
 |str b=>
  refine ⟨b,?_,rfl⟩
  apply Array.ext
  ·simp[h1]
  ·intro i hi1 hi2
   have:i=0:=by omega
   subst this
   simpa using hv
theorem za0u:fnB Tryz.prog 126 Tryz.f126 [4]=true:=by kernel_rfl
theorem z5y:∀ds a r,z3i.dec ds=some a→zale a=some r→Con Tryz.prog sg 126 ds [] (zam7.enc r) []:=by
 intro ds a r hd hf
 obtain ⟨code,fok,-,-⟩:=zbt Tryz.func126 za0u
 have hac:CCOk z3i:=CCOk.cons zak.str CCOk.nil
 have hw:=hac ds a hd
 obtain ⟨l,⟨⟩⟩:=a
 unfold Con
 rw[show sg.md 126=.data by kernel_rfl]
 intro _ w I J vs hp ha
 obtain ⟨b,rfl,rfl⟩:=zac6 (l:=l) (hw.args ha)
 replace hf:(bif decide (b.data.toList.length≤LIM) then some (vld b.data.toList) else none)=some r:=hf
 rw[zad]at hf
 split at hf
 ·rename_i hle
  cases hf
  rw[decide_eq_true_eq,←Lib.size_eq]at hle
  unfold zdc
  rw[MuLone.run_callFunc_enter fok.at_ fok.name fok.body _ w]
  refine (z24 b w hle (zp3 hp.gl)).mono ?_
  rintro e w' ⟨rfl,hb⟩
  exact ⟨I,zm6 hp.ib hb,.bool _⟩
 ·cases hf
theorem za01:fnB Tryz.prog 198 Tryz.f198 []=true:=by kernel_rfl
theorem zar0:∀ds a r,z3n.dec ds=some a→zali a=some r→Con Tryz.prog sg 198 ds [] (zang.enc r) []:=by
 intro ds a r hd hf
 obtain ⟨code,fok,-,-⟩:=zbt Tryz.func198 za01
 have hac:CCOk z3n:=CCOk.cons zak.str CCOk.nil
 have hw:=hac ds a hd
 obtain ⟨l,⟨⟩⟩:=a
 unfold Con
 rw[show sg.md 198=.data by kernel_rfl]
 intro _ w I J vs hp ha
 obtain ⟨b,rfl,rfl⟩:=zac6 (l:=l) (hw.args ha)
 replace hf:(bif decide (b.data.toList.length≤LIM)&&vld b.data.toList then some (cln b.data.toList) else none)=some r:=hf
 rw[zad]at hf
 split at hf
 ·rename_i hle
  cases hf
  rw[Bool.and_eq_true,decide_eq_true_eq,←Lib.size_eq]at hle
  unfold zdc
  rw[MuLone.run_callFunc_enter fok.at_ fok.name fok.body _ w]
  refine (z0j b w hle.1 hle.2).mono ?_
  rintro e w' ⟨rfl,hb⟩
  exact ⟨I,zm6 hp.ib hb,.str ⟨(cln b.data.toList).toArray⟩⟩
 ·cases hf
theorem zaqp:∀ds a r,zaja.dec ds=some a→zala a=some r→Con Tryz.prog sg 276 ds [] (zamy.enc r) []:=fun ds a r hd hf=>by cases hf
end Go.Proofs.YtpaidiaknfhclaaGreatDoor

namespace Go.Proofs.YtpaidiaknfhclaaGreatDoor
set_option maxRecDepth 100000
open Ev
open Go (IntKind)
open Go
noncomputable abbrev ZP:=Tryz.prog
theorem zafw:fnB ZP 24 Tryz.f24 [4,9,14]=true:=by kernel_rfl
theorem zae7:CG ZP sg @zaof:=cg0
theorem zatn:zaf ZP sg 0 Tryz.f24 @zi8 4:=zas z7g good Tryz.func24 zafw zae7 zaa (fun a=>by kernel_rfl) (by kernel_rfl) (fun _ _=>rfl)
theorem zato:zaf ZP sg 0 Tryz.f24 @zi8 9:=zas z7h good Tryz.func24 zafw zae7 zaa (fun a=>by kernel_rfl) (by kernel_rfl) (fun _ _=>rfl)
theorem zagh:zaf ZP sg 0 Tryz.f24 @zi8 14:=zas zxh good Tryz.func24 zafw zae7 zaa (fun a=>by kernel_rfl) (by kernel_rfl) (fun _ _=>rfl)
theorem zaz2:SG ZP sg 24 @za3z:=conD (loops:=zi8) good Tryz.func24 zafw (by kernel_rfl) zae7 (all_cons zatn (all_cons zato (all_cons zagh zaa))) (fun a=>by kernel_rfl)
theorem zt3:SG ZP sg 146 @zvx:=conE good Tryz.func146 (by kernel_rfl) (by kernel_rfl) cg0 (fun a=>by kernel_rfl)
theorem za1l:fnB ZP 88 Tryz.f88 [2]=true:=by kernel_rfl
theorem zajr:CG ZP sg @zaee:=(cgc zt3 cg0)
theorem zagt:zaf ZP sg 0 Tryz.f88 @zr2 2:=zas zxt good Tryz.func88 za1l zajr zaa (fun a=>by kernel_rfl) (by kernel_rfl) (fun _ _=>rfl)
theorem z4v:SG ZP sg 88 @zvv:=conD (loops:=zr2) good Tryz.func88 za1l (by kernel_rfl) zajr (all_cons zagt zaa) (fun a=>by kernel_rfl)
theorem zaz7:SG ZP sg 147 @zanl:=conE good Tryz.func147 (by kernel_rfl) (by kernel_rfl) (cgc zt3 cg0) (fun a=>by kernel_rfl)
theorem zapu:SG ZP sg 148 @zaar:=conE good Tryz.func148 (by kernel_rfl) (by kernel_rfl) cg0 (fun a=>by kernel_rfl)
theorem za1m:fnB ZP 89 Tryz.f89 [4]=true:=by kernel_rfl
theorem zajj:CG ZP sg @zady:=(cgc zt3 (cgc zaz7 (cgc zapu cg0)))
theorem zagb:zaf ZP sg 0 Tryz.f89 @zru 4:=zas zxb good Tryz.func89 za1m zajj zaa (fun a=>by kernel_rfl) (by kernel_rfl) (fun _ _=>rfl)
theorem zapg:SG ZP sg 89 @zaaj:=conD (loops:=zru) good Tryz.func89 za1m (by kernel_rfl) zajj (all_cons zagb zaa) (fun a=>by kernel_rfl)
theorem za08:fnB ZP 42 Tryz.f42 [4]=true:=by kernel_rfl
theorem zajw:CG ZP sg @zaej:=(cgc z4v (cgc zapg cg0))
theorem zagy:zaf ZP sg 0 Tryz.f42 @zr7 4:=zas zxy good Tryz.func42 za08 zajw zaa (fun a=>by kernel_rfl) (by kernel_rfl) (fun _ _=>rfl)
theorem zapy:SG ZP sg 42 @zaau:=conD (loops:=zr7) good Tryz.func42 za08 (by kernel_rfl) zajw (all_cons zagy zaa) (fun a=>by kernel_rfl)
theorem za09:fnB ZP 43 Tryz.f43 [4]=true:=by kernel_rfl
theorem zajv:CG ZP sg @zaei:=cg0
theorem zagx:zaf ZP sg 0 Tryz.f43 @zr6 4:=zas zxx good Tryz.func43 za09 zajv zaa (fun a=>by kernel_rfl) (by kernel_rfl) (fun _ _=>rfl)
theorem zapx:SG ZP sg 43 @zaat:=conD (loops:=zr6) good Tryz.func43 za09 (by kernel_rfl) zajv (all_cons zagx zaa) (fun a=>by kernel_rfl)
theorem zar3:SG ZP sg 149 @zaw8:=conE good Tryz.func149 (by kernel_rfl) (by kernel_rfl) cg0 (fun a=>by kernel_rfl)
theorem zasg:SG ZP sg 150 @zaxn:=conE good Tryz.func150 (by kernel_rfl) (by kernel_rfl) cg0 (fun a=>by kernel_rfl)
theorem zari:SG ZP sg 90 @zacg:=conE good Tryz.func90 (by kernel_rfl) (by kernel_rfl) (cgc zar3 (cgc zasg cg0)) (fun a=>by kernel_rfl)
theorem zaf0:fnB ZP 44 Tryz.f44 [4,12,15]=true:=by kernel_rfl
theorem zae9:CG ZP sg @zaor:=(cgc zari cg0)
theorem zat2:zaf ZP sg 0 Tryz.f44 @zja 4:=zas z7x good Tryz.func44 zaf0 zae9 zaa (fun a=>by kernel_rfl) (by kernel_rfl) (fun _ _=>rfl)
theorem zy1:zaf ZP sg 0 Tryz.f44 @zja 15:=zas zyt good Tryz.func44 zaf0 zae9 zaa (fun a=>by kernel_rfl) (by kernel_rfl) (fun _ _=>rfl)
theorem zahs:zaf ZP sg 0 Tryz.f44 @zja 12:=zas zys good Tryz.func44 zaf0 zae9 (all_cons zy1 zaa) (fun a=>by kernel_rfl) (by kernel_rfl) (fun _ _=>rfl)
theorem za0d:SG ZP sg 44 @zanq:=conD (loops:=zja) good Tryz.func44 zaf0 (by kernel_rfl) zae9 (all_cons zat2 (all_cons zahs (all_cons zy1 zaa))) (fun a=>by kernel_rfl)
theorem zasi:SG ZP sg 91 @zacz:=conE good Tryz.func91 (by kernel_rfl) (by kernel_rfl) cg0 (fun a=>by kernel_rfl)
theorem za1a:fnB ZP 45 Tryz.f45 [4]=true:=by kernel_rfl
theorem zaji:CG ZP sg @zadx:=(cgc zasi cg0)
theorem zaga:zaf ZP sg 0 Tryz.f45 @zrt 4:=zas zxa good Tryz.func45 za1a zaji zaa (fun a=>by kernel_rfl) (by kernel_rfl) (fun _ _=>rfl)
theorem zapf:SG ZP sg 45 @zaai:=conD (loops:=zrt) good Tryz.func45 za1a (by kernel_rfl) zaji (all_cons zaga zaa) (fun a=>by kernel_rfl)
theorem zaqf:SG ZP sg 151 @zav2:=conE good Tryz.func151 (by kernel_rfl) (by kernel_rfl) cg0 (fun a=>by kernel_rfl)
theorem zaqr:SG ZP sg 92 @zabl:=conE good Tryz.func92 (by kernel_rfl) (by kernel_rfl) (cgc zaqf cg0) (fun a=>by kernel_rfl)
theorem zas6:fnB ZP 46 Tryz.f46 [4,9]=true:=by kernel_rfl
theorem zao5:CG ZP sg @zaoq:=(cgc zaqr cg0)
theorem z8s:zaf ZP sg 0 Tryz.f46 @zpm 9:=zas z7w good Tryz.func46 zas6 zao5 zaa (fun a=>by kernel_rfl) (by kernel_rfl) (fun _ _=>rfl)
theorem zat1:zaf ZP sg 0 Tryz.f46 @zpm 4:=zas z7v good Tryz.func46 zas6 zao5 (all_cons z8s zaa) (fun a=>by kernel_rfl) (by kernel_rfl) (fun _ _=>rfl)
theorem za0c:SG ZP sg 46 @zanp:=conD (loops:=zpm) good Tryz.func46 zas6 (by kernel_rfl) zao5 (all_cons zat1 (all_cons z8s zaa)) (fun a=>by kernel_rfl)
theorem zas7:fnB ZP 47 Tryz.f47 [6,11]=true:=by kernel_rfl
theorem zao8:CG ZP sg @zao1:=cg0
theorem zaud:zaf ZP sg 0 Tryz.f47 @zpp 6:=zas z8g good Tryz.func47 zas7 zao8 zaa (fun a=>by kernel_rfl) (by kernel_rfl) (fun _ _=>rfl)
theorem zahx:zaf ZP sg 0 Tryz.f47 @zpp 11:=zas zyy good Tryz.func47 zas7 zao8 zaa (fun a=>by kernel_rfl) (by kernel_rfl) (fun _ _=>rfl)
theorem za0l:SG ZP sg 47 @zanv:=conD (loops:=zpp) good Tryz.func47 zas7 (by kernel_rfl) zao8 (all_cons zaud (all_cons zahx zaa)) (fun a=>by kernel_rfl)
theorem za1n:fnB ZP 93 Tryz.f93 [2]=true:=by kernel_rfl
theorem zajz:CG ZP sg @zaem:=cg0
theorem zag1:zaf ZP sg 0 Tryz.f93 @zsa 2:=zas zx1 good Tryz.func93 za1n zajz zaa (fun a=>by kernel_rfl) (by kernel_rfl) (fun _ _=>rfl)
theorem zap0:SG ZP sg 93 @zavp:=conD (loops:=zsa) good Tryz.func93 za1n (by kernel_rfl) zajz (all_cons zag1 zaa) (fun a=>by kernel_rfl)
theorem zt6:SG ZP sg 48 @zp0:=conE good Tryz.func48 (by kernel_rfl) (by kernel_rfl) (cgc zap0 cg0) (fun a=>by kernel_rfl)
theorem zarj:SG ZP sg 152 @zach:=conE good Tryz.func152 (by kernel_rfl) (by kernel_rfl) cg0 (fun a=>by kernel_rfl)
theorem zasp:SG ZP sg 237 @zaxu:=conE good Tryz.func237 (by kernel_rfl) (by kernel_rfl) cg0 (fun a=>by kernel_rfl)
theorem zark:SG ZP sg 188 @zaw1:=conE good Tryz.func188 (by kernel_rfl) (by kernel_rfl) (cgc zasp cg0) (fun a=>by kernel_rfl)
theorem zasb:SG ZP sg 189 @zaxh:=conE good Tryz.func189 (by kernel_rfl) (by kernel_rfl) cg0 (fun a=>by kernel_rfl)
theorem zaq2:SG ZP sg 238 @zab5:=conE good Tryz.func238 (by kernel_rfl) (by kernel_rfl) cg0 (fun a=>by kernel_rfl)
theorem zaku:fnB ZP 190 Tryz.f190 [3]=true:=by kernel_rfl
theorem zajt:CG ZP sg @zaeg:=(cgc zaq2 cg0)
theorem zagv:zaf ZP sg 0 Tryz.f190 @zr4 3:=zas zxv good Tryz.func190 zaku zajt zaa (fun a=>by kernel_rfl) (by kernel_rfl) (fun _ _=>rfl)
theorem zapv:SG ZP sg 190 @zavn:=conD (loops:=zr4) good Tryz.func190 zaku (by kernel_rfl) zajt (all_cons zagv zaa) (fun a=>by kernel_rfl)
theorem zarc:SG ZP sg 191 @zawr:=conE good Tryz.func191 (by kernel_rfl) (by kernel_rfl) cg0 (fun a=>by kernel_rfl)
theorem zast:SG ZP sg 192 @zaxy:=conE good Tryz.func192 (by kernel_rfl) (by kernel_rfl) cg0 (fun a=>by kernel_rfl)
theorem z5i:SG ZP sg 124 @zvy:=conE good Tryz.func124 (by kernel_rfl) (by kernel_rfl) (cgc zark (cgc zasb (cgc zapv (cgc zarc (cgc zast cg0))))) (fun a=>by kernel_rfl)
theorem za1o:fnB ZP 94 Tryz.f94 [5]=true:=by kernel_rfl
theorem zaju:CG ZP sg @zaeh:=(cgc z5i (cgc zarj cg0))
theorem zagw:zaf ZP sg 0 Tryz.f94 @zr5 5:=zas zxw good Tryz.func94 za1o zaju zaa (fun a=>by kernel_rfl) (by kernel_rfl) (fun _ _=>rfl)
theorem zapw:SG ZP sg 94 @zaas:=conD (loops:=zr5) good Tryz.func94 za1o (by kernel_rfl) zaju (all_cons zagw zaa) (fun a=>by kernel_rfl)
theorem za1c:fnB ZP 73 Tryz.f73 [2]=true:=by kernel_rfl
theorem zazw:CG ZP sg @zaot:=cg0
theorem zat4:zaf ZP sg 0 Tryz.f73 @zzc 2:=zas z7z good Tryz.func73 za1c zazw zaa (fun a=>by kernel_rfl) (by kernel_rfl) (fun _ _=>rfl)
theorem zqq:SG ZP sg 73 @zoe:=conD (loops:=zzc) good Tryz.func73 za1c (by kernel_rfl) zazw (all_cons zat4 zaa) (fun a=>by kernel_rfl)
theorem zas8:fnB ZP 49 Tryz.f49 [4,15]=true:=by kernel_rfl
theorem z4e:CG ZP sg @zad5:=(cgc zqq (cgc z4v (cgc zapw cg0)))
theorem zagj:zaf ZP sg 0 Tryz.f49 @zkl 4:=zas zxj good Tryz.func49 zas8 z4e zaa (fun a=>by kernel_rfl) (by kernel_rfl) (fun _ _=>rfl)
theorem z8k:zaf ZP sg 0 Tryz.f49 @zkl 15:=zas zrh good Tryz.func49 zas8 z4e zaa (fun a=>by kernel_rfl) (by kernel_rfl) (fun _ _=>rfl)
theorem zapm:SG ZP sg 49 @zaan:=conD (loops:=zkl) good Tryz.func49 zas8 (by kernel_rfl) z4e (all_cons zagj (all_cons z8k zaa)) (fun a=>by kernel_rfl)
theorem zar6:SG ZP sg 95 @zacv:=conE good Tryz.func95 (by kernel_rfl) (by kernel_rfl) cg0 (fun a=>by kernel_rfl)
theorem zaks:fnB ZP 125 Tryz.f125 [2]=true:=by kernel_rfl
theorem zajq:CG ZP sg @zaed:=cg0
theorem zags:zaf ZP sg 0 Tryz.f125 @zr1 2:=zas zxs good Tryz.func125 zaks zajq zaa (fun a=>by kernel_rfl) (by kernel_rfl) (fun _ _=>rfl)
theorem z4u:SG ZP sg 125 @zavm:=conD (loops:=zr1) good Tryz.func125 zaks (by kernel_rfl) zajq (all_cons zags zaa) (fun a=>by kernel_rfl)
theorem zarl:SG ZP sg 96 @zaci:=conE good Tryz.func96 (by kernel_rfl) (by kernel_rfl) (cgc z4u cg0) (fun a=>by kernel_rfl)
theorem zas9:fnB ZP 50 Tryz.f50 [2,10]=true:=by kernel_rfl
theorem z4d:CG ZP sg @zad4:=(cgc zt6 (cgc zqq (cgc zar6 (cgc zarl cg0))))
theorem zagi:zaf ZP sg 0 Tryz.f50 @zkk 2:=zas zxi good Tryz.func50 zas9 z4d zaa (fun a=>by kernel_rfl) (by kernel_rfl) (fun _ _=>rfl)
theorem z8j:zaf ZP sg 0 Tryz.f50 @zkk 10:=zas zrg good Tryz.func50 zas9 z4d zaa (fun a=>by kernel_rfl) (by kernel_rfl) (fun _ _=>rfl)
theorem zapl:SG ZP sg 50 @zaam:=conD (loops:=zkk) good Tryz.func50 zas9 (by kernel_rfl) z4d (all_cons zagi (all_cons z8j zaa)) (fun a=>by kernel_rfl)
theorem za1p:fnB ZP 97 Tryz.f97 [2]=true:=by kernel_rfl
theorem zajy:CG ZP sg @zael:=cg0
theorem zag0:zaf ZP sg 0 Tryz.f97 @zr9 2:=zas zx0 good Tryz.func97 za1p zajy zaa (fun a=>by kernel_rfl) (by kernel_rfl) (fun _ _=>rfl)
theorem zapz:SG ZP sg 97 @zaaw:=conD (loops:=zr9) good Tryz.func97 za1p (by kernel_rfl) zajy (all_cons zag0 zaa) (fun a=>by kernel_rfl)
theorem zata:fnB ZP 51 Tryz.f51 [2,18]=true:=by kernel_rfl
theorem z4f:CG ZP sg @zad6:=(cgc zt6 (cgc zqq (cgc zapz cg0)))
theorem zagk:zaf ZP sg 0 Tryz.f51 @zkm 2:=zas zxk good Tryz.func51 zata z4f zaa (fun a=>by kernel_rfl) (by kernel_rfl) (fun _ _=>rfl)
theorem z8l:zaf ZP sg 0 Tryz.f51 @zkm 18:=zas zri good Tryz.func51 zata z4f zaa (fun a=>by kernel_rfl) (by kernel_rfl) (fun _ _=>rfl)
theorem zapn:SG ZP sg 51 @zaao:=conD (loops:=zkm) good Tryz.func51 zata (by kernel_rfl) z4f (all_cons zagk (all_cons z8l zaa)) (fun a=>by kernel_rfl)
theorem zas2:fnB ZP 25 Tryz.f25 [6,11]=true:=by kernel_rfl
theorem z4k:CG ZP sg @zaec:=(cgc zapy (cgc zapx (cgc za0d (cgc zapf (cgc za0c (cgc za0l (cgc zt6 (cgc zapm (cgc zapl (cgc zapn cg0))))))))))
theorem zagr:zaf ZP sg 0 Tryz.f25 @zkr 6:=zas zxr good Tryz.func25 zas2 z4k zaa (fun a=>by kernel_rfl) (by kernel_rfl) (fun _ _=>rfl)
theorem z8p:zaf ZP sg 0 Tryz.f25 @zkr 11:=zas zrm good Tryz.func25 zas2 z4k zaa (fun a=>by kernel_rfl) (by kernel_rfl) (fun _ _=>rfl)
theorem zapt:SG ZP sg 25 @zavl:=conD (loops:=zkr) good Tryz.func25 zas2 (by kernel_rfl) z4k (all_cons zagr (all_cons z8p zaa)) (fun a=>by kernel_rfl)
theorem z6b:SG ZP sg 9 @zact:=conE good Tryz.func9 (by kernel_rfl) (by kernel_rfl) (cgc zaz2 (cgc zapt cg0)) (fun a=>by kernel_rfl)
theorem zar2:SG ZP sg 98 @zaw7:=conE good Tryz.func98 (by kernel_rfl) (by kernel_rfl) cg0 (fun a=>by kernel_rfl)
theorem zaq1:SG ZP sg 127 @zab4:=conE good Tryz.func127 (by kernel_rfl) (by kernel_rfl) cg0 (fun a=>by kernel_rfl)
theorem zq1:fnB ZP 63 Tryz.f63 [2]=true:=by kernel_rfl
theorem zazq:CG ZP sg @zaoh:=(cgc zaq1 cg0)
theorem zatq:zaf ZP sg 0 Tryz.f63 @zy6 2:=zas z7j good Tryz.func63 zq1 zazq zaa (fun a=>by kernel_rfl) (by kernel_rfl) (fun _ _=>rfl)
theorem zaz4:SG ZP sg 63 @za31:=conD (loops:=zy6) good Tryz.func63 zq1 (by kernel_rfl) zazq (all_cons zatq zaa) (fun a=>by kernel_rfl)
theorem zjy:SG ZP sg 77 @zpz:=conE good Tryz.func77 (by kernel_rfl) (by kernel_rfl) (cgc zaz4 cg0) (fun a=>by kernel_rfl)
theorem z5u:SG ZP sg 100 @zab7:=conE good Tryz.func100 (by kernel_rfl) (by kernel_rfl) cg0 (fun a=>by kernel_rfl)
theorem zaqy:SG ZP sg 101 @zab1:=conE good Tryz.func101 (by kernel_rfl) (by kernel_rfl) cg0 (fun a=>by kernel_rfl)
theorem zwv:CG ZP sg @z0c:=(cgc zaqy cg0)
theorem z1h:zaf ZP sg 0 Tryz.f63 @zkx 2:=zas znf good Tryz.func63 zq1 zwv zaa (fun a=>by kernel_rfl) (by kernel_rfl) (fun _ _=>rfl)
theorem z5f:SG ZP sg 63 @zabp:=conD (loops:=zkx) good Tryz.func63 zq1 (by kernel_rfl) zwv (all_cons z1h zaa) (fun a=>by kernel_rfl)
theorem z5n:SG ZP sg 103 @zawg:=conS (loops:=l0) (ids:=[]) good Tryz.func103 (by kernel_rfl) (by kernel_rfl) cg0 zaa (fun a=>by kernel_rfl) (by kernel_rfl)
theorem zow:SG ZP sg 36 @zaa0:=conE good Tryz.func36 (by kernel_rfl) (by kernel_rfl) cg0 (fun a=>by kernel_rfl)
theorem zaq7:SG ZP sg 76 @zab6:=conE good Tryz.func76 (by kernel_rfl) (by kernel_rfl) (cgc zow (cgc (sgP z5y) cg0)) (fun a=>by kernel_rfl)
theorem zox:SG ZP sg 128 @zabg:=conE good Tryz.func128 (by kernel_rfl) (by kernel_rfl) cg0 (fun a=>by kernel_rfl)
theorem zaso:SG ZP sg 194 @zaxt:=conE good Tryz.func194 (by kernel_rfl) (by kernel_rfl) (cgc zox cg0) (fun a=>by kernel_rfl)
theorem zasm:SG ZP sg 195 @zaxr:=conE good Tryz.func195 (by kernel_rfl) (by kernel_rfl) (cgc zox cg0) (fun a=>by kernel_rfl)
theorem z5s:SG ZP sg 197 @zawh:=conE good Tryz.func197 (by kernel_rfl) (by kernel_rfl) cg0 (fun a=>by kernel_rfl)
theorem zasq:SG ZP sg 196 @zaxv:=conE good Tryz.func196 (by kernel_rfl) (by kernel_rfl) (cgc z5s cg0) (fun a=>by kernel_rfl)
theorem z5v:SG ZP sg 129 @zab8:=conE good Tryz.func129 (by kernel_rfl) (by kernel_rfl) (cgc zox (cgc zaso (cgc zasm (cgc zasq (cgc z5s cg0))))) (fun a=>by kernel_rfl)
theorem za1e:fnB ZP 78 Tryz.f78 [5]=true:=by kernel_rfl
theorem zakg:CG ZP sg @zae3:=(cgc z5u (cgc zox (cgc z5v cg0)))
theorem zahh:zaf ZP sg 0 Tryz.f78 @zsr 5:=zas zyh good Tryz.func78 za1e zakg zaa (fun a=>by kernel_rfl) (by kernel_rfl) (fun _ _=>rfl)
theorem zaqj:SG ZP sg 78 @zabd:=conD (loops:=zsr) good Tryz.func78 za1e (by kernel_rfl) zakg (all_cons zahh zaa) (fun a=>by kernel_rfl)
theorem zafx:fnB ZP 37 Tryz.f37 [4,10,16]=true:=by kernel_rfl
theorem zafc:CG ZP sg @zaox:=(cgc zaq7 (cgc zjy (cgc zaqj cg0)))
theorem zat9:zaf ZP sg 0 Tryz.f37 @zjd 4:=zas z8b good Tryz.func37 zafx zafc zaa (fun a=>by kernel_rfl) (by kernel_rfl) (fun _ _=>rfl)
theorem zahv:zaf ZP sg 0 Tryz.f37 @zjd 10:=zas zyw good Tryz.func37 zafx zafc zaa (fun a=>by kernel_rfl) (by kernel_rfl) (fun _ _=>rfl)
theorem zahw:zaf ZP sg 0 Tryz.f37 @zjd 16:=zas zyx good Tryz.func37 zafx zafc zaa (fun a=>by kernel_rfl) (by kernel_rfl) (fun _ _=>rfl)
theorem za0i:SG ZP sg 37 @za38:=conD (loops:=zjd) good Tryz.func37 zafx (by kernel_rfl) zafc (all_cons zat9 (all_cons zahv (all_cons zahw zaa))) (fun a=>by kernel_rfl)
theorem zap6:SG ZP sg 130 @zaay:=conE good Tryz.func130 (by kernel_rfl) (by kernel_rfl) (cgc (sgP z5y) (cgc (sgP zar0) cg0)) (fun a=>by kernel_rfl)
theorem za1f:fnB ZP 79 Tryz.f79 [5]=true:=by kernel_rfl
theorem zajn:CG ZP sg @zad2:=(cgc zap6 cg0)
theorem zagf:zaf ZP sg 0 Tryz.f79 @zry 5:=zas zxf good Tryz.func79 za1f zajn zaa (fun a=>by kernel_rfl) (by kernel_rfl) (fun _ _=>rfl)
theorem z4t:SG ZP sg 79 @zaak:=conD (loops:=zry) good Tryz.func79 za1f (by kernel_rfl) zajn (all_cons zagf zaa) (fun a=>by kernel_rfl)
theorem zarq:SG ZP sg 131 @zack:=conE good Tryz.func131 (by kernel_rfl) (by kernel_rfl) cg0 (fun a=>by kernel_rfl)
theorem zase:SG ZP sg 132 @zacx:=conE good Tryz.func132 (by kernel_rfl) (by kernel_rfl) cg0 (fun a=>by kernel_rfl)
theorem za1g:fnB ZP 80 Tryz.f80 [4]=true:=by kernel_rfl
theorem zaj3:CG ZP sg @zaeq:=(cgc zarq (cgc zase cg0))
theorem zag5:zaf ZP sg 0 Tryz.f80 @zse 4:=zas zx5 good Tryz.func80 za1g zaj3 zaa (fun a=>by kernel_rfl) (by kernel_rfl) (fun _ _=>rfl)
theorem z47:SG ZP sg 80 @zaa7:=conD (loops:=zse) good Tryz.func80 za1g (by kernel_rfl) zaj3 (all_cons zag5 zaa) (fun a=>by kernel_rfl)
theorem zt1:SG ZP sg 199 @zavw:=conE good Tryz.func199 (by kernel_rfl) (by kernel_rfl) cg0 (fun a=>by kernel_rfl)
theorem zasc:SG ZP sg 200 @zaxi:=conE good Tryz.func200 (by kernel_rfl) (by kernel_rfl) (cgc zt1 cg0) (fun a=>by kernel_rfl)
theorem zary:SG ZP sg 133 @zacq:=conE good Tryz.func133 (by kernel_rfl) (by kernel_rfl) (cgc zt1 (cgc zasc cg0)) (fun a=>by kernel_rfl)
theorem zaqw:SG ZP sg 135 @zabu:=conE good Tryz.func135 (by kernel_rfl) (by kernel_rfl) cg0 (fun a=>by kernel_rfl)
theorem zm2:fnB ZP 134 Tryz.f134 [2,5]=true:=by kernel_rfl
theorem zao3:CG ZP sg @zaoj:=(cgc zaqw cg0)
theorem z8r:zaf ZP sg 0 Tryz.f134 @zpk 5:=zas z7m good Tryz.func134 zm2 zao3 zaa (fun a=>by kernel_rfl) (by kernel_rfl) (fun _ _=>rfl)
theorem zats:zaf ZP sg 0 Tryz.f134 @zpk 2:=zas z7l good Tryz.func134 zm2 zao3 (all_cons z8r zaa) (fun a=>by kernel_rfl) (by kernel_rfl) (fun _ _=>rfl)
theorem zaz6:SG ZP sg 134 @zank:=conD (loops:=zpk) good Tryz.func134 zm2 (by kernel_rfl) zao3 (all_cons zats (all_cons z8r zaa)) (fun a=>by kernel_rfl)
theorem zarh:SG ZP sg 136 @zace:=conE good Tryz.func136 (by kernel_rfl) (by kernel_rfl) cg0 (fun a=>by kernel_rfl)
theorem zos:CG ZP sg @z0f:=(cgc zarh cg0)
theorem znn:zaf ZP sg 0 Tryz.f134 @zgv 5:=zas znj good Tryz.func134 zm2 zos zaa (fun a=>by kernel_rfl) (by kernel_rfl) (fun _ _=>rfl)
theorem z1k:zaf ZP sg 0 Tryz.f134 @zgv 2:=zas zni good Tryz.func134 zm2 zos (all_cons znn zaa) (fun a=>by kernel_rfl) (by kernel_rfl) (fun _ _=>rfl)
theorem z58:SG ZP sg 134 @ztc:=conD (loops:=zgv) good Tryz.func134 zm2 (by kernel_rfl) zos (all_cons z1k (all_cons znn zaa)) (fun a=>by kernel_rfl)
theorem za1h:fnB ZP 81 Tryz.f81 [4]=true:=by kernel_rfl
theorem zazu:CG ZP sg @zaop:=(cgc zary (cgc (sgi zaz6 (sgi z58 sg0)) cg0))
theorem zat0:zaf ZP sg 0 Tryz.f81 @zza 4:=zas z7u good Tryz.func81 za1h zazu zaa (fun a=>by kernel_rfl) (by kernel_rfl) (fun _ _=>rfl)
theorem za0b:SG ZP sg 81 @zano:=conD (loops:=zza) good Tryz.func81 za1h (by kernel_rfl) zazu (all_cons zat0 zaa) (fun a=>by kernel_rfl)
theorem zarw:SG ZP sg 201 @zaw4:=conE good Tryz.func201 (by kernel_rfl) (by kernel_rfl) cg0 (fun a=>by kernel_rfl)
theorem z59:SG ZP sg 202 @zaw6:=conE good Tryz.func202 (by kernel_rfl) (by kernel_rfl) cg0 (fun a=>by kernel_rfl)
theorem zap8:SG ZP sg 137 @zaa1:=conE good Tryz.func137 (by kernel_rfl) (by kernel_rfl) (cgc zarw (cgc z59 cg0)) (fun a=>by kernel_rfl)
theorem za1i:fnB ZP 82 Tryz.f82 [4]=true:=by kernel_rfl
theorem zaj4:CG ZP sg @zaer:=(cgc zap8 cg0)
theorem zag6:zaf ZP sg 0 Tryz.f82 @zsf 4:=zas zx6 good Tryz.func82 za1i zaj4 zaa (fun a=>by kernel_rfl) (by kernel_rfl) (fun _ _=>rfl)
theorem z48:SG ZP sg 82 @zaa8:=conD (loops:=zsf) good Tryz.func82 za1i (by kernel_rfl) zaj4 (all_cons zag6 zaa) (fun a=>by kernel_rfl)
theorem z5b:SG ZP sg 203 @zawa:=conE good Tryz.func203 (by kernel_rfl) (by kernel_rfl) cg0 (fun a=>by kernel_rfl)
theorem zaru:SG ZP sg 138 @zacn:=conE good Tryz.func138 (by kernel_rfl) (by kernel_rfl) (cgc z5b cg0) (fun a=>by kernel_rfl)
theorem z5o:SG ZP sg 139 @zabx:=conE good Tryz.func139 (by kernel_rfl) (by kernel_rfl) cg0 (fun a=>by kernel_rfl)
theorem zakv:fnB ZP 204 Tryz.f204 [2]=true:=by kernel_rfl
theorem zajk:CG ZP sg @zadz:=(cgc z5o cg0)
theorem zagc:zaf ZP sg 0 Tryz.f204 @zrv 2:=zas zxc good Tryz.func204 zakv zajk zaa (fun a=>by kernel_rfl) (by kernel_rfl) (fun _ _=>rfl)
theorem zaph:SG ZP sg 204 @zavc:=conD (loops:=zrv) good Tryz.func204 zakv (by kernel_rfl) zajk (all_cons zagc zaa) (fun a=>by kernel_rfl)
theorem zarr:SG ZP sg 140 @zacl:=conE good Tryz.func140 (by kernel_rfl) (by kernel_rfl) (cgc z5o (cgc zaph cg0)) (fun a=>by kernel_rfl)
theorem za1j:fnB ZP 83 Tryz.f83 [4]=true:=by kernel_rfl
theorem zazy:CG ZP sg @zao0:=(cgc zaru (cgc zarr cg0))
theorem zauc:zaf ZP sg 0 Tryz.f83 @zze 4:=zas z8f good Tryz.func83 za1j zazy zaa (fun a=>by kernel_rfl) (by kernel_rfl) (fun _ _=>rfl)
theorem za0k:SG ZP sg 83 @zanu:=conD (loops:=zze) good Tryz.func83 za1j (by kernel_rfl) zazy (all_cons zauc zaa) (fun a=>by kernel_rfl)
theorem zt5:SG ZP sg 143 @zabk:=conE good Tryz.func143 (by kernel_rfl) (by kernel_rfl) cg0 (fun a=>by kernel_rfl)
theorem z5d:SG ZP sg 142 @zabh:=conE good Tryz.func142 (by kernel_rfl) (by kernel_rfl) (cgc zt5 cg0) (fun a=>by kernel_rfl)
theorem zakw:fnB ZP 205 Tryz.f205 [2]=true:=by kernel_rfl
theorem zajl:CG ZP sg @zad0:=(cgc z5d cg0)
theorem zagd:zaf ZP sg 0 Tryz.f205 @zrw 2:=zas zxd good Tryz.func205 zakw zajl zaa (fun a=>by kernel_rfl) (by kernel_rfl) (fun _ _=>rfl)
theorem zapi:SG ZP sg 205 @zavd:=conD (loops:=zrw) good Tryz.func205 zakw (by kernel_rfl) zajl (all_cons zagd zaa) (fun a=>by kernel_rfl)
theorem zars:SG ZP sg 141 @zacm:=conE good Tryz.func141 (by kernel_rfl) (by kernel_rfl) (cgc z5d (cgc zapi cg0)) (fun a=>by kernel_rfl)
theorem za1k:fnB ZP 84 Tryz.f84 [8]=true:=by kernel_rfl
theorem zazx:CG ZP sg @zaoy:=(cgc zars cg0)
theorem zaua:zaf ZP sg 0 Tryz.f84 @zzd 8:=zas z8c good Tryz.func84 za1k zazx zaa (fun a=>by kernel_rfl) (by kernel_rfl) (fun _ _=>rfl)
theorem zakn:SG ZP sg 84 @zans:=conD (loops:=zzd) good Tryz.func84 za1k (by kernel_rfl) zazx (all_cons zaua zaa) (fun a=>by kernel_rfl)
theorem zafy:fnB ZP 38 Tryz.f38 [4,12,18]=true:=by kernel_rfl
theorem zafb:CG ZP sg @zaow:=(cgc zow (cgc z4t (cgc z47 (cgc za0b (cgc z48 (cgc za0k (cgc zakn cg0)))))))
theorem zat8:zaf ZP sg 0 Tryz.f38 @zjc 4:=zas z8a good Tryz.func38 zafy zafb zaa (fun a=>by kernel_rfl) (by kernel_rfl) (fun _ _=>rfl)
theorem zaht:zaf ZP sg 0 Tryz.f38 @zjc 12:=zas zyu good Tryz.func38 zafy zafb zaa (fun a=>by kernel_rfl) (by kernel_rfl) (fun _ _=>rfl)
theorem zahu:zaf ZP sg 0 Tryz.f38 @zjc 18:=zas zyv good Tryz.func38 zafy zafb zaa (fun a=>by kernel_rfl) (by kernel_rfl) (fun _ _=>rfl)
theorem za0h:SG ZP sg 38 @za37:=conD (loops:=zjc) good Tryz.func38 zafy (by kernel_rfl) zafb (all_cons zat8 (all_cons zaht (all_cons zahu zaa))) (fun a=>by kernel_rfl)
theorem zaqq:SG ZP sg 207 @zabj:=conE good Tryz.func207 (by kernel_rfl) (by kernel_rfl) cg0 (fun a=>by kernel_rfl)
theorem zw6:fnB ZP 206 Tryz.f206 [2]=true:=by kernel_rfl
theorem zazv:CG ZP sg @zaos:=(cgc zaqq cg0)
theorem zat3:zaf ZP sg 0 Tryz.f206 @zzb 2:=zas z7y good Tryz.func206 zw6 zazv zaa (fun a=>by kernel_rfl) (by kernel_rfl) (fun _ _=>rfl)
theorem za0e:SG ZP sg 206 @za35:=conD (loops:=zzb) good Tryz.func206 zw6 (by kernel_rfl) zazv (all_cons zat3 zaa) (fun a=>by kernel_rfl)
theorem z5c:SG ZP sg 144 @zawb:=conE good Tryz.func144 (by kernel_rfl) (by kernel_rfl) (cgc za0e cg0) (fun a=>by kernel_rfl)
theorem zub:SG ZP sg 86 @zaw0:=conE good Tryz.func86 (by kernel_rfl) (by kernel_rfl) (cgc z5c cg0) (fun a=>by kernel_rfl)
theorem zaqv:SG ZP sg 85 @zabs:=conE good Tryz.func85 (by kernel_rfl) (by kernel_rfl) (cgc zub cg0) (fun a=>by kernel_rfl)
theorem zafz:fnB ZP 39 Tryz.f39 [3,9,15]=true:=by kernel_rfl
theorem zae8:CG ZP sg @zaol:=(cgc zjy (cgc zaqv cg0))
theorem zatv:zaf ZP sg 0 Tryz.f39 @zi9 3:=zas z7p good Tryz.func39 zafz zae8 zaa (fun a=>by kernel_rfl) (by kernel_rfl) (fun _ _=>rfl)
theorem zatw:zaf ZP sg 0 Tryz.f39 @zi9 9:=zas z7q good Tryz.func39 zafz zae8 zaa (fun a=>by kernel_rfl) (by kernel_rfl) (fun _ _=>rfl)
theorem zahr:zaf ZP sg 0 Tryz.f39 @zi9 15:=zas zyr good Tryz.func39 zafz zae8 zaa (fun a=>by kernel_rfl) (by kernel_rfl) (fun _ _=>rfl)
theorem zaz8:SG ZP sg 39 @za33:=conD (loops:=zi9) good Tryz.func39 zafz (by kernel_rfl) zae8 (all_cons zatv (all_cons zatw (all_cons zahr zaa))) (fun a=>by kernel_rfl)
theorem zty:SG ZP sg 122 @zavo:=conE good Tryz.func122 (by kernel_rfl) (by kernel_rfl) cg0 (fun a=>by kernel_rfl)
theorem z5j:SG ZP sg 186 @zabt:=conE good Tryz.func186 (by kernel_rfl) (by kernel_rfl) cg0 (fun a=>by kernel_rfl)
theorem zw5:fnB ZP 185 Tryz.f185 [2]=true:=by kernel_rfl
theorem zazt:CG ZP sg @zaoo:=(cgc z5j cg0)
theorem zatz:zaf ZP sg 0 Tryz.f185 @zy9 2:=zas z7t good Tryz.func185 zw5 zazt zaa (fun a=>by kernel_rfl) (by kernel_rfl) (fun _ _=>rfl)
theorem za0a:SG ZP sg 185 @za34:=conD (loops:=zy9) good Tryz.func185 zw5 (by kernel_rfl) zazt (all_cons zatz zaa) (fun a=>by kernel_rfl)
theorem ztz:SG ZP sg 121 @zavv:=conE good Tryz.func121 (by kernel_rfl) (by kernel_rfl) (cgc za0a (cgc z5j cg0)) (fun a=>by kernel_rfl)
theorem z6a:SG ZP sg 69 @zacs:=conE good Tryz.func69 (by kernel_rfl) (by kernel_rfl) (cgc ztz (cgc zty cg0)) (fun a=>by kernel_rfl)
theorem za07:fnB ZP 40 Tryz.f40 [2]=true:=by kernel_rfl
theorem zaki:CG ZP sg @zae5:=(cgc z6a cg0)
theorem zahj:zaf ZP sg 0 Tryz.f40 @zst 2:=zas zyj good Tryz.func40 za07 zaki zaa (fun a=>by kernel_rfl) (by kernel_rfl) (fun _ _=>rfl)
theorem zaqm:SG ZP sg 40 @zav7:=conD (loops:=zst) good Tryz.func40 za07 (by kernel_rfl) zaki (all_cons zahj zaa) (fun a=>by kernel_rfl)
theorem zaqz:SG ZP sg 145 @zab2:=conE good Tryz.func145 (by kernel_rfl) (by kernel_rfl) cg0 (fun a=>by kernel_rfl)
theorem zfz:fnB ZP 110 Tryz.f110 [2]=true:=by kernel_rfl
theorem zazp:CG ZP sg @zaog:=(cgc zaqz cg0)
theorem zatp:zaf ZP sg 0 Tryz.f110 @zy5 2:=zas z7i good Tryz.func110 zfz zazp zaa (fun a=>by kernel_rfl) (by kernel_rfl) (fun _ _=>rfl)
theorem zaz3:SG ZP sg 110 @za30:=conD (loops:=zy5) good Tryz.func110 zfz (by kernel_rfl) zazp (all_cons zatp zaa) (fun a=>by kernel_rfl)
theorem ztw:SG ZP sg 87 @zaal:=conE good Tryz.func87 (by kernel_rfl) (by kernel_rfl) (cgc zaz3 cg0) (fun a=>by kernel_rfl)
theorem zas5:fnB ZP 41 Tryz.f41 [2,16]=true:=by kernel_rfl
theorem z4h:CG ZP sg @zad8:=(cgc zjy (cgc ztw cg0))
theorem zagm:zaf ZP sg 0 Tryz.f41 @zko 2:=zas zxm good Tryz.func41 zas5 z4h zaa (fun a=>by kernel_rfl) (by kernel_rfl) (fun _ _=>rfl)
theorem z8n:zaf ZP sg 0 Tryz.f41 @zko 16:=zas zrk good Tryz.func41 zas5 z4h zaa (fun a=>by kernel_rfl) (by kernel_rfl) (fun _ _=>rfl)
theorem zapp:SG ZP sg 41 @zavh:=conD (loops:=zko) good Tryz.func41 zas5 (by kernel_rfl) z4h (all_cons zagm (all_cons z8n zaa)) (fun a=>by kernel_rfl)
theorem z57:SG ZP sg 23 @zacf:=conE good Tryz.func23 (by kernel_rfl) (by kernel_rfl) (cgc zow (cgc za0i (cgc za0h (cgc zaz8 (cgc zaqm (cgc zapp cg0)))))) (fun a=>by kernel_rfl)
theorem zakl:SG ZP sg 53 @zani:=conE good Tryz.func53 (by kernel_rfl) (by kernel_rfl) (cgc z57 (cgc z5f (cgc zjy (cgc z5u (cgc (sgP zaq3) (cgc z5n cg0)))))) (fun a=>by kernel_rfl)
theorem zaqt:SG ZP sg 208 @zabn:=conE good Tryz.func208 (by kernel_rfl) (by kernel_rfl) cg0 (fun a=>by kernel_rfl)
theorem zwz:CG ZP sg @z0h:=(cgc zaqt cg0)
theorem z1m:zaf ZP sg 0 Tryz.f206 @zk1 2:=zas znl good Tryz.func206 zw6 zwz zaa (fun a=>by kernel_rfl) (by kernel_rfl) (fun _ _=>rfl)
theorem z6j:SG ZP sg 206 @zac2:=conD (loops:=zk1) good Tryz.func206 zw6 (by kernel_rfl) zwz (all_cons z1m zaa) (fun a=>by kernel_rfl)
theorem zaro:SG ZP sg 211 @zaw2:=conS (loops:=l0) (ids:=[]) good Tryz.func211 (by kernel_rfl) (by kernel_rfl) cg0 zaa (fun a=>by kernel_rfl) (by kernel_rfl)
theorem zaq6:SG ZP sg 209 @zawn:=conE good Tryz.func209 (by kernel_rfl) (by kernel_rfl) (cgc z4t cg0) (fun a=>by kernel_rfl)
theorem zap4:SG ZP sg 153 @zavt:=conE good Tryz.func153 (by kernel_rfl) (by kernel_rfl) (cgc z5c (cgc z6j (cgc zaq6 (cgc (sgP zarn) (cgc zaro cg0))))) (fun a=>by kernel_rfl)
theorem zarg:SG ZP sg 99 @zawx:=conE good Tryz.func99 (by kernel_rfl) (by kernel_rfl) (cgc zap4 cg0) (fun a=>by kernel_rfl)
theorem zaqu:SG ZP sg 52 @zabo:=conE good Tryz.func52 (by kernel_rfl) (by kernel_rfl) (cgc zakl (cgc zar2 (cgc zarg cg0))) (fun a=>by kernel_rfl)
theorem zoy:SG ZP sg 64 @zawf:=conN (loops:=l0) (ids:=[]) good Tryz.func64 (by kernel_rfl) (by kernel_rfl) cg0 zaa (fun a=>by kernel_rfl)
theorem zhb:SG ZP sg 67 @za39:=conM (loops:=l0) (ids:=[]) good Tryz.func67 (by kernel_rfl) (by kernel_rfl) cg0 zaa (fun a b=>by kernel_rfl)
theorem zoz:SG ZP sg 65 @zawk:=conM (loops:=l0) (ids:=[]) good Tryz.func65 (by kernel_rfl) (by kernel_rfl) (cgc zhb (cgc zjy cg0)) zaa (fun a b=>by kernel_rfl)
theorem zarf:SG ZP sg 156 @zawv:=conS (loops:=l0) (ids:=[]) good Tryz.func156 (by kernel_rfl) (by kernel_rfl) cg0 zaa (fun a=>by kernel_rfl) (by kernel_rfl)
theorem zgs:SG ZP sg 104 @zav0:=conM (loops:=l0) (ids:=[]) good Tryz.func104 (by kernel_rfl) (by kernel_rfl) (cgc zhb (cgc z5n (cgc z5v (cgc zarf cg0)))) zaa (fun a b=>by kernel_rfl)
theorem zt0:SG ZP sg 260 @zvw:=conE good Tryz.func260 (by kernel_rfl) (by kernel_rfl) cg0 (fun a=>by kernel_rfl)
theorem z6t:fnB ZP 275 Tryz.f275 [1,4]=true:=by kernel_rfl
theorem zao6:CG ZP sg @zaov:=(cgc zt0 cg0)
theorem z8u:zaf ZP sg MA Tryz.f275 @zpn 4:=zas z79 good Tryz.func275 z6t zao6 zaa (fun a=>by kernel_rfl) (by kernel_rfl) (fun _ _=>rfl)
theorem zat7:zaf ZP sg MA Tryz.f275 @zpn 1:=zas z78 good Tryz.func275 z6t zao6 (all_cons z8u zaa) (fun a=>by kernel_rfl) (by kernel_rfl) (fun _ _=>rfl)
theorem za0g:SG ZP sg 275 @zanr:=conI (loops:=zpn) good Tryz.func275 z6t (by kernel_rfl) zao6 (all_cons zat7 (all_cons z8u zaa)) (fun a=>by kernel_rfl)
theorem zw7:fnB ZP 269 Tryz.f269 [2,7,9]=true:=by kernel_rfl
theorem zafa:CG ZP sg @zaou:=(cgc zt0 (cgc za0g (cgc (sgP zaqp) cg0)))
theorem zat5:zaf ZP sg MA Tryz.f269 @zjb 2:=zas z71 good Tryz.func269 zw7 zafa zaa (fun a=>by kernel_rfl) (by kernel_rfl) (fun _ _=>rfl)
theorem z8t:zaf ZP sg MA Tryz.f269 @zjb 9:=zas z74 good Tryz.func269 zw7 zafa zaa (fun a=>by kernel_rfl) (by kernel_rfl) (fun _ _=>rfl)
theorem zat6:zaf ZP sg MA Tryz.f269 @zjb 7:=zas z73 good Tryz.func269 zw7 zafa (all_cons z8t zaa) (fun a=>by kernel_rfl) (by kernel_rfl) (fun _ _=>rfl)
theorem za0f:SG ZP sg 269 @za36:=conI (loops:=zjb) good Tryz.func269 zw7 (by kernel_rfl) zafa (all_cons zat5 (all_cons zat6 (all_cons z8t zaa))) (fun a=>by kernel_rfl)
theorem zarm:SG ZP sg 259 @zacj:=conI (loops:=l0) (ids:=[]) good Tryz.func259 (by kernel_rfl) (by kernel_rfl) (cgc zt0 (cgc za0f cg0)) zaa (fun a=>by kernel_rfl)
theorem zak5:fnB ZP 246 Tryz.f246 [3]=true:=by kernel_rfl
theorem zazs:CG ZP sg @zaon:=(cgc zarm cg0)
theorem zaty:zaf ZP sg 0 Tryz.f246 @zy8 3:=zas z7s good Tryz.func246 zak5 zazs zaa (fun a=>by kernel_rfl) (by kernel_rfl) (fun _ _=>rfl)
theorem zaz9:SG ZP sg 246 @zann:=conD (loops:=zy8) good Tryz.func246 zak5 (by kernel_rfl) zazs (all_cons zaty zaa) (fun a=>by kernel_rfl)
theorem zakx:fnB ZP 213 Tryz.f213 [3]=true:=by kernel_rfl
theorem zake:CG ZP sg @zae1:=(cgc zaz9 cg0)
theorem zahf:zaf ZP sg 0 Tryz.f213 @zsp 3:=zas zyf good Tryz.func213 zakx zake zaa (fun a=>by kernel_rfl) (by kernel_rfl) (fun _ _=>rfl)
theorem zaqh:SG ZP sg 213 @zav5:=conD (loops:=zsp) good Tryz.func213 zakx (by kernel_rfl) zake (all_cons zahf zaa) (fun a=>by kernel_rfl)
theorem z6f:SG ZP sg 157 @zaxj:=conE good Tryz.func157 (by kernel_rfl) (by kernel_rfl) (cgc zaqh cg0) (fun a=>by kernel_rfl)
theorem zara:SG ZP sg 247 @zab9:=conE good Tryz.func247 (by kernel_rfl) (by kernel_rfl) cg0 (fun a=>by kernel_rfl)
theorem zwq:CG ZP sg @zz7:=(cgc zara cg0)
theorem z1c:zaf ZP sg 0 Tryz.f110 @zks 2:=zas zna good Tryz.func110 zfz zwq zaa (fun a=>by kernel_rfl) (by kernel_rfl) (fun _ _=>rfl)
theorem z4z:SG ZP sg 110 @zaa2:=conD (loops:=zks) good Tryz.func110 zfz (by kernel_rfl) zwq (all_cons z1c zaa) (fun a=>by kernel_rfl)
theorem zt2:SG ZP sg 214 @zav4:=conE good Tryz.func214 (by kernel_rfl) (by kernel_rfl) (cgc z4z cg0) (fun a=>by kernel_rfl)
theorem z6g:SG ZP sg 158 @zaxm:=conE good Tryz.func158 (by kernel_rfl) (by kernel_rfl) (cgc zt2 cg0) (fun a=>by kernel_rfl)
theorem z5t:SG ZP sg 68 @zawl:=conM (loops:=l0) (ids:=[]) good Tryz.func68 (by kernel_rfl) (by kernel_rfl) (cgc zgs cg0) zaa (fun a b=>by kernel_rfl)
theorem zar7:SG ZP sg 270 @zaxe:=conE good Tryz.func270 (by kernel_rfl) (by kernel_rfl) cg0 (fun a=>by kernel_rfl)
theorem zap7:SG ZP sg 261 @zaaz:=conE good Tryz.func261 (by kernel_rfl) (by kernel_rfl) (cgc zar7 cg0) (fun a=>by kernel_rfl)
theorem zak8:fnB ZP 262 Tryz.f262 [3]=true:=by kernel_rfl
theorem zakb:CG ZP sg @zaey:=cg0
theorem zahc:zaf ZP sg 0 Tryz.f262 @zsm 3:=zas zyc good Tryz.func262 zak8 zakb zaa (fun a=>by kernel_rfl) (by kernel_rfl) (fun _ _=>rfl)
theorem zaqd:SG ZP sg 262 @zabc:=conD (loops:=zsm) good Tryz.func262 zak8 (by kernel_rfl) zakb (all_cons zahc zaa) (fun a=>by kernel_rfl)
theorem zak6:fnB ZP 248 Tryz.f248 [3]=true:=by kernel_rfl
theorem zajo:CG ZP sg @zad3:=(cgc zap7 (cgc zaqd cg0))
theorem zagg:zaf ZP sg 0 Tryz.f248 @zrz 3:=zas zxg good Tryz.func248 zak6 zajo zaa (fun a=>by kernel_rfl) (by kernel_rfl) (fun _ _=>rfl)
theorem zapk:SG ZP sg 248 @zavg:=conD (loops:=zrz) good Tryz.func248 zak6 (by kernel_rfl) zajo (all_cons zagg zaa) (fun a=>by kernel_rfl)
theorem zaq9:SG ZP sg 220 @zawp:=conE good Tryz.func220 (by kernel_rfl) (by kernel_rfl) (cgc zapk cg0) (fun a=>by kernel_rfl)
theorem zt9:SG ZP sg 162 @zawm:=conE good Tryz.func162 (by kernel_rfl) (by kernel_rfl) (cgc zub (cgc zaq9 cg0)) (fun a=>by kernel_rfl)
theorem zt4:SG ZP sg 165 @zawc:=conE good Tryz.func165 (by kernel_rfl) (by kernel_rfl) (cgc zow cg0) (fun a=>by kernel_rfl)
theorem z54:SG ZP sg 117 @zawy:=conE good Tryz.func117 (by kernel_rfl) (by kernel_rfl) cg0 (fun a=>by kernel_rfl)
theorem zarx:SG ZP sg 271 @zacp:=conE good Tryz.func271 (by kernel_rfl) (by kernel_rfl) (cgc z54 cg0) (fun a=>by kernel_rfl)
theorem zar4:SG ZP sg 272 @zacu:=conE good Tryz.func272 (by kernel_rfl) (by kernel_rfl) cg0 (fun a=>by kernel_rfl)
theorem zak9:fnB ZP 263 Tryz.f263 [3]=true:=by kernel_rfl
theorem zaj0:CG ZP sg @zaen:=(cgc zarx (cgc zar4 cg0))
theorem zag2:zaf ZP sg 0 Tryz.f263 @zsb 3:=zas zx2 good Tryz.func263 zak9 zaj0 zaa (fun a=>by kernel_rfl) (by kernel_rfl) (fun _ _=>rfl)
theorem zap1:SG ZP sg 263 @zavq:=conD (loops:=zsb) good Tryz.func263 zak9 (by kernel_rfl) zaj0 (all_cons zag2 zaa) (fun a=>by kernel_rfl)
theorem zak7:fnB ZP 251 Tryz.f251 [3]=true:=by kernel_rfl
theorem zajx:CG ZP sg @zaek:=cg0
theorem zagz:zaf ZP sg 0 Tryz.f251 @zr8 3:=zas zxz good Tryz.func251 zak7 zajx zaa (fun a=>by kernel_rfl) (by kernel_rfl) (fun _ _=>rfl)
theorem z4x:SG ZP sg 251 @zaav:=conD (loops:=zr8) good Tryz.func251 zak7 (by kernel_rfl) zajx (all_cons zagz zaa) (fun a=>by kernel_rfl)
theorem zass:SG ZP sg 265 @zaxx:=conE good Tryz.func265 (by kernel_rfl) (by kernel_rfl) cg0 (fun a=>by kernel_rfl)
theorem zua:SG ZP sg 253 @zaca:=conE good Tryz.func253 (by kernel_rfl) (by kernel_rfl) (cgc zass cg0) (fun a=>by kernel_rfl)
theorem z5l:SG ZP sg 249 @zvz:=conE good Tryz.func249 (by kernel_rfl) (by kernel_rfl) (cgc zt5 (cgc z4x (cgc zua (cgc zap1 cg0)))) (fun a=>by kernel_rfl)
theorem zak1:fnB ZP 221 Tryz.f221 [2]=true:=by kernel_rfl
theorem zaj1:CG ZP sg @zaeo:=(cgc z5l cg0)
theorem zag3:zaf ZP sg 0 Tryz.f221 @zsc 2:=zas zx3 good Tryz.func221 zak1 zaj1 zaa (fun a=>by kernel_rfl) (by kernel_rfl) (fun _ _=>rfl)
theorem z4y:SG ZP sg 221 @zaax:=conD (loops:=zsc) good Tryz.func221 zak1 (by kernel_rfl) zaj1 (all_cons zag3 zaa) (fun a=>by kernel_rfl)
theorem zak4:fnB ZP 231 Tryz.f231 [9]=true:=by kernel_rfl
theorem zajm:CG ZP sg @zad1:=(cgc zt5 (cgc z4y cg0))
theorem zage:zaf ZP sg 0 Tryz.f231 @zrx 9:=zas zxe good Tryz.func231 zak4 zajm zaa (fun a=>by kernel_rfl) (by kernel_rfl) (fun _ _=>rfl)
theorem zapj:SG ZP sg 231 @zavf:=conD (loops:=zrx) good Tryz.func231 zak4 (by kernel_rfl) zajm (all_cons zage zaa) (fun a=>by kernel_rfl)
theorem zasn:SG ZP sg 174 @zaxs:=conM (loops:=l0) (ids:=[]) good Tryz.func174 (by kernel_rfl) (by kernel_rfl) (cgc zhb (cgc zt4 (cgc zapj cg0))) zaa (fun a b=>by kernel_rfl)
theorem z5p:SG ZP sg 215 @zaby:=conE good Tryz.func215 (by kernel_rfl) (by kernel_rfl) cg0 (fun a=>by kernel_rfl)
theorem zwr:CG ZP sg @zz8:=(cgc z5p cg0)
theorem z1d:zaf ZP sg 0 Tryz.f110 @zkt 2:=zas znb good Tryz.func110 zfz zwr zaa (fun a=>by kernel_rfl) (by kernel_rfl) (fun _ _=>rfl)
theorem z41:SG ZP sg 110 @zaa3:=conD (loops:=zkt) good Tryz.func110 zfz (by kernel_rfl) zwr (all_cons z1d zaa) (fun a=>by kernel_rfl)
theorem zap5:SG ZP sg 57 @zavu:=conE good Tryz.func57 (by kernel_rfl) (by kernel_rfl) (cgc z41 (cgc z5p cg0)) (fun a=>by kernel_rfl)
theorem z6d:SG ZP sg 226 @zaxb:=conS (loops:=l0) (ids:=[]) good Tryz.func226 (by kernel_rfl) (by kernel_rfl) cg0 zaa (fun a=>by kernel_rfl) (by kernel_rfl)
theorem zasf:SG ZP sg 216 @zaxl:=conE good Tryz.func216 (by kernel_rfl) (by kernel_rfl) (cgc z6d cg0) (fun a=>by kernel_rfl)
theorem z4r:SG ZP sg 160 @zavb:=conE good Tryz.func160 (by kernel_rfl) (by kernel_rfl) (cgc zap5 (cgc zt1 (cgc zt2 (cgc zasf cg0)))) (fun a=>by kernel_rfl)
theorem zt8:SG ZP sg 159 @zawj:=conM (loops:=l0) (ids:=[]) good Tryz.func159 (by kernel_rfl) (by kernel_rfl) (cgc zhb cg0) zaa (fun a b=>by kernel_rfl)
theorem z52:SG ZP sg 114 @zaww:=conM (loops:=l0) (ids:=[]) good Tryz.func114 (by kernel_rfl) (by kernel_rfl) (cgc zgs (cgc zt8 (cgc z4r (cgc zt9 (cgc zasn cg0))))) zaa (fun a b=>by kernel_rfl)
theorem z6e:SG ZP sg 105 @zaxc:=conM (loops:=l0) (ids:=[]) good Tryz.func105 (by kernel_rfl) (by kernel_rfl) (cgc z5t (cgc zgs (cgc z52 (cgc z6f (cgc z6g (cgc zt8 (cgc z4r cg0))))))) zaa (fun a b=>by kernel_rfl)
theorem z4s:SG ZP sg 72 @zave:=conM (loops:=l0) (ids:=[]) good Tryz.func72 (by kernel_rfl) (by kernel_rfl) cg0 zaa (fun a b=>by kernel_rfl)
theorem zaq0:SG ZP sg 54 @zab3:=conE good Tryz.func54 (by kernel_rfl) (by kernel_rfl) (cgc zoy (cgc zoz (cgc z4s (cgc zgs (cgc z6e cg0))))) (fun a=>by kernel_rfl)
theorem zakz:fnB ZP 218 Tryz.f218 [3]=true:=by kernel_rfl
theorem zakf:CG ZP sg @zae2:=cg0
theorem zahg:zaf ZP sg 0 Tryz.f218 @zsq 3:=zas zyg good Tryz.func218 zakz zakf zaa (fun a=>by kernel_rfl) (by kernel_rfl) (fun _ _=>rfl)
theorem zaqi:SG ZP sg 218 @zav6:=conD (loops:=zsq) good Tryz.func218 zakz (by kernel_rfl) zakf (all_cons zahg zaa) (fun a=>by kernel_rfl)
theorem zakt:fnB ZP 163 Tryz.f163 [3]=true:=by kernel_rfl
theorem zajs:CG ZP sg @zaef:=cg0
theorem zagu:zaf ZP sg 0 Tryz.f163 @zr3 3:=zas zxu good Tryz.func163 zakt zajs zaa (fun a=>by kernel_rfl) (by kernel_rfl) (fun _ _=>rfl)
theorem z4w:SG ZP sg 163 @zaaq:=conD (loops:=zr3) good Tryz.func163 zakt (by kernel_rfl) zajs (all_cons zagu zaa) (fun a=>by kernel_rfl)
theorem zak0:fnB ZP 219 Tryz.f219 [3]=true:=by kernel_rfl
theorem zaj8:CG ZP sg @zaev:=(cgc z4w cg0)
theorem zag9:zaf ZP sg 0 Tryz.f219 @zsj 3:=zas zx9 good Tryz.func219 zak0 zaj8 zaa (fun a=>by kernel_rfl) (by kernel_rfl) (fun _ _=>rfl)
theorem zaqa:SG ZP sg 219 @zavx:=conD (loops:=zsj) good Tryz.func219 zak0 (by kernel_rfl) zaj8 (all_cons zag9 zaa) (fun a=>by kernel_rfl)
theorem zaky:fnB ZP 217 Tryz.f217 [3]=true:=by kernel_rfl
theorem zaka:CG ZP sg @zaex:=cg0
theorem zahb:zaf ZP sg 0 Tryz.f217 @zsl 3:=zas zyb good Tryz.func217 zaky zaka zaa (fun a=>by kernel_rfl) (by kernel_rfl) (fun _ _=>rfl)
theorem zaqc:SG ZP sg 217 @zavz:=conD (loops:=zsl) good Tryz.func217 zaky (by kernel_rfl) zaka (all_cons zahb zaa) (fun a=>by kernel_rfl)
theorem zasr:SG ZP sg 161 @zaxw:=conE good Tryz.func161 (by kernel_rfl) (by kernel_rfl) (cgc zaqc (cgc zaqi (cgc zaqa cg0))) (fun a=>by kernel_rfl)
theorem zak2:fnB ZP 222 Tryz.f222 [2]=true:=by kernel_rfl
theorem zakj:CG ZP sg @zae6:=(cgc z5l cg0)
theorem zahk:zaf ZP sg 0 Tryz.f222 @zsu 2:=zas zyk good Tryz.func222 zak2 zakj zaa (fun a=>by kernel_rfl) (by kernel_rfl) (fun _ _=>rfl)
theorem zaqn:SG ZP sg 222 @zav8:=conD (loops:=zsu) good Tryz.func222 zak2 (by kernel_rfl) zakj (all_cons zahk zaa) (fun a=>by kernel_rfl)
theorem zar1:SG ZP sg 164 @zaw5:=conE good Tryz.func164 (by kernel_rfl) (by kernel_rfl) (cgc z5b (cgc z4y (cgc zaqn cg0))) (fun a=>by kernel_rfl)
theorem zar9:SG ZP sg 106 @zaxf:=conE good Tryz.func106 (by kernel_rfl) (by kernel_rfl) (cgc z6f (cgc z6g (cgc zasr (cgc zt9 (cgc z4w (cgc zar1 (cgc zt4 cg0))))))) (fun a=>by kernel_rfl)
theorem z5r:SG ZP sg 166 @zab0:=conE good Tryz.func166 (by kernel_rfl) (by kernel_rfl) cg0 (fun a=>by kernel_rfl)
theorem zwy:CG ZP sg @z0g:=(cgc z5r cg0)
theorem z1l:zaf ZP sg 0 Tryz.f185 @zk0 2:=zas znk good Tryz.func185 zw5 zwy zaa (fun a=>by kernel_rfl) (by kernel_rfl) (fun _ _=>rfl)
theorem z6i:SG ZP sg 185 @zac1:=conD (loops:=zk0) good Tryz.func185 zw5 (by kernel_rfl) zwy (all_cons z1l zaa) (fun a=>by kernel_rfl)
theorem z0n:SG ZP sg 121 @z2s:=conE good Tryz.func121 (by kernel_rfl) (by kernel_rfl) (cgc z5r (cgc z6i cg0)) (fun a=>by kernel_rfl)
theorem z6c:SG ZP sg 169 @zaxa:=conS (loops:=l0) (ids:=[]) good Tryz.func169 (by kernel_rfl) (by kernel_rfl) cg0 zaa (fun a=>by kernel_rfl) (by kernel_rfl)
theorem zaq8:SG ZP sg 167 @zawo:=conE good Tryz.func167 (by kernel_rfl) (by kernel_rfl) (cgc z47 cg0) (fun a=>by kernel_rfl)
theorem zaqo:SG ZP sg 107 @zav9:=conE good Tryz.func107 (by kernel_rfl) (by kernel_rfl) (cgc (sgi (ac:=zan2) ztz (sgi (ac:=zoj) z0n sg0)) (cgc zty (cgc zaq8 (cgc (sgP zarp) (cgc z6c cg0))))) (fun a=>by kernel_rfl)
theorem zt7:SG ZP sg 71 @zawi:=conM (loops:=l0) (ids:=[]) good Tryz.func71 (by kernel_rfl) (by kernel_rfl) (cgc zhb cg0) zaa (fun a b=>by kernel_rfl)
theorem zasa:SG ZP sg 170 @zaxg:=conE good Tryz.func170 (by kernel_rfl) (by kernel_rfl) (cgc zt2 (cgc (sgP zaq5) (cgc z6d cg0))) (fun a=>by kernel_rfl)
theorem zart:SG ZP sg 108 @zaw3:=conM (loops:=l0) (ids:=[]) good Tryz.func108 (by kernel_rfl) (by kernel_rfl) (cgc zt8 (cgc zasa cg0)) zaa (fun a b=>by kernel_rfl)
theorem z5k:SG ZP sg 109 @zawe:=conM (loops:=l0) (ids:=[]) good Tryz.func109 (by kernel_rfl) (by kernel_rfl) cg0 zaa (fun a b=>by kernel_rfl)
theorem zasd:SG ZP sg 112 @zaxk:=conE good Tryz.func112 (by kernel_rfl) (by kernel_rfl) cg0 (fun a=>by kernel_rfl)
theorem zarb:SG ZP sg 111 @zacd:=conE good Tryz.func111 (by kernel_rfl) (by kernel_rfl) (cgc zasd cg0) (fun a=>by kernel_rfl)
theorem zws:CG ZP sg @zz9:=(cgc zarb cg0)
theorem z1e:zaf ZP sg 0 Tryz.f110 @zku 2:=zas znc good Tryz.func110 zfz zws zaa (fun a=>by kernel_rfl) (by kernel_rfl) (fun _ _=>rfl)
theorem z42:SG ZP sg 110 @zaa4:=conD (loops:=zku) good Tryz.func110 zfz (by kernel_rfl) zws (all_cons z1e zaa) (fun a=>by kernel_rfl)
theorem zaql:SG ZP sg 55 @zabf:=conE good Tryz.func55 (by kernel_rfl) (by kernel_rfl) (cgc zoy (cgc zoz (cgc zhb (cgc zt7 (cgc zub (cgc ztw (cgc zgs (cgc zar9 (cgc zaqo (cgc zart (cgc z5k (cgc z42 cg0)))))))))))) (fun a=>by kernel_rfl)
theorem zask:SG ZP sg 123 @zaxp:=conE good Tryz.func123 (by kernel_rfl) (by kernel_rfl) (cgc z6c (cgc (sgP zaq4) cg0)) (fun a=>by kernel_rfl)
theorem z5z:SG ZP sg 70 @zawq:=conE good Tryz.func70 (by kernel_rfl) (by kernel_rfl) (cgc ztz (cgc zty (cgc zask cg0))) (fun a=>by kernel_rfl)
theorem zar8:SG ZP sg 252 @zacw:=conE good Tryz.func252 (by kernel_rfl) (by kernel_rfl) (cgc zua cg0) (fun a=>by kernel_rfl)
theorem z6s:fnB ZP 227 Tryz.f227 [7,13]=true:=by kernel_rfl
theorem z4i:CG ZP sg @zad9:=(cgc z4x (cgc zar8 (cgc zua cg0)))
theorem zagn:zaf ZP sg 0 Tryz.f227 @zkp 7:=zas zxn good Tryz.func227 z6s z4i zaa (fun a=>by kernel_rfl) (by kernel_rfl) (fun _ _=>rfl)
theorem z8o:zaf ZP sg 0 Tryz.f227 @zkp 13:=zas zrl good Tryz.func227 z6s z4i zaa (fun a=>by kernel_rfl) (by kernel_rfl) (fun _ _=>rfl)
theorem zapq:SG ZP sg 227 @zavi:=conD (loops:=zkp) good Tryz.func227 z6s (by kernel_rfl) z4i (all_cons zagn (all_cons z8o zaa)) (fun a=>by kernel_rfl)
theorem zasu:SG ZP sg 171 @zaxz:=conE good Tryz.func171 (by kernel_rfl) (by kernel_rfl) (cgc zakn (cgc z59 (cgc zapq cg0))) (fun a=>by kernel_rfl)
theorem zard:SG ZP sg 228 @zaws:=conE good Tryz.func228 (by kernel_rfl) (by kernel_rfl) (cgc z48 cg0) (fun a=>by kernel_rfl)
theorem zasl:SG ZP sg 172 @zaxq:=conM (loops:=l0) (ids:=[]) good Tryz.func172 (by kernel_rfl) (by kernel_rfl) (cgc zhb (cgc zard cg0)) zaa (fun a b=>by kernel_rfl)
theorem zaqs:SG ZP sg 230 @zabm:=conE good Tryz.func230 (by kernel_rfl) (by kernel_rfl) cg0 (fun a=>by kernel_rfl)
theorem zak3:fnB ZP 229 Tryz.f229 [2]=true:=by kernel_rfl
theorem zaj2:CG ZP sg @zaep:=(cgc zaqs cg0)
theorem zag4:zaf ZP sg 0 Tryz.f229 @zsd 2:=zas zx4 good Tryz.func229 zak3 zaj2 zaa (fun a=>by kernel_rfl) (by kernel_rfl) (fun _ _=>rfl)
theorem zap2:SG ZP sg 229 @zavr:=conD (loops:=zsd) good Tryz.func229 zak3 (by kernel_rfl) zaj2 (all_cons zag4 zaa) (fun a=>by kernel_rfl)
theorem zap3:SG ZP sg 173 @zavs:=conE good Tryz.func173 (by kernel_rfl) (by kernel_rfl) (cgc zap2 cg0) (fun a=>by kernel_rfl)
theorem zasj:SG ZP sg 113 @zaxo:=conM (loops:=l0) (ids:=[]) good Tryz.func113 (by kernel_rfl) (by kernel_rfl) (cgc z5z (cgc zt7 (cgc zgs (cgc zt9 (cgc zt4 (cgc zasu (cgc zasl (cgc zap3 cg0)))))))) zaa (fun a b=>by kernel_rfl)
theorem zarz:SG ZP sg 56 @zacr:=conE good Tryz.func56 (by kernel_rfl) (by kernel_rfl) (cgc zoy (cgc zoz (cgc zhb (cgc ztw (cgc zgs (cgc z6e (cgc z5k (cgc zasj (cgc z52 cg0))))))))) (fun a=>by kernel_rfl)
theorem za04:fnB ZP 26 Tryz.f26 [6]=true:=by kernel_rfl
theorem zakc:CG ZP sg @zaez:=(cgc zaqu (cgc zakl (cgc zaq0 (cgc zaql (cgc zarz cg0)))))
theorem zahd:zaf ZP sg 0 Tryz.f26 @zsn 6:=zas zyd good Tryz.func26 za04 zakc zaa (fun a=>by kernel_rfl) (by kernel_rfl) (fun _ _=>rfl)
theorem zaqe:SG ZP sg 26 @zav1:=conD (loops:=zsn) good Tryz.func26 za04 (by kernel_rfl) zakc (all_cons zahd zaa) (fun a=>by kernel_rfl)
theorem za0t:fnB ZP 11 Tryz.f11 [3]=true:=by kernel_rfl
theorem zaj5:CG ZP sg @zaes:=cg0
theorem zag7:zaf ZP sg 0 Tryz.f11 @zsg 3:=zas zx7 good Tryz.func11 za0t zaj5 zaa (fun a=>by kernel_rfl) (by kernel_rfl) (fun _ _=>rfl)
theorem z49:SG ZP sg 11 @zaa9:=conD (loops:=zsg) good Tryz.func11 za0t (by kernel_rfl) zaj5 (all_cons zag7 zaa) (fun a=>by kernel_rfl)
theorem za0v:fnB ZP 13 Tryz.f13 [3]=true:=by kernel_rfl
theorem zajp:CG ZP sg @zaeb:=cg0
theorem zagq:zaf ZP sg 0 Tryz.f13 @zr0 3:=zas zxq good Tryz.func13 za0v zajp zaa (fun a=>by kernel_rfl) (by kernel_rfl) (fun _ _=>rfl)
theorem ztx:SG ZP sg 13 @zvu:=conD (loops:=zr0) good Tryz.func13 za0v (by kernel_rfl) zajp (all_cons zagq zaa) (fun a=>by kernel_rfl)
theorem z5m:SG ZP sg 58 @zabw:=conE good Tryz.func58 (by kernel_rfl) (by kernel_rfl) cg0 (fun a=>by kernel_rfl)
theorem zwt:CG ZP sg @z0a:=(cgc z5m cg0)
theorem z1f:zaf ZP sg 0 Tryz.f110 @zkv 2:=zas znd good Tryz.func110 zfz zwt zaa (fun a=>by kernel_rfl) (by kernel_rfl) (fun _ _=>rfl)
theorem z43:SG ZP sg 110 @zaa5:=conD (loops:=zkv) good Tryz.func110 zfz (by kernel_rfl) zwt (all_cons z1f zaa) (fun a=>by kernel_rfl)
theorem z0l:SG ZP sg 57 @zod:=conE good Tryz.func57 (by kernel_rfl) (by kernel_rfl) (cgc z5m (cgc z43 cg0)) (fun a=>by kernel_rfl)
theorem zar5:SG ZP sg 62 @zaxd:=conE good Tryz.func62 (by kernel_rfl) (by kernel_rfl) (cgc z54 cg0) (fun a=>by kernel_rfl)
theorem za1b:fnB ZP 61 Tryz.f61 [3]=true:=by kernel_rfl
theorem zakd:CG ZP sg @zae0:=cg0
theorem zahe:zaf ZP sg 0 Tryz.f61 @zso 3:=zas zye good Tryz.func61 za1b zakd zaa (fun a=>by kernel_rfl) (by kernel_rfl) (fun _ _=>rfl)
theorem zaqg:SG ZP sg 61 @zav3:=conD (loops:=zso) good Tryz.func61 za1b (by kernel_rfl) zakd (all_cons zahe zaa) (fun a=>by kernel_rfl)
theorem za4p:SG ZP sg 60 @zaw9:=conE good Tryz.func60 (by kernel_rfl) (by kernel_rfl) (cgc zaqg (cgc zar5 cg0)) (fun a=>by kernel_rfl)
theorem za05:fnB ZP 27 Tryz.f27 [3]=true:=by kernel_rfl
theorem zazr:CG ZP sg @zaom:=(cgc z49 (cgc z0l (cgc (sgP zare) cg0)))
theorem zatx:zaf ZP sg 0 Tryz.f27 @zy7 3:=zas z7r good Tryz.func27 za05 zazr zaa (fun a=>by kernel_rfl) (by kernel_rfl) (fun _ _=>rfl)
theorem zakm:SG ZP sg 27 @zac0:=conD (loops:=zy7) good Tryz.func27 za05 (by kernel_rfl) zazr (all_cons zatx zaa) (fun a=>by kernel_rfl)
theorem za0x:fnB ZP 16 Tryz.f16 [3]=true:=by kernel_rfl
theorem zaj9:CG ZP sg @zaew:=(cgc zakm cg0)
theorem zaha:zaf ZP sg 0 Tryz.f16 @zsk 3:=zas zya good Tryz.func16 za0x zaj9 zaa (fun a=>by kernel_rfl) (by kernel_rfl) (fun _ _=>rfl)
theorem zaqb:SG ZP sg 16 @zavy:=conD (loops:=zsk) good Tryz.func16 za0x (by kernel_rfl) zaj9 (all_cons zaha zaa) (fun a=>by kernel_rfl)
theorem za0w:fnB ZP 15 Tryz.f15 [4]=true:=by kernel_rfl
theorem zazo:CG ZP sg @zaoe:=cg0
theorem zatm:zaf ZP sg 0 Tryz.f15 @zy4 4:=zas z7f good Tryz.func15 za0w zazo zaa (fun a=>by kernel_rfl) (by kernel_rfl) (fun _ _=>rfl)
theorem z4q:SG ZP sg 15 @zanj:=conD (loops:=zy4) good Tryz.func15 za0w (by kernel_rfl) zazo (all_cons zatm zaa) (fun a=>by kernel_rfl)
theorem z5e:SG ZP sg 32 @zabi:=conE good Tryz.func32 (by kernel_rfl) (by kernel_rfl) cg0 (fun a=>by kernel_rfl)
theorem zww:CG ZP sg @z0d:=(cgc z5e cg0)
theorem z1i:zaf ZP sg 0 Tryz.f63 @zky 2:=zas zng good Tryz.func63 zq1 zww zaa (fun a=>by kernel_rfl) (by kernel_rfl) (fun _ _=>rfl)
theorem z5g:SG ZP sg 63 @zabq:=conD (loops:=zky) good Tryz.func63 zq1 (by kernel_rfl) zww (all_cons z1i zaa) (fun a=>by kernel_rfl)
theorem zaqx:SG ZP sg 31 @zabv:=conE good Tryz.func31 (by kernel_rfl) (by kernel_rfl) (cgc z5e (cgc z5g cg0)) (fun a=>by kernel_rfl)
theorem z56:SG ZP sg 119 @zawz:=conE good Tryz.func119 (by kernel_rfl) (by kernel_rfl) cg0 (fun a=>by kernel_rfl)
theorem z5w:SG ZP sg 118 @zacb:=conE good Tryz.func118 (by kernel_rfl) (by kernel_rfl) (cgc z56 cg0) (fun a=>by kernel_rfl)
theorem zwx:CG ZP sg @z0e:=(cgc z5w cg0)
theorem z1j:zaf ZP sg 0 Tryz.f63 @zkz 2:=zas znh good Tryz.func63 zq1 zwx zaa (fun a=>by kernel_rfl) (by kernel_rfl) (fun _ _=>rfl)
theorem z5h:SG ZP sg 63 @zabr:=conD (loops:=zkz) good Tryz.func63 zq1 (by kernel_rfl) zwx (all_cons z1j zaa) (fun a=>by kernel_rfl)
theorem z0o:SG ZP sg 31 @z2t:=conE good Tryz.func31 (by kernel_rfl) (by kernel_rfl) (cgc z5h (cgc z5w cg0)) (fun a=>by kernel_rfl)
theorem z5q:SG ZP sg 120 @zabz:=conE good Tryz.func120 (by kernel_rfl) (by kernel_rfl) cg0 (fun a=>by kernel_rfl)
theorem zwu:CG ZP sg @z0b:=(cgc z5q cg0)
theorem z1g:zaf ZP sg 0 Tryz.f110 @zkw 2:=zas zne good Tryz.func110 zfz zwu zaa (fun a=>by kernel_rfl) (by kernel_rfl) (fun _ _=>rfl)
theorem z44:SG ZP sg 110 @zaa6:=conD (loops:=zkw) good Tryz.func110 zfz (by kernel_rfl) zwu (all_cons z1g zaa) (fun a=>by kernel_rfl)
theorem z0m:SG ZP sg 57 @z2r:=conE good Tryz.func57 (by kernel_rfl) (by kernel_rfl) (cgc z44 (cgc z5q cg0)) (fun a=>by kernel_rfl)
theorem zaps:SG ZP sg 66 @zavk:=conE good Tryz.func66 (by kernel_rfl) (by kernel_rfl) (cgc z0o (cgc z0m (cgc z56 cg0))) (fun a=>by kernel_rfl)
theorem zarv:SG ZP sg 33 @zaco:=conE good Tryz.func33 (by kernel_rfl) (by kernel_rfl) (cgc zoy (cgc zoz (cgc zaps (cgc zhb (cgc z5t (cgc z6a (cgc z5z (cgc zt7 (cgc z4s cg0))))))))) (fun a=>by kernel_rfl)
theorem zas0:fnB ZP 20 Tryz.f20 [2,9]=true:=by kernel_rfl
theorem zao4:CG ZP sg @zaok:=(cgc zaqx (cgc zarv cg0))
theorem zatt:zaf ZP sg 0 Tryz.f20 @zpl 2:=zas z7n good Tryz.func20 zas0 zao4 zaa (fun a=>by kernel_rfl) (by kernel_rfl) (fun _ _=>rfl)
theorem zatu:zaf ZP sg 0 Tryz.f20 @zpl 9:=zas z7o good Tryz.func20 zas0 zao4 zaa (fun a=>by kernel_rfl) (by kernel_rfl) (fun _ _=>rfl)
theorem z6h:SG ZP sg 20 @zanm:=conD (loops:=zpl) good Tryz.func20 zas0 (by kernel_rfl) zao4 (all_cons zatt (all_cons zatu zaa)) (fun a=>by kernel_rfl)
theorem za0z:fnB ZP 18 Tryz.f18 [4]=true:=by kernel_rfl
theorem zaj6:CG ZP sg @zaet:=(cgc ztx (cgc zakm cg0))
theorem zag8:zaf ZP sg 0 Tryz.f18 @zsh 4:=zas zx8 good Tryz.func18 za0z zaj6 zaa (fun a=>by kernel_rfl) (by kernel_rfl) (fun _ _=>rfl)
theorem z5a:SG ZP sg 18 @zaba:=conD (loops:=zsh) good Tryz.func18 za0z (by kernel_rfl) zaj6 (all_cons zag8 zaa) (fun a=>by kernel_rfl)
theorem z5x:SG ZP sg 10 @zacc:=conE good Tryz.func10 (by kernel_rfl) (by kernel_rfl) (cgc z49 (cgc ztx (cgc z4q (cgc zaqb (cgc z5a (cgc z6h (cgc zaqe cg0))))))) (fun a=>by kernel_rfl)
theorem za06:fnB ZP 30 Tryz.f30 [2]=true:=by kernel_rfl
theorem zakh:CG ZP sg @zae4:=cg0
theorem zahi:zaf ZP sg 0 Tryz.f30 @zss 2:=zas zyi good Tryz.func30 za06 zakh zaa (fun a=>by kernel_rfl) (by kernel_rfl) (fun _ _=>rfl)
theorem zaqk:SG ZP sg 30 @zabe:=conD (loops:=zss) good Tryz.func30 za06 (by kernel_rfl) zakh (all_cons zahi zaa) (fun a=>by kernel_rfl)
theorem za1d:fnB ZP 74 Tryz.f74 [10]=true:=by kernel_rfl
theorem zaj7:CG ZP sg @zaeu:=(cgc zqq (cgc z5i cg0))
theorem z8q:zaf ZP sg 0 Tryz.f74 @zsi 10:=zas zrn good Tryz.func74 za1d zaj7 zaa (fun a=>by kernel_rfl) (by kernel_rfl) (fun _ _=>rfl)
theorem zap9:SG ZP sg 74 @zabb:=conD (loops:=zsi) good Tryz.func74 za1d (by kernel_rfl) zaj7 (all_cons z8q zaa) (fun a=>by kernel_rfl)
theorem zash:SG ZP sg 75 @zacy:=conE good Tryz.func75 (by kernel_rfl) (by kernel_rfl) (cgc z4u cg0) (fun a=>by kernel_rfl)
theorem zas3:fnB ZP 34 Tryz.f34 [7,11]=true:=by kernel_rfl
theorem z4g:CG ZP sg @zad7:=(cgc zqq (cgc zap9 (cgc zash cg0)))
theorem zagl:zaf ZP sg 0 Tryz.f34 @zkn 7:=zas zxl good Tryz.func34 zas3 z4g zaa (fun a=>by kernel_rfl) (by kernel_rfl) (fun _ _=>rfl)
theorem z8m:zaf ZP sg 0 Tryz.f34 @zkn 11:=zas zrj good Tryz.func34 zas3 z4g zaa (fun a=>by kernel_rfl) (by kernel_rfl) (fun _ _=>rfl)
theorem zapo:SG ZP sg 34 @zaap:=conD (loops:=zkn) good Tryz.func34 zas3 (by kernel_rfl) z4g (all_cons zagl (all_cons z8m zaa)) (fun a=>by kernel_rfl)
theorem zas1:fnB ZP 21 Tryz.f21 [2,8]=true:=by kernel_rfl
theorem z4j:CG ZP sg @zaea:=(cgc zaqk (cgc zapo cg0))
theorem zago:zaf ZP sg 0 Tryz.f21 @zkq 2:=zas zxo good Tryz.func21 zas1 z4j zaa (fun a=>by kernel_rfl) (by kernel_rfl) (fun _ _=>rfl)
theorem zagp:zaf ZP sg 0 Tryz.f21 @zkq 8:=zas zxp good Tryz.func21 zas1 z4j zaa (fun a=>by kernel_rfl) (by kernel_rfl) (fun _ _=>rfl)
theorem zapr:SG ZP sg 21 @zavj:=conD (loops:=zkq) good Tryz.func21 zas1 (by kernel_rfl) z4j (all_cons zago (all_cons zagp zaa)) (fun a=>by kernel_rfl)
theorem zas4:fnB ZP 35 Tryz.f35 [2,7]=true:=by kernel_rfl
theorem zao7:CG ZP sg @zaoz:=cg0
theorem z8v:zaf ZP sg 0 Tryz.f35 @zpo 7:=zas z8e good Tryz.func35 zas4 zao7 zaa (fun a=>by kernel_rfl) (by kernel_rfl) (fun _ _=>rfl)
theorem zaub:zaf ZP sg 0 Tryz.f35 @zpo 2:=zas z8d good Tryz.func35 zas4 zao7 (all_cons z8v zaa) (fun a=>by kernel_rfl) (by kernel_rfl) (fun _ _=>rfl)
theorem za0j:SG ZP sg 35 @zant:=conD (loops:=zpo) good Tryz.func35 zas4 (by kernel_rfl) zao7 (all_cons zaub (all_cons z8v zaa)) (fun a=>by kernel_rfl)
theorem zq0:fnB ZP 22 Tryz.f22 [6,11,16,21,26,31,36]=true:=by kernel_rfl
theorem zqh:CG ZP sg @zaoi:=(cgc za0j cg0)
theorem zatr:zaf ZP sg 0 Tryz.f22 @zey 6:=zas z7k good Tryz.func22 zq0 zqh zaa (fun a=>by kernel_rfl) (by kernel_rfl) (fun _ _=>rfl)
theorem zahl:zaf ZP sg 0 Tryz.f22 @zey 11:=zas zyl good Tryz.func22 zq0 zqh zaa (fun a=>by kernel_rfl) (by kernel_rfl) (fun _ _=>rfl)
theorem zahm:zaf ZP sg 0 Tryz.f22 @zey 16:=zas zym good Tryz.func22 zq0 zqh zaa (fun a=>by kernel_rfl) (by kernel_rfl) (fun _ _=>rfl)
theorem zahn:zaf ZP sg 0 Tryz.f22 @zey 21:=zas zyn good Tryz.func22 zq0 zqh zaa (fun a=>by kernel_rfl) (by kernel_rfl) (fun _ _=>rfl)
theorem zaho:zaf ZP sg 0 Tryz.f22 @zey 26:=zas zyo good Tryz.func22 zq0 zqh zaa (fun a=>by kernel_rfl) (by kernel_rfl) (fun _ _=>rfl)
theorem zahp:zaf ZP sg 0 Tryz.f22 @zey 31:=zas zyp good Tryz.func22 zq0 zqh zaa (fun a=>by kernel_rfl) (by kernel_rfl) (fun _ _=>rfl)
theorem zahq:zaf ZP sg 0 Tryz.f22 @zey 36:=zas zyq good Tryz.func22 zq0 zqh zaa (fun a=>by kernel_rfl) (by kernel_rfl) (fun _ _=>rfl)
theorem zaz5:SG ZP sg 22 @za32:=conD (loops:=zey) good Tryz.func22 zq0 (by kernel_rfl) zqh (all_cons zatr (all_cons zahl (all_cons zahm (all_cons zahn (all_cons zaho (all_cons zahp (all_cons zahq zaa))))))) (fun a=>by kernel_rfl)
theorem za4o:SG ZP sg 6 @zawu:=conE good Tryz.func6 (by kernel_rfl) (by kernel_rfl) (cgc z6b (cgc z5x (cgc z4q (cgc z6h (cgc zapr (cgc zaz5 cg0)))))) (fun a=>by kernel_rfl)
theorem fb_7:fnB ZP 7 Tryz.f7 [6,14]=true:=by kernel_rfl
theorem zao9:CG ZP sg @zao2:=(cgc z6b (cgc z5x (cgc ztx (cgc z4q (cgc z5a (cgc z6h (cgc z57 cg0)))))))
theorem zaue:zaf ZP sg 0 Tryz.f7 @zpq 6:=zas z8h good Tryz.func7 fb_7 zao9 zaa (fun a=>by kernel_rfl) (by kernel_rfl) (fun _ _=>rfl)
theorem zahy:zaf ZP sg 0 Tryz.f7 @zpq 14:=zas zyz good Tryz.func7 fb_7 zao9 zaa (fun a=>by kernel_rfl) (by kernel_rfl) (fun _ _=>rfl)
theorem za0m:SG ZP sg 7 @za4a:=conD (loops:=zpq) good Tryz.func7 fb_7 (by kernel_rfl) zao9 (all_cons zaue (all_cons zahy zaa)) (fun a=>by kernel_rfl)
end Go.Proofs.YtpaidiaknfhclaaGreatDoor
namespace Go.Proofs.YtpaidiaknfhclaaGreatDoor
open Ev
open Go (IntKind)
section
variable {α β σ X:Type}
theorem z1a {step:α→Option (α⊕β)}:∀{n m:Nat} {a:α} {b:β},n≤m→zcw step n a=some b→zcw step m a=some b:=by
 intro n
 induction n with
 |zero=>intro m a b _ h;cases h
 |succ n ih=>
  intro m a b hm h
  obtain ⟨m,rfl⟩:∃k,m=k+1:=⟨m-1,by omega⟩
  simp only[zcw]at h ⊢
  cases h1:step a with
  |none=>rw[h1]at h;cases h
  |some x=>
   rw[h1]at h
   cases x with
   |inl a'=>exact ih (by omega) h
   |inr b'=>exact h
theorem zfn {step:α→Option (α⊕β)} {a:α} {b:β} (n:Nat) (hn:n≤FUEL) (h:zcw step n a=some b):zae step a=some b:=z1a hn h
def zfw (f:Nat→X→σ→σ⊕β) (fin:σ→β):Nat→List X→σ→β
 |_,[],s=>fin s
 |i,x::l,s=>match f i x s with
  |.inl s'=>zfw f fin (i+1) l s'
  |.inr b=>b
theorem zc5 {step:α→Option (α⊕β)} (Inv:Nat→σ→Prop) (enc:Nat→σ→α) (l:List X) (f:Nat→X→σ→σ⊕β) (fin:σ→β) (hl:l.length<FUEL)
 (h0:∀s,Inv l.length s→step (enc l.length s)=some (.inr (fin s)))
 (h1:∀i x s,l[i]?=some x→Inv i s→(step (enc i s)=some (match f i x s with | .inl s'=>.inl (enc (i+1) s') | .inr b=>.inr b))∧∀s',f i x s=.inl s'→Inv (i+1) s')
 (s:σ) (hs:Inv 0 s):zae step (enc 0 s)=some (zfw f fin 0 l s):=by
 have key:∀k i s,i+k=l.length→Inv i s→zcw step (k+1) (enc i s)=some (zfw f fin i (l.drop i) s):=by
  intro k
  induction k with
  |zero=>
   intro i s hi hs
   have:i=l.length:=by omega
   subst this
   rw[List.drop_length]
   simp only[zcw,h0 s hs,zfw]
  |succ k ih=>
   intro i s hi hs
   have hlt:i<l.length:=by omega
   obtain ⟨e1,e2⟩:=h1 i l[i] s (List.getElem?_eq_getElem hlt) hs
   rw[List.drop_eq_getElem_cons hlt]
   rw[zcw,e1]
   simp only[zfw]
   cases hf:f i l[i] s with
   |inl s'=>simp only;exact ih (i+1) s' (by omega) (e2 s' hf)
   |inr b=>rfl
 have:=key l.length 0 s (by omega) hs
 exact zfn (l.length+1) (by omega) (by simpa using this)
theorem zdn {step:α→Option (α⊕β)} (enc:Nat→σ→α) (l:List X) (f:Nat→X→σ→σ⊕β) (fin:σ→β) (hl:l.length<FUEL)
 (h0:∀s,step (enc l.length s)=some (.inr (fin s)))
 (h1:∀i x s,l[i]?=some x→step (enc i s)=some (match f i x s with | .inl s'=>.inl (enc (i+1) s') | .inr b=>.inr b))
 (s:σ):zae step (enc 0 s)=some (zfw f fin 0 l s):=
 zc5 (fun _ _=>True) enc l f fin hl (fun s _=>h0 s) (fun i x s hx _=>⟨h1 i x s hx,fun _ _=>trivial⟩) s trivial
def fIdx (p:X→Bool) (l:List X):Int:=match l.findIdx? p with|some i=>(i:Int)|none=>-1
def zbj (f:Nat→X→Int):Nat→List X→Int
 |_,[]=>0
 |i,x::l=>if f i x==0 then zbj f (i+1) l else f i x
theorem zaaf {f:Nat→X→Int} {d:β} {g:Int→β}:∀{l:List X} {i:Nat},zfw (σ:=Unit) (fun i x _=>if f i x==0 then .inl () else .inr (g (f i x))) (fun _=>d) i l ()=if zbj f i l==0 then d else g (zbj f i l):=by
 intro l
 induction l with
 |nil=>intros;rfl
 |cons x l ih=>
  intro i
  simp only[zfw,zbj]
  by_cases h:(f i x==0)=true
  ·simp only[h,if_true];exact ih
  ·have h2:¬f i x=0:=fun e=>h (by simp[e])
   simp[h2]
theorem zfl {f:X→σ→σ} {fin:σ→β}:∀{l:List X} {i:Nat} {s:σ},zfw (fun _ x s=>.inl (f x s)) fin i l s=fin (l.foldl (fun s x=>f x s) s):=by
 intro l
 induction l with
 |nil=>intros;rfl
 |cons x l ih=>intro i s;simp only[zfw,List.foldl_cons];exact ih
end
section
variable {α β σ X:Type} {step:α→Option (α⊕β)}
def zgr (a:α) (g:Int→β) (e:Int):Option (α⊕β):=if e==0 then some (.inl a) else some (.inr (g e))
theorem zbp (a:α) (g:Int→β) (b:Bool) (x y:Int):zgr a g (bif b then x else y)=bif b then zgr a g x else zgr a g y:=by cases b<;>rfl
theorem zcg (enc:Nat→α) (l:List X) (f:Nat→X→Int) (d:β) (g:Int→β) (hl:l.length<1000000000) (h0:step (enc l.length)=some (.inr d))
 (h1:∀i x,l[i]?=some x→step (enc i)=zgr (enc (i+1)) g (f i x)):zae step (enc 0)=some (if zbj f 0 l==0 then d else g (zbj f 0 l)):=by
 have h:=zdn (step:=step) (fun i (_:Unit)=>enc i) l (fun i x _=>if f i x==0 then .inl () else .inr (g (f i x))) (fun _=>d) (by show l.length<18446744073709551616;omega) (fun _=>h0)
  (fun i x _ hx=>by rw[h1 i x hx];unfold zgr;split<;>rfl) ()
 rw[h,zaaf]
def zer (p:X→Bool) (g:Nat→X→β) (d:β):Nat→List X→β
 |_,[]=>d
 |i,x::l=>bif p x then g i x else zer p g d (i+1) l
theorem zbh (enc:Nat→α) (l:List X) (p:X→Bool) (g:Nat→X→β) (d:β) (hl:l.length<1000000000) (h0:step (enc l.length)=some (.inr d))
 (h1:∀i x,l[i]?=some x→step (enc i)=bif p x then some (.inr (g i x)) else some (.inl (enc (i+1)))):zae step (enc 0)=some (zer p g d 0 l):=by
 have h:=zdn (step:=step) (fun i (_:Unit)=>enc i) l (fun i x _=>if p x then .inr (g i x) else .inl ()) (fun _=>d) (by show l.length<18446744073709551616;omega) (fun _=>h0)
  (fun i x _ hx=>by rw[h1 i x hx];cases p x<;>rfl) ()
 rw[h]
 have key:∀(l:List X) (i:Nat),zfw (σ:=Unit) (fun i x _=>if p x then .inr (g i x) else .inl ()) (fun _=>d) i l ()=zer p g d i l:=by
  intro l
  induction l with
  |nil=>intro i;rfl
  |cons x l ih=>
   intro i
   simp only[zfw,zer]
   cases p x with
   |true=>rfl
   |false=>exact ih _
 rw[key]
theorem zm3 {p:X→Bool} {g:X→β} {d:β}:∀{l:List X} {i:Nat},zer p (fun _ x=>g x) d i l=(match l.find? p with|some x=>g x|none=>d):=by
 intro l
 induction l with
 |nil=>intros;rfl
 |cons x l ih=>intro i;simp only[zer,List.find?_cons];cases p x with|true=>rfl|false=>exact ih
theorem z6v {p:X→Bool}:∀{l:List X} {i:Nat},zer p (fun i _=>(i:Int)) (-1) i l=(match l.findIdx? p with|some k=>((i+k:Nat):Int)|none=>-1):=by
 intro l
 induction l with
 |nil=>intros;rfl
 |cons x l ih=>
  intro i
  simp only[zer,List.findIdx?_cons]
  cases p x with
  |true=>rfl
  |false=>
   simp only[Bool.false_eq_true,if_false,cond_false]
   rw[ih]
   cases l.findIdx? p with
   |none=>rfl
   |some k=>simp only[Option.map_some];rw[show i+1+k=i+(k+1) by omega]
theorem zcr {p:X→Bool} {l:List X}:zer p (fun i _=>(i:Int)) (-1) 0 l=fIdx p l:=by
 rw[z6v];unfold fIdx;simp
theorem zb3 {γ:Type} {p:X→Bool} {g:Nat→X→β} {d:β} (f:β→γ):∀{l:List X} {i:Nat},f (zer p g d i l)=zer p (fun i x=>f (g i x)) (f d) i l:=by
 intro l
 induction l with
 |nil=>intros;rfl
 |cons x l ih=>intro i;simp only[zer];cases p x with|true=>rfl|false=>exact ih
def zch (p:Nat→X→Bool):Nat→List X→Bool
 |_,[]=>true
 |i,x::l=>p i x&&zch p (i+1) l
theorem zat (enc:Nat→α) (l:List X) (p:Nat→X→Bool) (b d:β) (hl:l.length<1000000000) (h0:step (enc l.length)=some (.inr d))
 (h1:∀i x,l[i]?=some x→step (enc i)=bif p i x then some (.inl (enc (i+1))) else some (.inr b)):zae step (enc 0)=some (bif zch p 0 l then d else b):=by
 have h:=zdn (step:=step) (fun i (_:Unit)=>enc i) l (fun i x _=>if p i x then .inl () else .inr b) (fun _=>d) (by show l.length<18446744073709551616;omega) (fun _=>h0)
  (fun i x _ hx=>by rw[h1 i x hx];cases p i x<;>rfl) ()
 rw[h]
 have key:∀(l:List X) (i:Nat),zfw (σ:=Unit) (fun i x _=>if p i x then .inl () else .inr b) (fun _=>d) i l ()=bif zch p i l then d else b:=by
  intro l
  induction l with
  |nil=>intro i;rfl
  |cons x l ih=>
   intro i
   simp only[zfw,zch]
   cases p i x with
   |true=>exact ih _
   |false=>rfl
 rw[key]
theorem zay {p:X→Bool}:∀{l:List X} {i:Nat},zch (fun _=>p) i l=l.all p:=by
 intro l
 induction l with
 |nil=>intros;rfl
 |cons x l ih=>intro i;simp only[zch,List.all_cons];rw[ih]
theorem zjl {p:Nat→X→Bool}:∀{l:List X} {i:Nat},zch p i l=true↔∀k x,l[k]?=some x→p (i+k) x=true:=by
 intro l
 induction l with
 |nil=>intro i;simp[zch]
 |cons y l ih=>
  intro i
  simp only[zch,Bool.and_eq_true]
  rw[ih]
  constructor
  ·rintro ⟨h0,h⟩ k x hk
   cases k with
   |zero=>simp at hk;subst hk;exact h0
   |succ k=>have:=h k x (by simpa using hk);rwa [show i+(k+1)=i+1+k by omega]
  ·intro h
   exact ⟨h 0 y rfl,fun k x hk=>by have:=h (k+1) x (by simpa using hk);rwa [show i+(k+1)=i+1+k by omega]at this⟩
theorem zg3 (enc:Nat→σ→α) (l:List X) (f:X→σ→σ) (fin:σ→β) (hl:l.length<1000000000) (h0:∀s,step (enc l.length s)=some (.inr (fin s)))
 (h1:∀i x s,l[i]?=some x→step (enc i s)=some (.inl (enc (i+1) (f x s)))) (s:σ):zae step (enc 0 s)=some (fin (l.foldl (fun s x=>f x s) s)):=by
 have h:=zdn (step:=step) enc l (fun i x s=>.inl (f x s)) fin (by show l.length<18446744073709551616;omega) h0 (fun i x s hx=>by rw[h1 i x s hx]) s
 rw[h,zfl]
end
def zbb {X:Type} (l:List X) (i:Nat) (f:X→Bool):Bool:=match i with
 |0=>false
 |j+1=>match l[j]? with|some y=>f y|none=>false
theorem zeo {n:Int} (h1 : -9223372036854775808≤n) (h2:n≤9223372036854775807):wr .i64 n=n:=by
 unfold wr;rw[IntKind.wrap_i64];omega
theorem zam {n:Nat} (h:n<9223372036854775807):wr .i64 ((n:Int)+1)=((n+1:Nat):Int):=by
 rw[zeo (by omega) (by omega)];rfl
theorem zep {j:Nat} (h:j<1000000000):wr .i64 (((j+1:Nat):Int)-1)=(j:Int):=by
 rw[show ((j+1:Nat):Int)-1=(j:Int) by omega]
 exact zeo (by omega) (by omega)
theorem dpos {j:Nat}:decide ((0:Int)<((j+1:Nat):Int))=true:=by rw[decide_eq_true_eq];omega
theorem zme:decide ((0:Int)<((0:Nat):Int))=false:=rfl
theorem zaj {α:Type} (l:List α) (i:Nat):getI l (i:Int)=l[i]?:=by
 unfold getI;simp
theorem zjj:LIM=1073741824:=rfl
theorem zhy:FUEL=18446744073709551616:=rfl
end Go.Proofs.YtpaidiaknfhclaaGreatDoor
namespace Go.Proofs.YtpaidiaknfhclaaGreatDoor
open Ev
open Go (IntKind)
theorem dlt {i n:Nat} (h:i<n):decide ((i:Int)<(n:Int))=true:=by simpa using h
theorem dge {n:Nat}:decide ((n:Int)<(n:Int))=false:=by simp
theorem k_or {α:Type} (k:Bool→α) (a b:Bool):(bif a then k true else k b)=k (a||b):=by cases a<;>rfl
theorem zaz {α:Type} (k:Bool→α) (a b:Bool):(bif a then k b else k false)=k (a&&b):=by cases a<;>rfl
theorem zkg {α:Type} (k:Bool→α) (a b:Bool):(bif a then k a else k b)=k (a||b):=by cases a<;>rfl
theorem zct {α:Type} (c:Bool) (a b:α):(bif c then some a else some b)=some (bif c then a else b):=by cases c<;>rfl
theorem zax5 (b:UInt8):wr .i64 (b.toNat:Int)=(b.toNat:Int):=by
 have:=b.toNat_lt
 exact zeo (by omega) (by omega)
def dcdI (r:List UInt8):Int×Int:=(((dcd r).1:Int),((dcd r).2:Int))
theorem z9r {s:List UInt8} {i:Nat} (hi:i<s.length) (hs:s.length<1000000000):qbs s (i:Int)=some (dcdI (s.drop i)):=by
 obtain ⟨a,r,hr⟩:∃a r,s.drop i=a::r:=⟨s[i],s.drop (i+1),List.drop_eq_getElem_cons hi⟩
 have g:∀k,getI s ((i+k:Nat):Int)=(a::r)[k]?:=fun k=>by rw[zaj,←hr,List.getElem?_drop]
 have h0:getI s (i:Int)=some a:=g 0
 have w1:wr .i64 ((i:Int)+1)=((i+1:Nat):Int):=zam (by omega)
 have w2:wr .i64 ((i:Int)+2)=((i+2:Nat):Int):=by rw[zeo (by omega) (by omega)];rfl
 have hl:s.length=i+(r.length+1):=by
  have:=congrArg List.length hr
  simp only[List.length_drop,List.length_cons]at this
  omega
 have ha:=a.toNat_lt
 unfold qbs
 rw[hr]
 unfold dcdI dcd
 have t1:decide (((i+1:Nat):Int)<((i+(r.length+1):Nat):Int))=decide (0<r.length):=by congr 1;simp only[eq_iff_iff];omega
 have t2:decide (((i+2:Nat):Int)<((i+(r.length+1):Nat):Int))=decide (1<r.length):=by congr 1;simp only[eq_iff_iff];omega
 simp -zeta only[h0,w1,w2,g 1,g 2,zax5,k_or,zaz,hl,t1,t2]
 dsimp only
 clear hl t1 t2 g hr hi h0 w1 w2 hs
 by_cases c1:32≤a.toNat∧a.toNat<127
 ·have e1:(decide ((32:Int)≤(a.toNat:Int))&&decide ((a.toNat:Int)<127))=true:=by simp;omega
  simp only[e1,cond_true,if_pos c1];rfl
 have e1:(decide ((32:Int)≤(a.toNat:Int))&&decide ((a.toNat:Int)<127))=false:=by simp;omega
 simp only[e1,cond_false,if_neg c1]
 by_cases c2:194≤a.toNat∧a.toNat<224
 ·have e2:(decide ((194:Int)≤(a.toNat:Int))&&decide ((a.toNat:Int)<224))=true:=by simp;omega
  have e3:decide ((224:Int)≤(a.toNat:Int))=false:=by simp;omega
  simp only[e2,e3,Bool.true_and,Bool.false_and,cond_false,if_pos c2]
  rcases r with _|⟨b,r⟩
  ·rfl
  have hb:=b.toNat_lt
  have l1:decide (0<(b::r).length)=true:=by simp
  have g1:(a::b::r)[1]?=some b:=rfl
  have e4:wr .i64 ((wr .i64 ((wr .i64 ((wr .i64 ((a.toNat:Int)-192))*64))+(b.toNat:Int)))-128)=((a.toNat:Int)-192)*64+(b.toNat:Int)-128:=by
   rw[zeo (n:=(a.toNat:Int)-192) (by omega) (by omega),zeo (n:=((a.toNat:Int)-192)*64) (by omega) (by omega),zeo (n:=((a.toNat:Int)-192)*64+(b.toNat:Int)) (by omega) (by omega),zeo (by omega) (by omega)]
  simp only[l1,g1,e4,cond_true]
  by_cases cb:128≤b.toNat
  ·have b1:decide ((128:Int)≤(b.toNat:Int))=true:=by simp;omega
   simp only[b1,cond_true]
   by_cases cb2:b.toNat<192
   ·have b2:decide ((b.toNat:Int)<192)=true:=by simp;omega
    simp only[b2,g1,cond_true,Bool.cond_eq_ite,decide_eq_true_eq]
    rw[if_pos True.intro]
    split
    ·rw[if_pos (by omega)];simp only[Option.some.injEq,Prod.mk.injEq];omega
    ·rw[if_neg (by omega)];rfl
   ·have b2:decide ((b.toNat:Int)<192)=false:=by simp;omega
    simp only[b2,cond_false]
    rw[if_neg (by omega)];rfl
  ·have b1:decide ((128:Int)≤(b.toNat:Int))=false:=by simp;omega
   simp only[b1,cond_false]
   rw[if_neg (by omega)];rfl
 have e2:(decide ((194:Int)≤(a.toNat:Int))&&decide ((a.toNat:Int)<224))=false:=by simp;omega
 simp only[e2,Bool.false_and,cond_false,if_neg c2]
 by_cases c3:224≤a.toNat∧a.toNat<240
 ·have e3:(decide ((224:Int)≤(a.toNat:Int))&&decide ((a.toNat:Int)<240))=true:=by simp;omega
  simp only[e3,Bool.true_and,if_pos c3]
  rcases r with _|⟨b,_|⟨c,r⟩⟩
  ·rfl
  ·rfl
  have hb:=b.toNat_lt
  have hc:=c.toNat_lt
  have l1:decide (1<(b::c::r).length)=true:=by simp
  have g1:(a::b::c::r)[1]?=some b:=rfl
  have g2:(a::b::c::r)[2]?=some c:=rfl
  have e4:wr .i64 ((wr .i64 ((wr .i64 ((wr .i64 ((wr .i64 ((a.toNat:Int)-224))*4096))+(wr .i64 ((wr .i64 ((b.toNat:Int)-128))*64))))+(c.toNat:Int)))-128)=((a.toNat:Int)-224)*4096+((b.toNat:Int)-128)*64+(c.toNat:Int)-128:=by
   rw[zeo (n:=(a.toNat:Int)-224) (by omega) (by omega),zeo (n:=((a.toNat:Int)-224)*4096) (by omega) (by omega),zeo (n:=(b.toNat:Int)-128) (by omega) (by omega),zeo (n:=((b.toNat:Int)-128)*64) (by omega) (by omega),
    zeo (n:=((a.toNat:Int)-224)*4096+((b.toNat:Int)-128)*64) (by omega) (by omega),zeo (n:=((a.toNat:Int)-224)*4096+((b.toNat:Int)-128)*64+(c.toNat:Int)) (by omega) (by omega),zeo (by omega) (by omega)]
  simp only[l1,g1,g2,e4,cond_true]
  by_cases cb:128≤b.toNat
  ·have b1:decide ((128:Int)≤(b.toNat:Int))=true:=by simp;omega
   simp only[b1,cond_true]
   by_cases cb2:b.toNat<192
   ·have b2:decide ((b.toNat:Int)<192)=true:=by simp;omega
    simp only[b2,cond_true]
    by_cases cc:128≤c.toNat
    ·have d1:decide ((128:Int)≤(c.toNat:Int))=true:=by simp;omega
     simp only[d1,cond_true]
     by_cases cc2:c.toNat<192
     ·have d2:decide ((c.toNat:Int)<192)=true:=by simp;omega
      simp only[d2,g1,g2,cond_true,Bool.cond_eq_ite,Bool.and_eq_true,Bool.or_eq_true,decide_eq_true_eq]
      rw[if_pos True.intro]
      split
      ·rw[if_pos (by omega)];simp only[Option.some.injEq,Prod.mk.injEq];omega
      ·rw[if_neg (by omega)];rfl
     ·have d2:decide ((c.toNat:Int)<192)=false:=by simp;omega
      simp only[d2,cond_false]
      rw[if_neg (by omega)];rfl
    ·have d1:decide ((128:Int)≤(c.toNat:Int))=false:=by simp;omega
     simp only[d1,cond_false]
     rw[if_neg (by omega)];rfl
   ·have b2:decide ((b.toNat:Int)<192)=false:=by simp;omega
    simp only[b2,cond_false]
    rw[if_neg (by omega)];rfl
  ·have b1:decide ((128:Int)≤(b.toNat:Int))=false:=by simp;omega
   simp only[b1,cond_false]
   rw[if_neg (by omega)];rfl
 ·have e3:(decide ((224:Int)≤(a.toNat:Int))&&decide ((a.toNat:Int)<240))=false:=by simp;omega
  simp only[e3,Bool.false_and,cond_false,if_neg c3];rfl
theorem zakp (l:List UInt8):(dcd l).2≤l.length:=by
 unfold dcd
 split
 ·simp
 ·rename_i a r
  split
  ·simp
  ·split
   ·split
    ·split<;>simp
    ·simp
   ·split
    ·split
     ·split<;>simp
     ·simp
    ·simp
theorem zada (n:Nat) {s:List UInt8} {i:Nat} (hi:i<s.length):vldN (n+1) (s.drop i)=if (dcd (s.drop i)).2=0 then false else vldN n (s.drop (i+(dcd (s.drop i)).2)):=by
 have:s.drop i≠[]:=by simp;omega
 simp only[vldN,this,if_false,List.drop_drop]
theorem zalp {s:List UInt8} (hs:s.length<1000000000):qal s=some (vld s):=by
 have key:∀n i,s.length-i≤n→i≤s.length→zcw znv (n+1) (s,(i:Int),())=some (if vldN n (s.drop i) then .inl () else .inr (false,())):=by
  intro n
  induction n with
  |zero=>
   intro i h1 h2
   have:i=s.length:=by omega
   subst this
   simp only[zcw,znv,dge,cond_false,vldN,if_true]
  |succ n ih=>
   intro i h1 h2
   rw[zcw]
   by_cases hi:i<s.length
   ·rw[zada n hi]
    have hle:=zakp (s.drop i)
    rw[List.length_drop]at hle
    simp only[znv,dlt hi,cond_true,z9r hi hs,dcdI]
    by_cases h0:(dcd (s.drop i)).2=0
    ·simp[h0]
    ·have hb:(((dcd (s.drop i)).2:Int)==0)=false:=by simp;omega
     have hw:wr .i64 ((i:Int)+((dcd (s.drop i)).2:Int))=((i+(dcd (s.drop i)).2:Nat):Int):=by rw[zeo (by omega) (by omega)];rfl
     simp only[hb,cond_false,hw,h0,if_false]
     exact ih _ (by omega) (by omega)
   ·have:i=s.length:=by omega
    subst this
    simp[znv,vldN]
 unfold qal
 have:=key s.length 0 (by omega) (by omega)
 rw[show ((0:Int))=((0:Nat):Int) from rfl,zfn (s.length+1) (by rw[zhy];omega) this]
 simp only[List.drop_zero]
 unfold vld
 cases vldN s.length s<;>rfl
theorem za4s {s:List UInt8} {i:Nat} (hi:i<s.length) (hs:s.length<1000000000):qf s (i:Int)=some ((wid (s.drop i):Nat):Int):=by
 unfold qf wid
 rw[z9r hi hs]
 show some (if (((dcd (s.drop i)).2:Nat):Int)<1 then (1:Int) else (((dcd (s.drop i)).2:Nat):Int))=_
 rw[Option.some.injEq]
 by_cases h:(dcd (s.drop i)).2<1
 ·rw[if_pos h,if_pos (by omega)];rfl
 ·rw[if_neg h,if_neg (by omega)]
theorem za4e {l:List UInt8} (h:l≠[]):1≤wid l∧wid l≤l.length:=by
 have:=zakp l
 have:0<l.length:=List.length_pos_iff.2 h
 unfold wid
 split<;>omega
theorem z4m (n:Nat) {s:List UInt8} {i:Nat} (hi:i<s.length) {out:List UInt8} {gap:Bool}:clnN (n+1) (s.drop i) out gap =
 if blk (dcd (s.drop i)).1 then clnN n (s.drop (i+wid (s.drop i))) out true else clnN n (s.drop (i+wid (s.drop i))) ((if gap&&!(out==[]) then out++[32] else out)++(s.drop i).take (wid (s.drop i))) false:=by
 have:s.drop i≠[]:=by simp;omega
 rw[clnN,if_neg this,List.drop_drop]
theorem za15 {s:List UInt8} (hs:s.length<100000000):qa2 s=some (cln s):=by
 have key:∀n i (out:List UInt8) (gap:Bool),s.length-i≤n→i≤s.length→out.length≤2*i→zcw znp (n+1) (s,out,gap,(i:Int),())=some (clnN n (s.drop i) out gap,()):=by
  intro n
  induction n with
  |zero=>
   intro i out gap h1 h2 h3
   have:i=s.length:=by omega
   subst this
   simp only[zcw,znp,dge,cond_false,clnN]
  |succ n ih=>
   intro i out gap h1 h2 h3
   rw[zcw]
   by_cases hi:i<s.length
   ·rw[z4m n hi]
    have hw0:=za4e (l:=s.drop i) (by simp;omega)
    rw[List.length_drop]at hw0
    obtain ⟨k,hk⟩:∃k,wid (s.drop i)=k:=⟨_,rfl⟩
    rw[hk]at hw0 ⊢
    have hw:wr .i64 ((i:Int)+(k:Int))=((i+k:Nat):Int):=by rw[zeo (by omega) (by omega)];rfl
    have hb:qan ((dcd (s.drop i)).1:Int)=some (blk (dcd (s.drop i)).1):=by
     unfold qan
     simp -zeta only[k_or]
     simp only[Option.some.injEq,blk]
     rw[Bool.eq_iff_iff];simp;omega
    simp only[znp,dlt hi,cond_true,z9r hi (show s.length<1000000000 by omega),za4s hi (show s.length<1000000000 by omega),dcdI,hb,hk,hw]
    cases blk (dcd (s.drop i)).1 with
    |true=>simp only[cond_true,if_true];exact ih _ _ _ (by omega) (by omega) (by omega)
    |false=>
     have hc:(decide ((0:Int)≤(i:Int))&&(decide ((i:Int)≤((i+k:Nat):Int))&&decide (((i+k:Nat):Int)≤(s.length:Int))))=true:=by simp;omega
     have ht:(s.take (i+k)).drop i=(s.drop i).take k:=by rw[List.drop_take];congr 1;omega
     simp only[cond_false,hc,cond_true,Int.toNat_natCast,ht,Bool.false_eq_true,if_false]
     have hlen:∀o:List UInt8,o.length≤2*i+1→decide (o.length+((s.drop i).take k).length≤LIM)=true:=fun o ho=>by
      rw[zjj];simp only[List.length_take,List.length_drop,decide_eq_true_eq];omega
     cases hg:(gap&&!(out==[])) with
     |true=>
      simp only[Bool.and_eq_true,Bool.not_eq_true']at hg
      have h32:decide (out.length+([32]:List Nat).length≤LIM)=true:=by rw[zjj];simp;omega
      simp only[hg.1,hg.2,hc,ht,Int.toNat_natCast,cond_true,Bool.not_false,h32,hlen (out++[32]) (by simp;omega),if_true]
      exact ih _ _ _ (by omega) (by omega) (by simp;omega)
     |false=>
      cases gap with
      |false=>
       simp only[cond_false,hlen out (by omega),cond_true,Bool.false_eq_true,if_false]
       exact ih _ _ _ (by omega) (by omega) (by simp;omega)
      |true=>
       simp only[Bool.true_and]at hg
       simp only[cond_true,hg,cond_false,hlen out (by omega),Bool.false_eq_true,if_false]
       exact ih _ _ _ (by omega) (by omega) (by simp;omega)
   ·have:i=s.length:=by omega
    subst this
    simp[znp,clnN]
 unfold qa2
 have:=key s.length 0 [] false (by omega) (by omega) (by simp)
 rw[show ((0:Int))=((0:Nat):Int) from rfl,zfn (s.length+1) (by rw[zhy];omega) this]
 try rfl
end Go.Proofs.YtpaidiaknfhclaaGreatDoor
namespace Go.Proofs.YtpaidiaknfhclaaGreatDoor
open Ev
open Go (IntKind)
def rng (lo hi n:Int):Bool:=decide (lo≤n)&&decide (n≤hi)
theorem zamt (n:Int):qfb n=some (rng 0 109572 n):=by
 unfold qfb
 simp -zeta only[k_or,zaz]
 try rfl
theorem za27 (n:Int):qez n=some (rng 0 109572 n):=by
 unfold qez
 simp -zeta only[k_or,zaz]
 try rfl
theorem za25 (n:Int):qeg n=some (rng 1 9999 n):=by
 unfold qeg
 simp -zeta only[k_or,zaz]
 try rfl
theorem za2q (n lo hi:Int):qbl n lo hi=some (rng lo hi n):=by
 unfold qbl
 simp -zeta only[k_or,zaz]
 try rfl
def zcm (l:List Charge) (i:Nat) (x:Charge):Int:=
 bif zbb l i (fun y=>decide (x.ID≤y.ID)) then 7
 else bif decide (x.ID<1)||decide (99999<x.ID)||decide (x.Patron<1)||decide (9999<x.Patron)||decide (x.Item<1)||decide (9999<x.Item)||!(rng 0 109572 x.Day) then 2
 else bif decide (x.Kind<1)||decide (3<x.Kind) then 1
 else bif decide (x.Amount<1)||decide (100000000<x.Amount)||decide (x.Paid<0)||decide (x.Amount≤x.Paid) then 2 else 0
def zcd (l:List Charge):Int:=bif decide (128<(l.length:Int)) then 13 else zbj (zcm l) 0 l
theorem z10 {l:List Charge} (hl:l.length<1000000000):zae zk8 (l,0,())=some (if zbj (zcm l) 0 l==0 then .inl () else .inr (zbj (zcm l) 0 l,())):=by
 have h:=zcg (step:=zk8) (fun i=>(l,(i:Int),())) l (zcm l) (.inl ()) (fun e=>.inr (e,())) hl
  (by simp only[zk8,dge,cond_false])
  (fun i x hx=>by
   have hi:=(List.getElem?_eq_some_iff.1 hx).1
   have hxm:=List.mem_of_getElem? hx
   unfold zcm
   simp only[zbp]
   rcases i with _|j
   ·simp -zeta only[zk8,dlt hi,zaj,hx,k_or,zaz,zme,cond_false,cond_true,zbb,zam (show 0<9223372036854775807 by omega),zamt]
    try rfl
   ·have hj:l[j]?=some l[j]:=List.getElem?_eq_getElem (by omega)
    simp -zeta only[zk8,dlt hi,zaj,hx,k_or,zaz,dpos,zep (show j<1000000000 by omega),hj,cond_false,cond_true,zbb,zam (show j+1<9223372036854775807 by omega),zamt]
    rfl)
 exact h
theorem za14 {l:List Charge} (hl:l.length<1000000000):qa1 l=some (zcd l):=by
 unfold qa1 zcd
 rw[z10 hl]
 generalize zbj (zcm l) 0 l=e
 cases decide (128<(l.length:Int)) with
 |true=>rfl
 |false=>
  by_cases h:e=0
  ·subst h;rfl
  ·have h2:(e==0)=false:=by simpa using h
   simp only[h2,Bool.false_eq_true,if_false,cond_false]
def zcb (l:List Patron) (i:Nat) (x:Patron):Int:=
 bif decide (x.ID<1)||decide (9999<x.ID) then 2
 else bif zbb l i (fun y=>decide (x.ID≤y.ID)) then 7
 else bif decide (x.Kind<1)||decide (9<x.Kind)||decide (x.Branch<1)||decide (4<x.Branch) then 1
 else bif decide (x.Until<0)||decide (109572<x.Until) then 2
 else bif x.Name==[]||!(vld x.Name)||!(cln x.Name==x.Name) then 3
 else bif decide (200<(x.Name.length:Int)) then 4 else 0
def zce (l:List Patron):Int:=bif decide (32<(l.length:Int)) then 13 else zbj (zcb l) 0 l
theorem z19 {l:List Patron} (hl:l.length<1000000000) (hn:∀x∈l,x.Name.length<10000000):zae zlg (l,0,())=some (if zbj (zcb l) 0 l==0 then .inl () else .inr (zbj (zcb l) 0 l,())):=by
 have h:=zcg (step:=zlg) (fun i=>(l,(i:Int),())) l (zcb l) (.inl ()) (fun e=>.inr (e,())) hl
  (by simp only[zlg,dge,cond_false])
  (fun i x hx=>by
   have hi:=(List.getElem?_eq_some_iff.1 hx).1
   have hxm:=List.mem_of_getElem? hx
   have hv:=zalp (s:=x.Name) (by have:=hn x hxm;omega)
   have hc:=za15 (s:=x.Name) (by have:=hn x hxm;omega)
   unfold zcb
   simp only[zbp]
   rcases i with _|j
   ·simp -zeta only[zlg,dlt hi,zaj,hx,k_or,zaz,zme,cond_false,cond_true,zbb,zam (show 0<9223372036854775807 by omega),hv,hc]
    try rfl
   ·have hj:l[j]?=some l[j]:=List.getElem?_eq_getElem (by omega)
    simp -zeta only[zlg,dlt hi,zaj,hx,k_or,zaz,dpos,zep (show j<1000000000 by omega),hj,cond_false,cond_true,zbb,zam (show j+1<9223372036854775807 by omega),hv,hc]
    rfl)
 exact h
theorem za2h {l:List Patron} (hl:l.length<1000000000) (hn:∀x∈l,x.Name.length<10000000):qas l=some (zce l):=by
 unfold qas zce
 rw[z19 hl hn]
 generalize zbj (zcb l) 0 l=e
 cases decide (32<(l.length:Int)) with
 |true=>rfl
 |false=>
  by_cases h:e=0
  ·subst h;rfl
  ·have h2:(e==0)=false:=by simpa using h
   simp only[h2,Bool.false_eq_true,if_false,cond_false]
def zd1 (l:List Loan) (i:Nat) (x:Loan):Int:=
 bif zbb l i (fun y=>decide (x.Item≤y.Item)) then 7
 else bif decide (x.Item<1)||decide (9999<x.Item)||decide (x.Patron<1)||decide (9999<x.Patron)||decide (x.Out<0)||decide (109572<x.Out)||decide (x.Due<0)||decide (109572<x.Due)||decide (x.Due<x.Out)||decide (x.Renewals<0)||decide (10<x.Renewals) then 2 else 0
def zcl (l:List Loan):Int:=bif decide (64<(l.length:Int)) then 13 else zbj (zd1 l) 0 l
theorem z18 {l:List Loan} (hl:l.length<1000000000):zae zlf (l,0,())=some (if zbj (zd1 l) 0 l==0 then .inl () else .inr (zbj (zd1 l) 0 l,())):=by
 have h:=zcg (step:=zlf) (fun i=>(l,(i:Int),())) l (zd1 l) (.inl ()) (fun e=>.inr (e,())) hl
  (by simp only[zlf,dge,cond_false])
  (fun i x hx=>by
   have hi:=(List.getElem?_eq_some_iff.1 hx).1
   have hxm:=List.mem_of_getElem? hx
   unfold zd1
   simp only[zbp]
   rcases i with _|j
   ·simp -zeta only[zlf,dlt hi,zaj,hx,k_or,zaz,zme,cond_false,cond_true,zbb,zam (show 0<9223372036854775807 by omega)]
    try rfl
   ·have hj:l[j]?=some l[j]:=List.getElem?_eq_getElem (by omega)
    simp -zeta only[zlf,dlt hi,zaj,hx,k_or,zaz,dpos,zep (show j<1000000000 by omega),hj,cond_false,cond_true,zbb,zam (show j+1<9223372036854775807 by omega)]
    rfl)
 exact h
theorem za2g {l:List Loan} (hl:l.length<1000000000):qar l=some (zcl l):=by
 unfold qar zcl
 rw[z18 hl]
 generalize zbj (zd1 l) 0 l=e
 cases decide (64<(l.length:Int)) with
 |true=>rfl
 |false=>
  by_cases h:e=0
  ·subst h;rfl
  ·have h2:(e==0)=false:=by simpa using h
   simp only[h2,Bool.false_eq_true,if_false,cond_false]
def za6 (h:Hold):Int:=
 bif decide (h.ID<1)||decide (99999<h.ID)||!(rng 1 9999 h.Patron)||!(rng 1 9999 h.Record)||!(h.Item==0)&&!(rng 1 9999 h.Item)||decide (h.Pickup<1)||decide (4<h.Pickup)||!(rng 0 109572 h.Placed)||!(h.Got==0)&&!(rng 1 9999 h.Got)||!(rng 0 109572 h.Until)||!(rng 0 109572 h.Asleep)||decide (h.Rank<0)||decide (9<h.Rank) then 2
 else bif decide (h.State<1)||decide (3<h.State) then 1
 else bif !((decide (0<h.Got))==(!(h.State==1)))||!((decide (0<h.Until))==(h.State==3)) then 12 else 0
theorem zamm (h:Hold):qds h=some (za6 h):=by
 unfold qds za6
 simp -zeta only[k_or,zaz,za25,za27,←zct]
 try rfl
def zcj (l:List Hold) (i:Nat) (x:Hold):Int:=
 bif zbb l i (fun y=>decide (x.ID≤y.ID)) then 7 else bif !(za6 x==0) then za6 x else 0
theorem z90 {l:List Hold} (hl:l.length<1000000000):zae zvf (l,0,())=some (if zbj (zcj l) 0 l==0 then .inl (l,()) else .inr (zbj (zcj l) 0 l,())):=by
 have h:=zcg (step:=zvf) (fun i=>(l,(i:Int),())) l (zcj l) (.inl (l,())) (fun e=>.inr (e,())) hl
  (by simp only[zvf,dge,cond_false])
  (fun i x hx=>by
   have hi:=(List.getElem?_eq_some_iff.1 hx).1
   have hxm:=List.mem_of_getElem? hx
   have hs:∀(a:List Hold×Int×Unit) (g:Int→((List Hold×Unit)⊕(Int×Unit))),(bif !(za6 x==0) then zgr a g (za6 x) else zgr a g 0)=bif !(za6 x==0) then some (.inr (g (za6 x))) else some (.inl a):=fun a g=>by
    unfold zgr
    cases za6 x==0<;>rfl
   unfold zcj
   simp only[zbp,hs]
   rcases i with _|j
   ·simp -zeta only[zvf,dlt hi,zaj,hx,k_or,zaz,zme,cond_false,cond_true,zbb,zam (show 0<9223372036854775807 by omega),zamm]
    try rfl
   ·have hj:l[j]?=some l[j]:=List.getElem?_eq_getElem (by omega)
    simp -zeta only[zvf,dlt hi,zaj,hx,k_or,zaz,dpos,zep (show j<1000000000 by omega),hj,cond_false,cond_true,zbb,zam (show j+1<9223372036854775807 by omega),zamm]
    rfl)
 exact h
def zcv (x y:Hold):Bool:=x.Patron==y.Patron&&x.Record==y.Record||decide (0<x.Got)&&x.Got==y.Got
theorem z2h {l:List Hold} {i:Nat} {x:Hold} (hl:l.length<1000000000) (hx:l[i]?=some x):zae zlm (l,(i:Int),0,())=some (bif (l.take i).all (fun y=>!(zcv x y)) then .inl (l,(i:Int),()) else .inr (7,())):=by
 have hi:=(List.getElem?_eq_some_iff.1 hx).1
 have h:=zat (step:=zlm) (fun k=>(l,(i:Int),(k:Int),())) (l.take i) (fun _ y=>!(zcv x y)) (.inr (7,())) (.inl (l,(i:Int),())) (by rw[List.length_take];omega)
  (by rw[List.length_take,Nat.min_eq_left (by omega)];simp only[zlm,dge,cond_false])
  (fun k y hy=>by
   have hk:=(List.getElem?_eq_some_iff.1 hy).1
   rw[List.length_take]at hk
   have hy2:l[k]?=some y:=by rw[←hy,List.getElem?_take_of_lt (by omega)]
   simp -zeta only[zlm,dlt (show k<i by omega),zaj,hx,hy2,k_or,zaz,cond_true,zam (show k<9223372036854775807 by omega)]
   dsimp only
   unfold zcv
   cases (x.Patron==y.Patron&&x.Record==y.Record||decide (0<x.Got)&&x.Got==y.Got)<;>rfl)
 rw[show zae zlm (l,(i:Int),0,())=_ from h,zay]
def zff (l:List Hold):Bool:=zch (fun i x=>(l.take i).all (fun y=>!(zcv x y))) 0 l
theorem z2g {l:List Hold} (hl:l.length<1000000000):zae zn6 (l,0,())=some (bif zff l then .inl () else .inr (7,())):=by
 have h:=zat (step:=zn6) (fun i=>(l,(i:Int),())) l (fun i x=>(l.take i).all (fun y=>!(zcv x y))) (.inr (7,())) (.inl ()) hl
  (by simp only[zn6,dge,cond_false])
  (fun i x hx=>by
   have hi:=(List.getElem?_eq_some_iff.1 hx).1
   simp only[zn6,dlt hi,cond_true,z2h hl hx]
   cases (l.take i).all (fun y=>!(zcv x y)) with
   |true=>simp only[cond_true,zam (show i<9223372036854775807 by omega)]
   |false=>rfl)
 exact h
def zb7 (l:List Hold):Int:=bif decide (64<(l.length:Int)) then 13 else bif zbj (zcj l) 0 l==0 then (bif zff l then 0 else 7) else zbj (zcj l) 0 l
theorem za4x {l:List Hold} (hl:l.length<1000000000):qn l=some (zb7 l):=by
 unfold qn zb7
 rw[z90 hl]
 cases decide (64<(l.length:Int)) with
 |true=>rfl
 |false=>
  by_cases h:zbj (zcj l) 0 l=0
  ·simp only[h,beq_self_eq_true,if_true,cond_false,cond_true,z2g hl]
   cases zff l<;>rfl
  ·have:(zbj (zcj l) 0 l==0)=false:=by simpa using h
   simp only[this,Bool.false_eq_true,if_false,cond_false]
def zhu (r:Rule):Bool:=rng 0 9 r.Patron&&rng 0 9 r.Item&&rng 0 4 r.Branch&&(rng 0 365 r.Days&&rng 0 10 r.Renewals&&rng 0 99 r.Loans)&&(rng 0 1000 r.Fine&&rng 0 30 r.Grace&&rng 0 100000000 r.MaxFine)&&rng 1 60 r.Shelf&&rng 1 60 r.Recall&&rng 0 109572 r.Fixed&&rng 0 9 r.Rank
theorem za2v (r:Rule):qc6 r=some (zhu r):=by
 unfold qc6 zhu
 simp -zeta only[k_or,zaz,za2q]
 try rfl
def zez (x y:Rule):Bool:=x.Patron==y.Patron&&x.Item==y.Item&&x.Branch==y.Branch
def zd3 (l:List Rule) (i:Nat) (x:Rule):Int:=bif !(zhu x) then 2 else bif (l.take i).all (fun y=>!(zez y x)) then 0 else 7
theorem z9z {l:List Rule} {i:Nat} {x:Rule} (hl:l.length<1000000000) (hx:l[i]?=some x):zae zve (l,(i:Int),0,())=some (bif (l.take i).all (fun y=>!(zez y x)) then .inl (l,(i:Int),()) else .inr (7,())):=by
 have hi:=(List.getElem?_eq_some_iff.1 hx).1
 have h:=zat (step:=zve) (fun k=>(l,(i:Int),(k:Int),())) (l.take i) (fun _ y=>!(zez y x)) (.inr (7,())) (.inl (l,(i:Int),())) (by rw[List.length_take];omega)
  (by rw[List.length_take,Nat.min_eq_left (by omega)];simp only[zve,dge,cond_false])
  (fun k y hy=>by
   have hk:=(List.getElem?_eq_some_iff.1 hy).1
   rw[List.length_take]at hk
   have hy2:l[k]?=some y:=by rw[←hy,List.getElem?_take_of_lt (by omega)]
   simp -zeta only[zve,dlt (show k<i by omega),zaj,hx,hy2,k_or,zaz,cond_true,zam (show k<9223372036854775807 by omega)]
   dsimp only
   unfold zez
   cases (y.Patron==x.Patron&&y.Item==x.Item&&y.Branch==x.Branch)<;>rfl)
 rw[show zae zve (l,(i:Int),0,())=_ from h,zay]
theorem z9y {l:List Rule} (hl:l.length<1000000000):zae z2f (l,0,())=some (if zbj (zd3 l) 0 l==0 then .inl () else .inr (zbj (zd3 l) 0 l,())):=by
 have h:=zcg (step:=z2f) (fun i=>(l,(i:Int),())) l (zd3 l) (.inl ()) (fun e=>.inr (e,())) hl
  (by simp only[z2f,dge,cond_false])
  (fun i x hx=>by
   have hi:=(List.getElem?_eq_some_iff.1 hx).1
   unfold zd3
   simp only[zbp,z2f,dlt hi,zaj,hx,cond_true,za2v,z9z hl hx]
   cases zhu x with
   |false=>rfl
   |true=>
    simp only[Bool.not_true,cond_false]
    cases (l.take i).all (fun y=>!(zez y x)) with
    |true=>simp only[cond_true,zam (show i<9223372036854775807 by omega)];rfl
    |false=>rfl)
 exact h
def zda (l:List Rule):Int:=bif decide (32<(l.length:Int)) then 13 else zbj (zd3 l) 0 l
theorem za4w {l:List Rule} (hl:l.length<1000000000):qm l=some (zda l):=by
 unfold qm zda
 rw[z9y hl]
 generalize zbj (zd3 l) 0 l=e
 cases decide (32<(l.length:Int)) with
 |true=>rfl
 |false=>
  by_cases h:e=0
  ·subst h;rfl
  ·have h2:(e==0)=false:=by simpa using h
   simp only[h2,Bool.false_eq_true,if_false,cond_false]
def incr (l:List Int):Bool:=zch (fun i x=>!(zbb l i (fun y=>decide (x≤y)))) 0 l
theorem ztl {X:Type} {p:Nat→X→Bool}:∀{l:List X} {i:Nat},zch p (i+1) l=zch (fun i=>p (i+1)) i l:=by
 intro l
 induction l with
 |nil=>intros;rfl
 |cons x l ih=>intro i;simp only[zch];rw[ih]
theorem z69 (l:List Int):incr l=zch (fun i x=>!(zbb l (i+1) (fun y=>decide (x≤y)))) 0 l.tail:=by
 cases l with
 |nil=>rfl
 |cons x l=>
  unfold incr
  simp only[zch,List.tail_cons]
  rw[ztl]
  try rfl
def zbi (c:Calendar):Int:=
 bif decide (c.Week<0)||decide (126<c.Week) then 1
 else bif decide (64<(c.Closed.length:Int)) then 13
 else bif c.Closed.all (fun x=>!(decide (x<0)||decide (109572<x))) then (bif incr c.Closed then 0 else 7) else 2
theorem z96 {c:Calendar} (hl:c.Closed.length<1000000000):zae zvj (0,c,())=some (bif c.Closed.all (fun x=>!(decide (x<0)||decide (109572<x))) then .inl (c,()) else .inr (2,())):=by
 have h:=zat (step:=zvj) (fun i=>((i:Int),c,())) c.Closed (fun _ x=>!(decide (x<0)||decide (109572<x))) (.inr (2,())) (.inl (c,())) hl
  (by simp only[zvj,dge,cond_false])
  (fun i x hx=>by
   have hi:=(List.getElem?_eq_some_iff.1 hx).1
   simp -zeta only[zvj,dlt hi,zaj,hx,k_or,zaz,cond_true,zam (show i<9223372036854775807 by omega)]
   cases (decide (x<0)||decide (109572<x))<;>rfl)
 rw[show zae zvj (0,c,())=_ from h,zay]
theorem z2k {c:Calendar} (hl:c.Closed.length<1000000000):zae zln (1,c,())=some (bif incr c.Closed then .inl () else .inr (7,())):=by
 have h:=zat (step:=zln) (fun i=>(((i+1:Nat):Int),c,())) c.Closed.tail (fun i x=>!(zbb c.Closed (i+1) (fun y=>decide (x≤y)))) (.inr (7,())) (.inl ()) (by rw[List.length_tail];omega)
  (by
   rw[List.length_tail]
   have:decide (((c.Closed.length-1+1:Nat):Int)<(c.Closed.length:Int))=false:=by rw[decide_eq_false_iff_not];omega
   simp only[zln,this,cond_false])
  (fun i x hx=>by
   rw[List.getElem?_tail]at hx
   have hi:=(List.getElem?_eq_some_iff.1 hx).1
   have hj:c.Closed[i]?=some c.Closed[i]:=List.getElem?_eq_getElem (by omega)
   simp -zeta only[zln,dlt hi,zaj,hx,cond_true,zep (show i<1000000000 by omega),hj,zbb,zam (show i+1<9223372036854775807 by omega)]
   cases decide (x≤c.Closed[i])<;>rfl)
 rw[show zae zln (1,c,())=_ from h,z69]
theorem zaik {c:Calendar} (hl:c.Closed.length<1000000000):qy c=some (zbi c):=by
 unfold qy zbi
 simp -zeta only[k_or]
 dsimp only
 rw[z96 hl]
 cases (decide (c.Week<0)||decide (126<c.Week)) with
 |true=>rfl
 |false=>
  cases decide (64<(c.Closed.length:Int)) with
  |true=>rfl
  |false=>
   cases c.Closed.all (fun x=>!(decide (x<0)||decide (109572<x))) with
   |false=>rfl
   |true=>
    simp only[cond_false,cond_true,z2k hl]
    cases incr c.Closed<;>rfl
end Go.Proofs.YtpaidiaknfhclaaGreatDoor
