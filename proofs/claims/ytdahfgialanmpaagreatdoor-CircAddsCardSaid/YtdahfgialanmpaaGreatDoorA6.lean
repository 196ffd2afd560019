/- CircAdds: a part of the proof of the given statement, which is proved without conditions. -/
import Derived.Test.YtdahfgialanmpaaGreatDoorA5
import Derived.Lib.TrimUEq
import Derived.Lib.ValidU
import Derived.Lib.FieldsP
import Derived.Lib.Join
import Derived.Shelf.Strings.OnBuilder
import Derived.Shelf.Strings.FieldsFuncAny
import Derived.Shelf.Unicode.ValidAny
import Derived.Ground.NamesProg
import Derived.Ground.Names2Prog
import Derived.Test.YtdahfgialanmpaaGreatDoorProg
import Derived.WalkKit
import Derived.WalkMore
import Derived.Below
import Derived.Laws.RangeString
import Derived.Laws.Runes
import Derived.LoopTactic
import Derived.Deep.LoopGhost
import Derived.Test.YtdahfgialanmpaaGreatDoorTie
import Derived.Laws.BitsLemmas
set_option linter.all false
namespace Go.Proofs.YtdahfgialanmpaaGreatDoor.Ev
open Go
section
variable {κ:Type} {El:κ→Type} {S:Sg κ El} {P:Program}
theorem get_splice {α:Type} {L new:List α} {off j:Nat} (h:off+new.length≤L.length):(Go.splice L off new)[j]?=if off≤j∧j<off+new.length then new[j-off]? else L[j]?:=by
 unfold Go.splice
 rw[←List.append_assoc]
 exact seg_get L new off j h
theorem dr_move (sgk:SgOk S) {w w':World} {I J I':Nat→Nat→Prop} {v:Value} {d:D κ El} (h:DR S w I J v d) (hp:plainD d=true) (H:∀b o,I b o→w'.cell? ⟨b,o,none⟩=w.cell? ⟨b,o,none⟩∧I' b o):DR S w' I' I' v d:=
 (h.relendL sgk (J':=I) (plainD_noCl hp)).mono H H
theorem enc_plain (sgk:SgOk S) {k:κ} {x:El k} {j:Nat} {d:D κ El} (h:(S.enc k x)[j]?=some d):plainD d=true:=sgk.plain k x d (List.mem_of_getElem? h)
theorem one_of {w:World} {I J:Nat→Nat→Prop} {v:Value} {d:D κ El} (h:DR S w I J v d) (hp:plainD d=true):v.oneCell'=true:=
 (h.lone (by cases d<;>simp_all[plainD,solid])).one
structure InsOk (P:Program) (f z E:Nat):Prop where
 shift:∀{w:World} {b n c i vb vo vc:Nat} {L vs:List Value} {t:TypeId},i<n→n+1≤c→n+1≤1073741824→vb≠b→w.heap[b]?=some (.cells L.toArray t (0,0))→L.length=c*z→vs.length=z→
  (∀j v,vs[j]?=some v→w.cell? ⟨vb,vo+j,none⟩=some v)→(∀v∈(L.drop (i*z)).take ((n-i)*z),v.oneCell'=true)→(∀v∈vs,v.oneCell'=true)→
  Calls P f #[.slice (some ⟨b,0,none⟩) n c,.int .i64 i,.slice (some ⟨vb,vo,none⟩) 1 vc] w fun e w'=>
   e=.returned (.slice (some ⟨b,0,none⟩) (n+1) c)∧w'=(w.drew.setRow b (Go.splice L ((i+1)*z) ((L.drop (i*z)).take ((n-i)*z))).toArray).setRow b (Go.splice (Go.splice L ((i+1)*z) ((L.drop (i*z)).take ((n-i)*z))) (i*z) vs).toArray
 room:∀{w:World} {b n c vb vo vc:Nat} {L vs:List Value} {t:TypeId},n+1≤c→n+1≤1073741824→w.heap[b]?=some (.cells L.toArray t (0,0))→L.length=c*z→vs.length=z→
  (∀j v,vs[j]?=some v→w.cell? ⟨vb,vo+j,none⟩=some v)→(∀v∈vs,v.oneCell'=true)→
  Calls P f #[.slice (some ⟨b,0,none⟩) n c,.int .i64 n,.slice (some ⟨vb,vo,none⟩) 1 vc] w fun e w'=>
   e=.returned (.slice (some ⟨b,0,none⟩) (n+1) c)∧w'=w.setRow b (Go.splice L (n*z) vs).toArray
 new:∀{w:World} {base:Option Addr} {n c vb vo vc:Nat} {olds vs:List Value},n≤c→c<n+1→n+1≤1073741824→vs.length=z→(base=none→n=0)→olds.length=n*z→
  (∀a,base=some a→∀j v,olds[j]?=some v→w.cell? (a.add j)=some v)→(∀j v,vs[j]?=some v→w.cell? ⟨vb,vo+j,none⟩=some v)→
  Calls P f #[.slice base n c,.int .i64 n,.slice (some ⟨vb,vo,none⟩) 1 vc] w fun e w'=>
   ∃cap zs,e=.returned (.slice (some ⟨w.heap.size,0,none⟩) (n+1) cap)∧w'=w.drew.alloc (.cells (olds++(vs++zs)).toArray E)∧n+1≤cap∧zs.length=(cap-(n+1))*z
 grow:∀{w:World} {b n c i vb vo vc:Nat} {L vs:List Value} {t:TypeId},i<n→n≤c→c<n+1→n+1≤1073741824→vb≠b→w.heap[b]?=some (.cells L.toArray t (0,0))→L.length=c*z→vs.length=z→
  (∀j v,vs[j]?=some v→w.cell? ⟨vb,vo+j,none⟩=some v)→(∀v∈(L.drop (i*z)).take ((n-i)*z),v.oneCell'=true)→(∀v∈vs,v.oneCell'=true)→
  Calls P f #[.slice (some ⟨b,0,none⟩) n c,.int .i64 i,.slice (some ⟨vb,vo,none⟩) 1 vc] w fun e w'=>
   ∃cap row,e=.returned (.slice (some ⟨w.heap.size,0,none⟩) (n+1) cap)∧n+1≤cap∧row.length=cap*z∧row.take (i*z)=L.take (i*z)∧
    w'.heap=(w.heap.push (.cells (Go.splice (Go.splice row (i*z) vs) ((i+1)*z) ((L.drop (i*z)).take ((n-i)*z))).toArray E))∧w'.os=w.os∧w'.output=w.output∧w'.tape=w.tape
theorem ins_elems {k:κ} {xs:List (El k)} {y:El k} {i:Nat} {L vs M:List Value} {Q:Value→D κ El→Prop} (sgk:SgOk S) (hi:i≤xs.length)
 (h1:∀(i:Nat) (hi:i<xs.length) (j:Nat) (d:D κ El),(S.enc k xs[i])[j]?=some d→∃v,L[i*S.sz k+j]?=some v∧Q v d)
 (h2:∀(j:Nat) (d:D κ El),(S.enc k y)[j]?=some d→∃v,vs[j]?=some v∧Q v d)
 (m1:∀p:Nat,p<i*S.sz k→M[p]?=L[p]?) (m2:∀j:Nat,j<S.sz k→M[i*S.sz k+j]?=vs[j]?) (m3:∀p:Nat,i*S.sz k≤p→p<xs.length*S.sz k→M[p+S.sz k]?=L[p]?) :
 ∀(i':Nat) (hi':i'<(xs.take i++y::xs.drop i).length) (j:Nat) (d:D κ El),(S.enc k (xs.take i++y::xs.drop i)[i'])[j]?=some d→∃v,M[i'*S.sz k+j]?=some v∧Q v d:=by
 intro i' hi' j d hj
 have hj':j<S.sz k:=by have:=(List.getElem?_eq_some_iff.1 hj).1;rwa [sgk.sz]at this
 have hl:(xs.take i).length=i:=by simp;omega
 by_cases hlt:i'<i
 ·have e:(xs.take i++y::xs.drop i)[i']=xs[i']'(by omega):=by rw[List.getElem_append_left (by omega)];simp
  rw[e]at hj
  obtain ⟨v,a,b⟩:=h1 i' (by omega) j d hj
  exact ⟨v,by rw[m1 _ (cell_idx hj' hlt)];exact a,b⟩
 ·by_cases heq:i'=i
  ·subst heq
   have e:(xs.take i'++y::xs.drop i')[i']=y:=by rw[List.getElem_append_right (by omega)];simp[hl]
   rw[e]at hj
   obtain ⟨v,a,b⟩:=h2 j d hj
   exact ⟨v,by rw[m2 j hj'];exact a,b⟩
  ·obtain ⟨p,rfl⟩:∃p,i'=p+1:=⟨i'-1,by omega⟩
   have hp:p<xs.length:=by simp at hi';omega
   have e:(xs.take i++y::xs.drop i)[p+1]=xs[p]:=by
    rw[List.getElem_append_right (by omega)]
    have e2:p+1-(xs.take i).length=(p-i)+1:=by omega
    simp only[e2,List.getElem_cons_succ,List.getElem_drop]
    congr 1;omega
   rw[e]at hj
   obtain ⟨v,a,b⟩:=h1 p hp j d hj
   refine ⟨v,?_,b⟩
   have:=m3 (p*S.sz k+j) (by have:=Nat.mul_le_mul_right (S.sz k) (show i≤p by omega);omega) (cell_idx hj' hp)
   rw[←a,←this]
   congr 1
   rw[Nat.add_mul];omega
theorem con_ins (sgk:SgOk S) {f E:Nat} {fn:Func} {code:Code} (fok:FnOk P f fn code) (hmd:S.md f=.cons) {k:κ} (W:InsOk P f (S.sz k) E)
 {xs:List (El k)} {y:El k} {i:Nat} {ds:List (D κ El)} (hi:i≤xs.length) (hlim:xs.length+1≤1073741824) (hwl:WL ds [.lst k xs,.int .i64 (i:Int),.lst k [y]]) :
 Con P S f ds [] (.lst k (xs.take i++y::xs.drop i)) []:=by
 unfold Con
 rw[hmd]
 intro _ k' xs' ds0 hds k2 xs2 hd w I J mb v0 vs hp ho ha
 subst hds
 cases hd
 have hw0:=hwl.2 0 _ _ rfl rfl
 cases hw0 with
 |leaf _ _ hw0=>
 cases hw0
 have ha:=WL.args (cs':=[.int .i64 (i:Int),.lst k [y]]) ⟨by simpa using hwl.1,fun q d d' h1 h2=>hwl.2 (q+1) d d' (by simpa using h1) (by simpa using h2)⟩ ha
 obtain ⟨base,c,rfl,hnc,hz⟩:=ho
 obtain ⟨hvs,hav⟩:=ha
 obtain ⟨u1,u2,rfl⟩:∃u1 u2,vs = #[u1,u2]:=by
  simp at hvs
  exact ⟨vs[0],vs[1],by
   apply Array.ext
   ·simp[hvs]
   ·intro j h1 h2;simp at h2;rcases (show j=0∨j=1 by omega) with rfl|rfl<;>rfl⟩
 have hu1:u1=.int .i64 i:=(hav 0 u1 _ rfl rfl).int_inv
 have hu2:=hav 1 u2 _ rfl rfl
 subst hu1
 obtain ⟨n,hn⟩:∃n,n=xs.length:=⟨_,rfl⟩
 have hpos:=sgk.pos k
 cases hu2 with
 |lst vb vo vc _ _ cv hvcap hvc hvv=>
 obtain ⟨us,hus⟩:∃us,us=(List.range (S.sz k)).map (cv 0):=⟨_,rfl⟩
 have husl:us.length=S.sz k:=by rw[hus];simp
 have hug:∀j,j<S.sz k→us[j]?=some (cv 0 j):=fun j hj=>by rw[hus];simp[hj]
 have huc:∀j v,us[j]?=some v→w.cell? ⟨vb,vo+j,none⟩=some v:=fun j v hj=>by
  have hlt:=(List.getElem?_eq_some_iff.1 hj).1
  rw[husl]at hlt
  rw[hug j hlt]at hj;cases hj
  have:=(hvc 0 j (by simp) hlt).1
  simpa using this
 have huI:∀j,j<S.sz k→I vb (vo+j):=fun j hlt=>by have:=(hvc 0 j (by simp) hlt).2;simpa using this
 have hud:∀j d,(S.enc k y)[j]?=some d→∃v,us[j]?=some v∧DR S w I J v d:=fun j d hj=>by
  have hlt:=(List.getElem?_eq_some_iff.1 hj).1
  rw[sgk.sz]at hlt
  exact ⟨_,hug j hlt,hvv 0 (by simp) j d hj⟩
 have hu1c:∀v∈us,v.oneCell'=true:=fun v hv=>by
  obtain ⟨j,hj⟩:=List.getElem?_of_mem hv
  have hlt:=(List.getElem?_eq_some_iff.1 hj).1
  have hlt':j<(S.enc k y).length:=by rw[sgk.sz,←husl];exact hlt
  obtain ⟨v',e1,e2⟩:=hud j _ (List.getElem?_eq_getElem hlt')
  rw[hj]at e1;cases e1
  exact one_of e2 (sgk.plain k y _ (List.getElem_mem hlt'))
 have hIw:∀b o,I b o→b<w.heap.size:=hp.ib
 have hres:(xs.take i++y::xs.drop i).length=n+1:=by simp;omega
 unfold CallF
 rw[MuLone.run_callFunc_enter fok.at_ fok.name fok.body _ w]
 simp only
 show Calls P f #[.slice base xs.length c,.int .i64 (i:Int),.slice (some ⟨vb,vo,none⟩) 1 vc] w _
 rcases hz with ⟨rfl,rfl⟩|⟨b,vals,t,rfl,rfl,hb,hvsz,hel⟩
 ·have hx0:xs=[]:=List.eq_nil_of_length_eq_zero (by omega)
  subst hx0
  have hi0:i=0:=by simpa using hi
  subst hi0
  have hnew:=W.new (w:=w) (base:=base) (n:=0) (c:=0) (vb:=vb) (vo:=vo) (vc:=vc) (olds:=[]) (vs:=us) (by omega) (by omega) (by omega) husl (fun _=>rfl) (by simp) (fun a _ j v hj=>by simp at hj) huc
  refine hnew.mono (fun e w' he=>?_)
  obtain ⟨cap,zs,rfl,rfl,hcap,hzl⟩:=he
  refine ⟨I,⟨by rw[World.size_alloc];show w.heap.size≤w.heap.size+1;omega,rfl,rfl,rfl,fun q hq _=>?_,fun _ _ h=>h,fun _ _ h=>.inl h,fun q o h=>by have:=hIw q o h;rw[World.size_alloc];show q<w.heap.size+1;omega⟩,
   some ⟨w.heap.size,0,none⟩,cap,by simp,by simp;omega,.inr ⟨w.heap.size,_,E,rfl,alloc_new w.drew _,?_,.inl (Nat.le_refl _),fun o h=>absurd (hIw _ _ h) (by omega),?_⟩⟩
  ·simp only[World.alloc];rw[Array.getElem?_push,if_neg (by show ¬q=w.heap.size;omega)];rfl
  ·simp[husl,hzl]
   obtain ⟨q,rfl⟩:∃q,cap=q+1:=⟨cap-1,by omega⟩
   rw[Nat.add_sub_cancel,Nat.add_mul];omega
  ·intro i' hi' j d hj
   have:=ins_elems (L:=[]) (vs:=us) (M:=us++zs) (Q:=fun v d=>DR S (w.drew.alloc (.cells ([]++(us++zs)).toArray E)) I I v d) sgk (i:=0) (xs:=[]) (y:=y) (by simp) (fun i hi=>absurd hi (by simp))
    (fun j d hj=>by
     obtain ⟨v,a,b⟩:=hud j d hj
     exact ⟨v,a,dr_move sgk b (enc_plain sgk hj) (fun q o h=>⟨by
      have:=hIw q o h
      simp only[World.cell?,World.alloc];rw[Array.getElem?_push,if_neg (by show ¬q=w.heap.size;omega)];rfl,h⟩)⟩)
    (fun p hp=>absurd hp (by omega)) (fun j hj=>by rw[Nat.zero_mul,Nat.zero_add,List.getElem?_append_left (by omega)]) (fun p _ hp=>by simp at hp) i' hi' j d hj
   simpa using this
 ·have hbw:b<w.heap.size:=(Array.getElem?_eq_some_iff.1 hb).1
  have hbI:∀o,¬I b o:=fun o h=>(hp.jb b o (hp.ij b o h)).2 (by simp)
  have hne:vb≠b:=fun e=>by subst e;exact hbI _ (huI 0 hpos)
  obtain ⟨L,hL⟩:∃L,L=vals.toList:=⟨_,rfl⟩
  have hLa:vals=L.toArray:=by rw[hL]
  have hLl:L.length=c*S.sz k:=by rw[hL];simpa using hvsz
  rw[hLa]at hb
  have hel':∀i (hi:i<xs.length) j d,(S.enc k xs[i])[j]?=some d→∃v,L[i*S.sz k+j]?=some v∧DR S w I J v d:=fun i hi j d hj=>by
   obtain ⟨v,a,e⟩:=hel i hi j d hj
   exact ⟨v,by rw[hL];simpa using a,e⟩
  have hnL:n*S.sz k≤L.length:=by rw[hLl];exact Nat.mul_le_mul_right _ (by omega)
  have hone:∀v∈L.take (n*S.sz k),v.oneCell'=true:=fun v hv=>by
   obtain ⟨p,hp'⟩:=List.getElem?_of_mem hv
   have hlt:=(List.getElem?_eq_some_iff.1 hp').1
   simp only[List.length_take]at hlt
   have h1:p / S.sz k<n:=(Nat.div_lt_iff_lt_mul hpos).2 (by omega)
   have h2:=Nat.mod_lt p hpos
   have h3:p % S.sz k<(S.enc k (xs[p / S.sz k]'(by omega))).length:=by rw[sgk.sz];exact h2
   obtain ⟨v',a,e⟩:=hel' (p / S.sz k) (by omega) _ _ (List.getElem?_eq_getElem h3)
   rw[Nat.div_add_mod']at a
   rw[List.getElem?_take,if_pos (by omega),a]at hp'
   cases hp'
   exact one_of e (sgk.plain k _ _ (List.getElem_mem h3))
  have hC1:(L.drop (i*S.sz k)).take ((n-i)*S.sz k)=(L.take (n*S.sz k)).drop (i*S.sz k):=by
   rw[List.drop_take];congr 1;rw[Nat.sub_mul]
  have hone1:∀v∈(L.drop (i*S.sz k)).take ((n-i)*S.sz k),v.oneCell'=true:=fun v hv=>hone v (by rw[hC1]at hv;exact List.mem_of_mem_drop hv)
  have hin:i*S.sz k≤n*S.sz k:=Nat.mul_le_mul_right _ (by omega)
  have hi1:(i+1)*S.sz k=i*S.sz k+S.sz k:=by rw[Nat.add_mul,Nat.one_mul]
  have hn1:(n+1)*S.sz k=n*S.sz k+S.sz k:=by rw[Nat.add_mul,Nat.one_mul]
  obtain ⟨C1,hC⟩:∃C1,C1=(L.drop (i*S.sz k)).take ((n-i)*S.sz k):=⟨_,rfl⟩
  have hC1l:C1.length=n*S.sz k-i*S.sz k:=by rw[hC,hC1];simp;omega
  have hC1g:∀q,q<n*S.sz k-i*S.sz k→C1[q]?=L[i*S.sz k+q]?:=fun q hq=>by rw[hC,hC1,List.getElem?_drop,List.getElem?_take,if_pos (by omega)]
  have inpl:∀(M:List Value) (w':World),M.length=L.length→(w'=w.setRow b M.toArray∨∃M0:Array Value,w'=(w.drew.setRow b M0).setRow b M.toArray)→n+1≤c→
   (∀p:Nat,p<i*S.sz k→M[p]?=L[p]?)→(∀j:Nat,j<S.sz k→M[i*S.sz k+j]?=us[j]?)→(∀p:Nat,i*S.sz k≤p→p<xs.length*S.sz k→M[p+S.sz k]?=L[p]?)→
   ∃I',GrowM [b] w w' I I'∧NewO S w' I' w.heap.size [b] k (xs.take i++y::xs.drop i) (.slice (some ⟨b,0,none⟩) (n+1) c):=by
   intro M w' hMl hw' hroom m1 m2 m3
   have hheap:w'.heap[b]?=some (.cells M.toArray t (0,0)):=by
    rcases hw' with rfl|⟨M0,rfl⟩
    ·exact setRow_heap _ _ _ _ _ _ hb
    ·exact setRow_heap _ _ _ _ _ _ (setRow_heap w.drew _ _ _ _ _ hb)
   have hoth:∀q,q≠b→w'.heap[q]?=w.heap[q]?:=fun q hq=>by
    rcases hw' with rfl|⟨M0,rfl⟩
    ·exact setRow_other _ _ _ _ hq
    ·rw[setRow_other _ _ _ _ hq,setRow_other _ _ _ _ hq];rfl
   have hsz:w'.heap.size=w.heap.size:=by
    rcases hw' with rfl|⟨M0,rfl⟩<;>simp only[setRow_size]<;>rfl
   refine ⟨I,⟨by omega,by rcases hw' with rfl|⟨M0,rfl⟩<;>rfl,by rcases hw' with rfl|⟨M0,rfl⟩<;>rfl,by rcases hw' with rfl|⟨M0,rfl⟩<;>rfl,fun q hq hm=>hoth q (by simpa using hm),fun _ _ h=>h,fun _ _ h=>.inl h,fun q o h=>by have:=hIw q o h;omega⟩,
    some ⟨b,0,none⟩,c,by rw[hres],by omega,.inr ⟨b,_,t,rfl,hheap,by simp[hMl,hLl],.inr (by simp),hbI,?_⟩⟩
   intro i' hi' j d hj
   have:=ins_elems (L:=L) (vs:=us) (M:=M) (Q:=fun v d=>DR S w' I I v d) sgk (by omega)
    (fun i hi j d hj=>by
     obtain ⟨v,a,e⟩:=hel' i hi j d hj
     exact ⟨v,a,dr_move sgk e (enc_plain sgk hj) (fun q o h=>⟨by simp only[World.cell?];rw[hoth q (fun e=>by subst e;exact hbI o h)],h⟩)⟩)
    (fun j d hj=>by
     obtain ⟨v,a,e⟩:=hud j d hj
     exact ⟨v,a,dr_move sgk e (enc_plain sgk hj) (fun q o h=>⟨by simp only[World.cell?];rw[hoth q (fun e=>by subst e;exact hbI o h)],h⟩)⟩) m1 m2 m3 i' hi' j d hj
   simpa using this
  have newb:∀(M:List Value) (cap:Nat) (w':World),M.length=cap*S.sz k→w'.heap=w.heap.push (.cells M.toArray E)→w'.os=w.os→w'.output=w.output→w'.tape=w.tape→n+1≤cap→
   (∀p:Nat,p<i*S.sz k→M[p]?=L[p]?)→(∀j:Nat,j<S.sz k→M[i*S.sz k+j]?=us[j]?)→(∀p:Nat,i*S.sz k≤p→p<xs.length*S.sz k→M[p+S.sz k]?=L[p]?)→
   ∃I',GrowM [b] w w' I I'∧NewO S w' I' w.heap.size [b] k (xs.take i++y::xs.drop i) (.slice (some ⟨w.heap.size,0,none⟩) (n+1) cap):=by
   intro M cap w' hMl hheap h1 h2 h3 hcap m1 m2 m3
   have hoth:∀q,q<w.heap.size→w'.heap[q]?=w.heap[q]?:=fun q hq=>by rw[hheap,Array.getElem?_push,if_neg (by omega)]
   refine ⟨I,⟨by rw[hheap];simp,h1,h2,h3,fun q hq _=>hoth q hq,fun _ _ h=>h,fun _ _ h=>.inl h,fun q o h=>by have:=hIw q o h;rw[hheap];simp;omega⟩,
    some ⟨w.heap.size,0,none⟩,cap,by rw[hres],by omega,.inr ⟨w.heap.size,_,E,rfl,by rw[hheap];exact Array.getElem?_push_size,by simp[hMl],.inl (Nat.le_refl _),fun o h=>absurd (hIw _ _ h) (by omega),?_⟩⟩
   intro i' hi' j d hj
   have:=ins_elems (L:=L) (vs:=us) (M:=M) (Q:=fun v d=>DR S w' I I v d) sgk (by omega)
    (fun i hi j d hj=>by
     obtain ⟨v,a,e⟩:=hel' i hi j d hj
     exact ⟨v,a,dr_move sgk e (enc_plain sgk hj) (fun q o h=>⟨by simp only[World.cell?];rw[hoth q (hIw q o h)],h⟩)⟩)
    (fun j d hj=>by
     obtain ⟨v,a,e⟩:=hud j d hj
     exact ⟨v,a,dr_move sgk e (enc_plain sgk hj) (fun q o h=>⟨by simp only[World.cell?];rw[hoth q (hIw q o h)],h⟩)⟩) m1 m2 m3 i' hi' j d hj
   simpa using this
  rw[←hn]at hi hlim hnc ⊢
  by_cases hroom:n+1≤c
  ·have hn1c:(n+1)*S.sz k≤L.length:=by rw[hLl];exact Nat.mul_le_mul_right _ hroom
   by_cases hlt:i<n
   ·refine (W.shift (vc:=vc) hlt hroom hlim hne hb hLl husl huc hone1 hu1c).mono (fun e w' he=>?_)
    obtain ⟨rfl,rfl⟩:=he
    rw[←hC]
    have l1:(Go.splice L ((i+1)*S.sz k) C1).length=L.length:=length_splice _ _ _ (by omega)
    refine inpl _ _ ?_ (.inr ⟨_,rfl⟩) hroom ?_ ?_ ?_
    ·rw[length_splice _ _ _ (by omega),l1]
    ·intro p hp'
     rw[get_splice (by omega),if_neg (by omega),get_splice (by omega),if_neg (by omega)]
    ·intro j hj
     rw[get_splice (by omega),if_pos (by omega)]
     congr 1;omega
    ·intro p h1 h2
     rw[←hn]at h2
     rw[get_splice (by omega),if_neg (by omega),get_splice (by omega),if_pos (by omega),hC1g _ (by omega)]
     congr 1;omega
   ·have hie:i=n:=by omega
    subst hie
    refine (W.room (vc:=vc) hroom hlim hb hLl husl huc hu1c).mono (fun e w' he=>?_)
    obtain ⟨rfl,rfl⟩:=he
    refine inpl _ _ (length_splice _ _ _ (by omega)) (.inl rfl) hroom ?_ ?_ ?_
    ·intro p hp'
     rw[get_splice (by omega),if_neg (by omega)]
    ·intro j hj
     rw[get_splice (by omega),if_pos (by omega)]
     congr 1;omega
    ·intro p h1 h2
     rw[←hn]at h2
     omega
  ·by_cases hlt:i<n
   ·refine (W.grow (vc:=vc) hlt hnc (by omega) hlim hne hb hLl husl huc hone1 hu1c).mono (fun e w' he=>?_)
    obtain ⟨cap,row,rfl,hcap,hrl,hrt,hheap,q1,q2,q3⟩:=he
    rw[←hC]at hheap
    have hrl':(n+1)*S.sz k≤row.length:=by rw[hrl];exact Nat.mul_le_mul_right _ hcap
    have l1:(Go.splice row (i*S.sz k) us).length=row.length:=length_splice _ _ _ (by omega)
    refine newb _ cap w' ?_ hheap q1 q2 q3 hcap ?_ ?_ ?_
    ·rw[length_splice _ _ _ (by omega),l1,hrl]
    ·intro p hp'
     rw[get_splice (by omega),if_neg (by omega),get_splice (by omega),if_neg (by omega)]
     have e1:(row.take (i*S.sz k))[p]?=row[p]?:=by rw[List.getElem?_take,if_pos hp']
     have e2:(L.take (i*S.sz k))[p]?=L[p]?:=by rw[List.getElem?_take,if_pos hp']
     rw[←e1,hrt,e2]
    ·intro j hj
     rw[get_splice (by omega),if_neg (by omega),get_splice (by omega),if_pos (by omega)]
     congr 1;omega
    ·intro p h1 h2
     rw[←hn]at h2
     rw[get_splice (by omega),if_pos (by omega),hC1g _ (by omega)]
     congr 1;omega
   ·have hie:i=n:=by omega
    subst hie
    refine (W.new (base:=some ⟨b,0,none⟩) (vc:=vc) (olds:=L.take (i*S.sz k)) hnc (by omega) hlim husl (fun h=>by cases h) (by simp;omega) (fun a ha j v hj=>?_) huc).mono (fun e w' he=>?_)
    ·cases ha
     rw[List.getElem?_take]at hj
     split at hj
     ·rw[addr_add,Nat.zero_add]
      simp only[World.cell?,hb]
      simpa using hj
     ·cases hj
    ·obtain ⟨cap,zs,rfl,rfl,hcap,hzl⟩:=he
     obtain ⟨q,rfl⟩:∃q,cap=q+(i+1):=⟨cap-(i+1),by omega⟩
     rw[Nat.add_sub_cancel]at hzl
     have hTl:(L.take (i*S.sz k)).length=i*S.sz k:=by simp;omega
     refine newb _ (q+(i+1)) _ ?_ rfl rfl rfl rfl hcap ?_ ?_ ?_
     ·simp only[List.length_append,hTl,husl,hzl]
      rw[Nat.add_mul,hi1];omega
     ·intro p hp'
      rw[List.getElem?_append_left (by omega),List.getElem?_take,if_pos hp']
     ·intro j hj
      rw[List.getElem?_append_right (by omega),List.getElem?_append_left (by omega)]
      congr 1;omega
     ·intro p h1 h2
      rw[←hn]at h2
      omega
theorem con_insO (sgk:SgOk S) {f E:Nat} {fn:Func} {code:Code} (fok:FnOk P f fn code) (hmd:S.md f=.cons) {k:κ} (W:InsOk P f (S.sz k) E)
 {xs vs r:List (El k)} {i:Int} {ds:List (D κ El)} (hwl:WL ds [.lst k xs,.int .i64 i,.lst k vs]) (hr:insertO xs i vs=some r):Con P S f ds [] (.lst k r) []:=by
 unfold insertO at hr
 split at hr
 ·rename_i y
  rw[cond_eq]at hr
  split at hr
  ·rename_i h
   simp only[Bool.and_eq_true,decide_eq_true_eq]at h
   cases hr
   obtain ⟨n,rfl⟩:=Int.eq_ofNat_of_zero_le h.1.1
   exact con_ins sgk fok hmd W (i:=n) (by omega) h.2 hwl
  ·cases hr
 ·cases hr
end
end Go.Proofs.YtdahfgialanmpaaGreatDoor.Ev
namespace Go.Proofs.YtdahfgialanmpaaGreatDoor.Ev
open Go
section
variable {κ:Type} {El:κ→Type} {S:Sg κ El} {P:Program}
structure DelOk (P:Program) (f z:Nat):Prop where
 non:∀{w:World} {base:Option Addr} {n c i:Nat},n≤c→i≤n→Calls P f #[.slice base n c,.int .i64 i,.int .i64 i] w fun e w'=>e=.returned (.slice base n c)∧w'=w
 som:∀{w:World} {b n c i j:Nat} {L:List Value} {t:TypeId},i<j→j≤n→n≤c→w.heap[b]?=some (.cells L.toArray t (0,0))→L.length=c*z→(∀v∈(L.drop (j*z)).take ((n-j)*z),v.oneCell'=true)→
  Calls P f #[.slice (some ⟨b,0,none⟩) n c,.int .i64 i,.int .i64 j] w fun e w'=>
   e=.returned (.slice (some ⟨b,0,none⟩) (i+(n-j)) c)∧∃(M0:Array Value) (zs:List Value),zs.length=(j-i)*z∧w'=(w.drew.setRow b M0).setRow b (Go.splice (Go.splice L (i*z) ((L.drop (j*z)).take ((n-j)*z))) ((i+(n-j))*z) zs).toArray
theorem con_del (sgk:SgOk S) {f:Nat} {fn:Func} {code:Code} (fok:FnOk P f fn code) (hmd:S.md f=.cons) {k:κ} (W:DelOk P f (S.sz k))
 {xs:List (El k)} {i j:Nat} {ds:List (D κ El)} (hij:i≤j) (hj:j≤xs.length) (hwl:WL ds [.lst k xs,.int .i64 (i:Int),.int .i64 (j:Int)]) :
 Con P S f ds [] (.lst k (xs.take i++xs.drop j)) []:=by
 unfold Con
 rw[hmd]
 intro _ k' xs' ds0 hds k2 xs2 hd w I J mb v0 vs hp ho ha
 subst hds
 cases hd
 have hw0:=hwl.2 0 _ _ rfl rfl
 cases hw0 with
 |leaf _ _ hw0=>
 cases hw0
 have ha:=WL.args (cs':=[.int .i64 (i:Int),.int .i64 (j:Int)]) ⟨by simpa using hwl.1,fun q d d' h1 h2=>hwl.2 (q+1) d d' (by simpa using h1) (by simpa using h2)⟩ ha
 obtain ⟨base,c,rfl,hnc,hz⟩:=ho
 obtain ⟨hvs,hav⟩:=ha
 obtain ⟨u1,u2,rfl⟩:∃u1 u2,vs = #[u1,u2]:=by
  simp at hvs
  exact ⟨vs[0],vs[1],by
   apply Array.ext
   ·simp[hvs]
   ·intro j h1 h2;simp at h2;rcases (show j=0∨j=1 by omega) with rfl|rfl<;>rfl⟩
 have hu1:u1=.int .i64 i:=(hav 0 u1 _ rfl rfl).int_inv
 have hu2:u2=.int .i64 j:=(hav 1 u2 _ rfl rfl).int_inv
 subst hu1 hu2
 obtain ⟨n,hn⟩:∃n,n=xs.length:=⟨_,rfl⟩
 have hpos:=sgk.pos k
 have hIw:∀b o,I b o→b<w.heap.size:=hp.ib
 have hres:(xs.take i++xs.drop j).length=i+(n-j):=by simp;omega
 unfold CallF
 rw[MuLone.run_callFunc_enter fok.at_ fok.name fok.body _ w]
 simp only
 show Calls P f #[.slice base xs.length c,.int .i64 (i:Int),.int .i64 (j:Int)] w _
 by_cases heq:i=j
 ·subst heq
  refine (W.non hnc hj).mono (fun e w' he=>?_)
  obtain ⟨rfl,rfl⟩:=he
  have e:xs.take i++xs.drop i=xs:=by simp
  rw[e]
  refine ⟨I,⟨Nat.le_refl _,rfl,rfl,rfl,fun _ _ _=>rfl,fun _ _ h=>h,fun _ _ h=>.inl h,hIw⟩,base,c,rfl,hnc,?_⟩
  rcases hz with ⟨h,_⟩|⟨b,vals,t,rfl,rfl,hb,hvsz,hel⟩
  ·exact .inl h
  ·have hbI:∀o,¬I b o:=fun o h=>(hp.jb b o (hp.ij b o h)).2 (by simp)
   refine .inr ⟨b,vals,t,rfl,hb,hvsz,.inr (by simp),hbI,fun q hq j d hj=>?_⟩
   obtain ⟨v,a,e⟩:=hel q hq j d hj
   exact ⟨v,a,dr_move sgk e (enc_plain sgk hj) (fun _ _ h=>⟨rfl,h⟩)⟩
 ·have hlt:i<j:=by omega
  rcases hz with ⟨rfl,rfl⟩|⟨b,vals,t,rfl,rfl,hb,hvsz,hel⟩
  ·exfalso;omega
  ·have hbw:b<w.heap.size:=(Array.getElem?_eq_some_iff.1 hb).1
   have hbI:∀o,¬I b o:=fun o h=>(hp.jb b o (hp.ij b o h)).2 (by simp)
   obtain ⟨L,hL⟩:∃L,L=vals.toList:=⟨_,rfl⟩
   have hLa:vals=L.toArray:=by rw[hL]
   have hLl:L.length=c*S.sz k:=by rw[hL];simpa using hvsz
   rw[hLa]at hb
   have hel':∀i (hi:i<xs.length) j d,(S.enc k xs[i])[j]?=some d→∃v,L[i*S.sz k+j]?=some v∧DR S w I J v d:=fun i hi j d hj=>by
    obtain ⟨v,a,e⟩:=hel i hi j d hj
    exact ⟨v,by rw[hL];simpa using a,e⟩
   have hnL:n*S.sz k≤L.length:=by rw[hLl];exact Nat.mul_le_mul_right _ (by omega)
   have hone:∀v∈L.take (n*S.sz k),v.oneCell'=true:=fun v hv=>by
    obtain ⟨p,hp'⟩:=List.getElem?_of_mem hv
    have hlt:=(List.getElem?_eq_some_iff.1 hp').1
    simp only[List.length_take]at hlt
    have h1:p / S.sz k<n:=(Nat.div_lt_iff_lt_mul hpos).2 (by omega)
    have h2:=Nat.mod_lt p hpos
    have h3:p % S.sz k<(S.enc k (xs[p / S.sz k]'(by omega))).length:=by rw[sgk.sz];exact h2
    obtain ⟨v',a,e⟩:=hel' (p / S.sz k) (by omega) _ _ (List.getElem?_eq_getElem h3)
    rw[Nat.div_add_mod']at a
    rw[List.getElem?_take,if_pos (by omega),a]at hp'
    cases hp'
    exact one_of e (sgk.plain k _ _ (List.getElem_mem h3))
   have hjn:j*S.sz k≤n*S.sz k:=Nat.mul_le_mul_right _ (by omega)
   have hC1:(L.drop (j*S.sz k)).take ((n-j)*S.sz k)=(L.take (n*S.sz k)).drop (j*S.sz k):=by
    rw[List.drop_take];congr 1;rw[Nat.sub_mul]
   have hone1:∀v∈(L.drop (j*S.sz k)).take ((n-j)*S.sz k),v.oneCell'=true:=fun v hv=>hone v (by rw[hC1]at hv;exact List.mem_of_mem_drop hv)
   obtain ⟨C1,hC⟩:∃C1,C1=(L.drop (j*S.sz k)).take ((n-j)*S.sz k):=⟨_,rfl⟩
   have hC1l:C1.length=n*S.sz k-j*S.sz k:=by rw[hC,hC1];simp;omega
   have hC1g:∀q,q<n*S.sz k-j*S.sz k→C1[q]?=L[j*S.sz k+q]?:=fun q hq=>by rw[hC,hC1,List.getElem?_drop,List.getElem?_take,if_pos (by omega)]
   have hij':i*S.sz k≤j*S.sz k:=Nat.mul_le_mul_right _ (by omega)
   have hm:(i+(n-j))*S.sz k=i*S.sz k+(n*S.sz k-j*S.sz k):=by rw[Nat.add_mul,Nat.sub_mul]
   have hz2:(j-i)*S.sz k=j*S.sz k-i*S.sz k:=by rw[Nat.sub_mul]
   refine (W.som hlt hj hnc hb hLl (by rw[←hn];exact hone1)).mono (fun e w' he=>?_)
   obtain ⟨rfl,M0,zs,hzl,rfl⟩:=he
   rw[←hn,←hC]
   have l1:(Go.splice L (i*S.sz k) C1).length=L.length:=length_splice _ _ _ (by omega)
   have l2:(Go.splice (Go.splice L (i*S.sz k) C1) ((i+(n-j))*S.sz k) zs).length=L.length:=by rw[length_splice _ _ _ (by omega),l1]
   generalize hM:Go.splice (Go.splice L (i*S.sz k) C1) ((i+(n-j))*S.sz k) zs=M at l2 ⊢
   have hMg:∀p,p<(i+(n-j))*S.sz k→M[p]?=if p<i*S.sz k then L[p]? else L[p+(j*S.sz k-i*S.sz k)]?:=fun p hp=>by
    rw[←hM,get_splice (by omega),if_neg (by omega),get_splice (by omega)]
    by_cases h:p<i*S.sz k
    ·rw[if_neg (by omega),if_pos h]
    ·rw[if_pos (by omega),if_neg h,hC1g _ (by omega)]
     congr 1;omega
   have hheap:((w.drew.setRow b M0).setRow b M.toArray).heap[b]?=some (.cells M.toArray t (0,0)):=setRow_heap _ _ _ _ _ _ (setRow_heap w.drew _ _ _ _ _ hb)
   have hoth:∀q,q≠b→((w.drew.setRow b M0).setRow b M.toArray).heap[q]?=w.heap[q]?:=fun q hq=>by rw[setRow_other _ _ _ _ hq,setRow_other _ _ _ _ hq];rfl
   have hsz:((w.drew.setRow b M0).setRow b M.toArray).heap.size=w.heap.size:=by simp only[setRow_size];rfl
   refine ⟨I,⟨by omega,rfl,rfl,rfl,fun q hq hm=>hoth q (by simpa using hm),fun _ _ h=>h,fun _ _ h=>.inl h,fun q o h=>by have:=hIw q o h;omega⟩,
    some ⟨b,0,none⟩,c,by rw[hres],by omega,.inr ⟨b,_,t,rfl,hheap,by simp[l2,hLl],.inr (by simp),hbI,?_⟩⟩
   intro q hq s d hs
   have hs':s<S.sz k:=by have:=(List.getElem?_eq_some_iff.1 hs).1;rwa [sgk.sz]at this
   rw[hres]at hq
   have hlt2:=cell_idx hs' hq
   by_cases hqi:q<i
   ·have e:(xs.take i++xs.drop j)[q]'(by omega)=xs[q]'(by omega):=by rw[List.getElem_append_left (by simp;omega)];simp
    rw[e]at hs
    obtain ⟨v,a,e2⟩:=hel' q (by omega) s d hs
    refine ⟨v,?_,dr_move sgk e2 (enc_plain sgk hs) (fun q o h=>⟨by simp only[World.cell?];rw[hoth q (fun e=>by subst e;exact hbI o h)],h⟩)⟩
    rw[←a,List.getElem?_toArray,hMg _ hlt2,if_pos (cell_idx hs' hqi)]
   ·have e:(xs.take i++xs.drop j)[q]'(by omega)=xs[q+(j-i)]'(by omega):=by
     have hl:(xs.take i).length=i:=by simp;omega
     rw[List.getElem_append_right (by omega)]
     simp only[hl,List.getElem_drop]
     congr 1;omega
    rw[e]at hs
    obtain ⟨v,a,e2⟩:=hel' (q+(j-i)) (by omega) s d hs
    refine ⟨v,?_,dr_move sgk e2 (enc_plain sgk hs) (fun q o h=>⟨by simp only[World.cell?];rw[hoth q (fun e=>by subst e;exact hbI o h)],h⟩)⟩
    have hqz:i*S.sz k≤q*S.sz k:=Nat.mul_le_mul_right _ (by omega)
    rw[←a,List.getElem?_toArray,hMg _ hlt2,if_neg (by omega)]
    congr 1
    rw[Nat.add_mul,hz2];omega
theorem con_delO (sgk:SgOk S) {f:Nat} {fn:Func} {code:Code} (fok:FnOk P f fn code) (hmd:S.md f=.cons) {k:κ} (W:DelOk P f (S.sz k))
 {xs r:List (El k)} {i j:Int} {ds:List (D κ El)} (hwl:WL ds [.lst k xs,.int .i64 i,.int .i64 j]) (hr:deleteO xs i j=some r):Con P S f ds [] (.lst k r) []:=by
 unfold deleteO at hr
 rw[cond_eq]at hr
 split at hr
 ·rename_i h
  simp only[Bool.and_eq_true,decide_eq_true_eq]at h
  cases hr
  obtain ⟨n,rfl⟩:=Int.eq_ofNat_of_zero_le h.1.1.1
  obtain ⟨m,rfl⟩:=Int.eq_ofNat_of_zero_le (Int.le_trans h.1.1.1 h.1.1.2)
  exact con_del sgk fok hmd W (i:=n) (j:=m) (by omega) (by omega) hwl
 ·cases hr
end
end Go.Proofs.YtdahfgialanmpaaGreatDoor.Ev
namespace Go.Proofs.YtdahfgialanmpaaGreatDoor.Ev
open Go
def badC (c:Nat):Bool:=decide (c<32)||(decide (127≤c)&&decide (c≤159))||decide (65535<c)
theorem badC_iff {c:Nat}:badC c=true↔c<32∨(127≤c∧c≤159)∨65535<c:=by
 unfold badC;simp only[Bool.or_eq_true,Bool.and_eq_true,decide_eq_true_eq];omega
theorem getD1 {a:UInt8} {r:List UInt8} {k:Nat}:(a::r).getD (k+1) 0=r.getD k 0:=by simp[List.getD]
set_option maxHeartbeats 2000000 in
theorem dcd_decode {l:List UInt8} (hl:l≠[]):dcd l=if ((Lib.decodeL l).1=65533∧(Lib.decodeL l).2=1)∨badC (Lib.decodeL l).1=true then (0,0) else Lib.decodeL l:=by
 cases l with
 |nil=>exact absurd rfl hl
 |cons a r=>
  rw[Lib.decodeL_N]
  have ha:=a.toNat_lt
  simp only[badC_iff]
  rcases r with _|⟨b,_|⟨c,_|⟨d,r⟩⟩⟩
  ·simp only[List.getD_cons_zero,List.getD_cons_succ,List.getD_nil,List.length_cons,List.length_nil]
   obtain ⟨X,hX⟩:∃X,Lib.decodeN (0+1) a.toNat (0:UInt8).toNat (0:UInt8).toNat (0:UInt8).toNat=X:=⟨_,rfl⟩
   rw[hX]
   unfold Lib.decodeN at hX
   unfold dcd
   dsimp only
   split at hX
   ·subst hX
    repeat' split
    all_goals first|with_reducible rfl|(exfalso;omega)
   ·rw[if_neg (by omega),if_neg (by omega),if_neg (by omega)]at hX
    subst hX
    repeat' split
    all_goals first|with_reducible rfl|(exfalso;omega)
  ·simp only[List.getD_cons_zero,List.getD_cons_succ,List.getD_nil,List.length_cons,List.length_nil]
   have hb:=b.toNat_lt
   obtain ⟨X,hX⟩:∃X,Lib.decodeN (0+1+1) a.toNat b.toNat (0:UInt8).toNat (0:UInt8).toNat=X:=⟨_,rfl⟩
   rw[hX]
   unfold Lib.decodeN at hX
   unfold dcd
   dsimp only
   repeat' split at hX
   all_goals subst hX
   all_goals dsimp only
   all_goals repeat' split
   all_goals first|with_reducible rfl|(exfalso;omega)|(simp only[Prod.mk.injEq,and_true];omega)
  ·simp only[List.getD_cons_zero,List.getD_cons_succ,List.getD_nil,List.length_cons,List.length_nil]
   have hb:=b.toNat_lt
   have hc:=c.toNat_lt
   obtain ⟨X,hX⟩:∃X,Lib.decodeN (0+1+1+1) a.toNat b.toNat c.toNat (0:UInt8).toNat=X:=⟨_,rfl⟩
   rw[hX]
   unfold Lib.decodeN at hX
   unfold dcd
   dsimp only
   repeat' split at hX
   all_goals subst hX
   all_goals dsimp only
   all_goals repeat' split
   all_goals first|with_reducible rfl|(exfalso;omega)|(simp only[Prod.mk.injEq,and_true];omega)
  ·simp only[List.getD_cons_zero,List.getD_cons_succ,List.getD_nil,List.length_cons,List.length_nil]
   have hb:=b.toNat_lt
   have hc:=c.toNat_lt
   have hd:=d.toNat_lt
   obtain ⟨X,hX⟩:∃X,Lib.decodeN (r.length+1+1+1+1) a.toNat b.toNat c.toNat d.toNat=X:=⟨_,rfl⟩
   rw[hX]
   unfold Lib.decodeN at hX
   unfold dcd
   dsimp only
   repeat' split at hX
   all_goals subst hX
   all_goals dsimp only
   all_goals repeat' split
   all_goals first|with_reducible rfl|(exfalso;omega)|(simp only[Prod.mk.injEq,and_true];omega)
def okN:Nat→List UInt8→Bool
 |0,_=>true
 |n+1,l=>if l=[] then true else if badC (Lib.decodeL l).1 then false else okN n (l.drop (Lib.decodeL l).2)
theorem decodeL_pos {l:List UInt8} (hl:l≠[]):1≤(Lib.decodeL l).2∧(Lib.decodeL l).2≤l.length:=by
 cases l with
 |nil=>exact absurd rfl hl
 |cons a r=>
  rw[Lib.decodeL_N]
  unfold Lib.decodeN
  have:1≤(a::r).length:=by simp
  repeat' split
  all_goals simp only
  all_goals omega
theorem vldN_eq:∀(n:Nat) (l:List UInt8),vldN n l=(Lib.validGoD n l&&okN n l):=by
 intro n
 induction n with
 |zero=>intro l;rfl
 |succ n ih=>
  intro l
  simp only[vldN,Lib.validGoD,okN]
  by_cases hl:l=[]
  ·simp[hl]
  ·simp only[hl,if_false]
   rw[dcd_decode hl]
   by_cases h1:(Lib.decodeL l).1=65533∧(Lib.decodeL l).2=1
   ·simp[h1]
   ·by_cases h2:badC (Lib.decodeL l).1=true
    ·simp[h2]
    ·have:=decodeL_pos hl
     have hne:¬(((Lib.decodeL l).1=65533∧(Lib.decodeL l).2=1)∨badC (Lib.decodeL l).1=true):=fun h=>h.elim h1 h2
     rw[if_neg hne,if_neg (show ¬(Lib.decodeL l).2=0 by omega),if_neg h1,if_neg h2]
     exact ih _
theorem okN_fuel:∀(n m:Nat) (l:List UInt8),l.length≤n→l.length≤m→okN n l=okN m l:=by
 intro n
 induction n with
 |zero=>intro m l h1 h2;have:l=[]:=List.length_eq_zero_iff.1 (by omega);subst this;cases m<;>simp[okN]
 |succ n ih=>
  intro m l h1 h2
  by_cases hl:l=[]
  ·subst hl;cases m<;>simp[okN]
  ·have hp:=decodeL_pos hl
   have:0<l.length:=List.length_pos_iff.2 hl
   obtain ⟨m,rfl⟩:∃k,m=k+1:=⟨m-1,by omega⟩
   simp only[okN,hl,if_false]
   split
   ·rfl
   ·exact ih m _ (by rw[List.length_drop];omega) (by rw[List.length_drop];omega)
theorem join_snoc (xs:List (List UInt8)) (y sep:List UInt8):Lib.join (xs++[y]) sep=if xs=[] then y else Lib.join xs sep++(sep++y):=by
 cases xs with
 |nil=>simp[Lib.join_one]
 |cons x xs=>
  rw[List.cons_append,Lib.join_cons,Lib.join_cons]
  simp[Lib.joinTail]
def pcs (l:List UInt8) (acc:List (Nat×Nat)):List (List UInt8):=acc.map fun x=>(l.take x.2).drop x.1
def J (l:List UInt8) (acc:List (Nat×Nat)):List UInt8:=Lib.join (pcs l acc) [32]
theorem J_nil (l:List UInt8):J l []=[]:=rfl
theorem J_snoc (l:List UInt8) (acc:List (Nat×Nat)) (a b:Nat):J l (acc++[(a,b)])=if acc=[] then (l.take b).drop a else J l acc++([32]++(l.take b).drop a):=by
 unfold J pcs
 rw[List.map_append,List.map_singleton,join_snoc]
 simp only[List.map_eq_nil_iff]
theorem J_ne {l:List UInt8}:∀{acc:List (Nat×Nat)},(∀x∈acc,x.1<x.2∧x.2≤l.length)→acc≠[]→J l acc≠[]:=by
 intro acc h hne
 obtain ⟨x,r,rfl⟩:=List.exists_cons_of_ne_nil hne
 have hx:=h x (by simp)
 unfold J pcs
 rw[List.map_cons,Lib.join_cons]
 intro e
 have:=congrArg List.length e
 simp only[List.length_append,List.length_drop,List.length_take,List.length_nil]at this
 omega
theorem cln_spans {s:ByteArray} {l:List UInt8} (hl:s.data.toList=l) (p:Nat→Bool) (hp:∀c,p c=blk c):∀(f pos:Nat) (st:Option Nat) (acc:List (Nat×Nat)) (gap:Bool),
 s.size≤pos+f→pos≤s.size→vldN f (l.drop pos)=true→(∀a,st=some a→a<pos∧gap=false)→(st=none→gap=true∨acc=[])→(∀x∈acc,x.1<x.2∧x.2≤l.length)→
 J l (Lib.closeSpans s (Lib.spansFromP p s f pos st acc))=clnN f (l.drop pos) (match st with|some a=>J l (acc++[(a,pos)])|none=>J l acc) gap:=by
 have hsz:s.size=l.length:=by rw[Lib.size_eq,hl]
 intro f
 induction f with
 |zero=>
  intro pos st acc gap h1 h2 hv hs hn hacc
  have:pos=s.size:=by omega
  subst this
  simp only[Lib.spansFromP,clnN]
  cases st with
  |none=>rfl
  |some a=>rfl
 |succ f ih=>
  intro pos st acc gap h1 h2 hv hs hn hacc
  by_cases hlt:pos<s.size
  ·have hne:l.drop pos≠[]:=by simp;omega
   have hdec:Lib.decodeL (l.drop pos)=Utf8.decode s pos:=by rw[←hl];exact Lib.decodeL_drop s pos
   have hpos:=decodeL_pos hne
   rw[List.length_drop]at hpos
   have hv2:=hv
   simp only[vldN,hne,if_false]at hv2
   have hd:=dcd_decode hne
   split at hd
   ·rw[hd]at hv2;simp at hv2
   ·rename_i hnb
    have hz:¬(dcd (l.drop pos)).2=0:=by rw[hd];omega
    rw[if_neg hz,List.drop_drop,hd,hdec]at hv2
    have hw:wid (l.drop pos)=(Utf8.decode s pos).2:=by unfold wid;rw[hd,hdec,if_neg (by rw[←hdec];omega)]
    rw[hdec]at hpos
    obtain ⟨k,hk⟩:∃k,(Utf8.decode s pos).2=k:=⟨_,rfl⟩
    rw[clnN,if_neg hne,List.drop_drop,hw,hd,hdec]
    simp only[Lib.spansFromP,hlt,if_true,hp]
    rw[hk]at hpos hv2 ⊢
    have htk:∀a,a≤pos→(l.take pos).drop a++(l.drop pos).take k=(l.take (pos+k)).drop a:=by
     intro a ha
     rw[List.take_add,List.drop_append_of_le_length (by simp;omega)]
    cases hb:blk (Utf8.decode s pos).1 with
    |true=>
     simp only[if_true]
     cases st with
     |none=>exact ih (pos+k) none acc true (by omega) (by omega) hv2 (fun a h=>by cases h) (fun _=>.inl rfl) hacc
     |some a=>
      have:=(hs a rfl).1
      exact ih (pos+k) none (acc++[(a,pos)]) true (by omega) (by omega) hv2 (fun a h=>by cases h) (fun _=>.inl rfl) (fun x hx=>by
       rcases List.mem_append.1 hx with h|h
       ·exact hacc x h
       ·simp only[List.mem_singleton]at h;subst h;exact ⟨this,by simp only;omega⟩)
    |false=>
     simp only[Bool.false_eq_true,if_false]
     cases st with
     |some a=>
      obtain ⟨ha,hg⟩:=hs a rfl
      subst hg
      rw[ih (pos+k) (some a) acc false (by omega) (by omega) hv2 (fun b h=>by cases h;exact ⟨by omega,rfl⟩) (fun h=>by cases h) hacc]
      simp only[Bool.false_and,Bool.false_eq_true,if_false]
      congr 1
      rw[J_snoc,J_snoc]
      split
      ·exact (htk a (by omega)).symm
      ·rw[←htk a (by omega)];simp
     |none=>
      rw[ih (pos+k) (some pos) acc false (by omega) (by omega) hv2 (fun b h=>by cases h;exact ⟨by omega,rfl⟩) (fun h=>by cases h) hacc]
      congr 1
      dsimp only
      rw[J_snoc]
      have e:=htk pos (Nat.le_refl _)
      rw[@List.drop_eq_nil_of_le _ (l.take pos) _ (by simp;omega),List.nil_append]at e
      rcases hn rfl with hg|hacc0
      ·subst hg
       by_cases h0:acc=[]
       ·subst h0;simp[J_nil,e]
       ·have:=J_ne hacc h0
        have hb2:(J l acc==[])=false:=by simpa using this
        simp[h0,hb2,e]
      ·subst hacc0;simp[J_nil,e]
  ·have:pos=s.size:=by omega
   subst this
   have hnil:l.drop s.size=[]:=by rw[hsz];simp
   rw[Lib.spansFromP_end _ _ _ _ _ _ hlt,clnN,if_pos hnil]
   cases st with
   |none=>rfl
   |some a=>rfl
theorem cln_fields {s:ByteArray} {p:Nat→Bool} (hp:∀c,p c=blk c) (hv:vld s.data.toList=true):Lib.join ((Lib.goFieldsP p s).map (·.data.toList)) [32]=cln s.data.toList:=by
 have h:=cln_spans (s:=s) rfl p hp s.size 0 none [] false (by omega) (by omega) (by rw[List.drop_zero,Lib.size_eq];exact hv) (fun a h=>by cases h) (fun _=>.inr rfl) (fun x h=>by cases h)
 rw[List.drop_zero]at h
 have hc:cln s.data.toList=clnN s.size s.data.toList [] false:=by unfold cln;rw[Lib.size_eq]
 rw[hc]
 refine Eq.trans ?_ h
 unfold J pcs Lib.goFieldsP Lib.spansOfP
 rw[List.map_map]
 congr 1
 refine List.map_congr_left (fun x _=>?_)
 show (s.extract x.1 x.2).data.toList=(s.data.toList.take x.2).drop x.1
 rw[Lib.extract_data,List.drop_take]
theorem spans_len (p:Nat→Bool) (s:ByteArray):∀(f pos:Nat) (st:Option Nat) (acc:List (Nat×Nat)),(Lib.spansFromP p s f pos st acc).1.length≤acc.length+f:=by
 intro f
 induction f with
 |zero=>intro pos st acc;exact Nat.le_refl _
 |succ f ih=>
  intro pos st acc
  unfold Lib.spansFromP
  split
  ·split
   ·cases st with
    |none=>exact Nat.le_trans (ih _ _ _) (by omega)
    |some a=>exact Nat.le_trans (ih _ _ _) (by simp;omega)
   ·cases st with
    |none=>exact Nat.le_trans (ih _ _ _) (by omega)
    |some a=>exact Nat.le_trans (ih _ _ _) (by omega)
  ·simp
theorem fields_len (p:Nat→Bool) (s:ByteArray):(Lib.goFieldsP p s).length≤s.size+1:=by
 have:=spans_len p s s.size 0 none []
 unfold Lib.goFieldsP Lib.spansOfP Lib.closeSpans
 rw[List.length_map]
 split
 ·rw[List.length_append];simp at this ⊢;omega
 ·simp at this;omega
theorem clnN_len:∀(n:Nat) (l out:List UInt8) (gap:Bool),(clnN n l out gap).length≤out.length+2*l.length:=by
 intro n
 induction n with
 |zero=>intro l out gap;simp[clnN]
 |succ n ih=>
  intro l out gap
  rw[clnN]
  split
  ·omega
  ·have hw:1≤wid l:=by unfold wid;split<;>omega
   have hl:0<l.length:=List.length_pos_iff.2 (by assumption)
   split
   ·have:=ih (l.drop (wid l)) out true
    rw[List.length_drop]at this
    omega
   ·have:=ih (l.drop (wid l)) ((if gap&&!(out==[]) then out++[32] else out)++l.take (wid l)) false
    rw[List.length_drop]at this
    have h2:(if gap&&!(out==[]) then out++[32] else out).length≤out.length+1:=by split<;>simp
    simp only[List.length_append,List.length_take]at this
    omega
theorem cln_len (s:ByteArray):(cln s.data.toList).length≤2*s.size:=by
 have:=clnN_len s.data.toList.length s.data.toList [] false
 rw[Lib.size_eq]
 simpa[cln]using this
end Go.Proofs.YtdahfgialanmpaaGreatDoor.Ev
namespace Go.Proofs
open Go.Shelf
def Tryz.laysValid_ren:Go.Shelf.Ren:=⟨fun|196=>296|259=>329|n=>n,fun|9=>9|4=>4|3=>3|5=>5|12=>12|119=>263|0=>0|46=>237|139=>266|138=>265|53=>261|n=>n,fun|3=>1|4=>2|n=>n⟩
theorem Tryz.laysValid:Go.Proofs.Lays.n196 Tryz.prog Tryz.laysValid_ren:={
 mixed:=by kernel_rfl
 f196:=Tryz.func296.trans (congrArg some (by kernel_rfl))
 f259:=Tryz.func329.trans (congrArg some (by kernel_rfl))
 t0:=Tryz.underlying0
 a0:=Tryz.isAgg0
 z0:=Tryz.sizeOf0
 v0:=Tryz.zeroValue0
 t3:=Tryz.underlying3
 a3:=Tryz.isAgg3
 z3:=Tryz.sizeOf3
 v3:=Tryz.zeroValue3
 t4:=Tryz.underlying4
 a4:=Tryz.isAgg4
 z4:=Tryz.sizeOf4
 v4:=Tryz.zeroValue4
 t5:=Tryz.underlying5
 a5:=Tryz.isAgg5
 z5:=Tryz.sizeOf5
 v5:=Tryz.zeroValue5
 t9:=Tryz.underlying9
 a9:=Tryz.isAgg9
 z9:=Tryz.sizeOf9
 v9:=Tryz.zeroValue9
 t12:=Tryz.underlying12
 a12:=Tryz.isAgg12
 z12:=Tryz.sizeOf12
 v12:=Tryz.zeroValue12
 t46:=Tryz.underlying237
 a46:=Tryz.isAgg237
 z46:=Tryz.sizeOf237
 v46:=Tryz.zeroValue237
 t53:=Tryz.underlying261
 a53:=Tryz.isAgg261
 z53:=Tryz.sizeOf261
 v53:=Tryz.zeroValue261
 t119:=Tryz.underlying263
 a119:=Tryz.isAgg263
 z119:=Tryz.sizeOf263
 t138:=Tryz.underlying265
 a138:=Tryz.isAgg265
 z138:=Tryz.sizeOf265
 v138:=Tryz.zeroValue265
 t139:=Tryz.underlying266
 a139:=Tryz.isAgg266
 z139:=Tryz.sizeOf266
 v139:=Tryz.zeroValue266
 g3:=by kernel_rfl
 g4:=by kernel_rfl}
def Tryz.lays156_ren:Go.Shelf.Ren:=⟨fun|156=>330|165=>346|166=>347|169=>348|240=>352|241=>353|276=>354|277=>355|n=>n,fun|31=>268|9=>9|3=>3|4=>4|0=>0|20=>20|72=>283|76=>286|70=>280|37=>281|75=>285|127=>294|164=>295|5=>5|80=>288|n=>n,fun|n=>n⟩
theorem Tryz.lays156:Go.Proofs.Lays.n156 Tryz.prog Tryz.lays156_ren:={
 mixed:=by kernel_rfl
 f156:=Tryz.func330.trans (congrArg some (by kernel_rfl))
 f165:=Tryz.func346.trans (congrArg some (by kernel_rfl))
 f166:=Tryz.func347.trans (congrArg some (by kernel_rfl))
 f169:=Tryz.func348.trans (congrArg some (by kernel_rfl))
 f240:=Tryz.func352.trans (congrArg some (by kernel_rfl))
 f241:=Tryz.func353.trans (congrArg some (by kernel_rfl))
 f276:=Tryz.func354.trans (congrArg some (by kernel_rfl))
 f277:=Tryz.func355.trans (congrArg some (by kernel_rfl))
 t0:=Tryz.underlying0
 a0:=Tryz.isAgg0
 z0:=Tryz.sizeOf0
 v0:=Tryz.zeroValue0
 t3:=Tryz.underlying3
 a3:=Tryz.isAgg3
 z3:=Tryz.sizeOf3
 v3:=Tryz.zeroValue3
 t4:=Tryz.underlying4
 a4:=Tryz.isAgg4
 z4:=Tryz.sizeOf4
 v4:=Tryz.zeroValue4
 t9:=Tryz.underlying9
 a9:=Tryz.isAgg9
 z9:=Tryz.sizeOf9
 v9:=Tryz.zeroValue9
 t20:=Tryz.underlying20
 a20:=Tryz.isAgg20
 z20:=Tryz.sizeOf20
 v20:=Tryz.zeroValue20
 t31:=Tryz.underlying268
 a31:=Tryz.isAgg268
 z31:=Tryz.sizeOf268
 v31:=Tryz.zeroValue268
 t37:=Tryz.underlying281
 a37:=Tryz.isAgg281
 z37:=Tryz.sizeOf281
 v37:=Tryz.zeroValue281
 t70:=Tryz.underlying280
 a70:=Tryz.isAgg280
 z70:=Tryz.sizeOf280
 v70:=Tryz.zeroValue280
 t72:=Tryz.underlying283
 a72:=Tryz.isAgg283
 z72:=Tryz.sizeOf283
 v72:=Tryz.zeroValue283
 t75:=Tryz.underlying285
 a75:=Tryz.isAgg285
 z75:=Tryz.sizeOf285
 v75:=Tryz.zeroValue285
 t76:=Tryz.underlying286
 a76:=Tryz.isAgg286
 z76:=Tryz.sizeOf286
 v76:=Tryz.zeroValue286
 t127:=Tryz.underlying294
 a127:=Tryz.isAgg294
 z127:=Tryz.sizeOf294
 v127:=Tryz.zeroValue294
 t164:=Tryz.underlying295
 a164:=Tryz.isAgg295
 z164:=Tryz.sizeOf295
 v164:=Tryz.zeroValue295}
theorem Tryz.Builder_Extra_156:Builder.Extra Tryz.prog Tryz.lays156_ren:={
 sizeBuilder:=by kernel_rfl
 liesBuilder:=by kernel_rfl
 t5:=Tryz.underlying5
 a5:=Tryz.isAgg5
 z5:=Tryz.sizeOf5
 v5:=Tryz.zeroValue5
 infoByte:=by kernel_rfl
 cellsByte:=by kernel_rfl
 sizeByte:=by kernel_rfl
 neB5:=by decide}
open Go.RowKit in
theorem Tryz.strings_Join (bk o c:Nat) (xs:List ByteArray) (sep:ByteArray) (w:World) (hcells:∀(j:Nat) x,xs[j]?=some x→w.cell? ⟨bk,o+j,none⟩=some (.string x)) (hbk:bk<w.heap.size) (hN:xs.length≤140737488355328) (hcap:xs.length≤c) (hlen:(Lib.join (xs.map (·.data.toList)) sep.data.toList).length≤140737488355328) :
 Calls Tryz.prog 330 #[.slice (some ⟨bk,o,none⟩) xs.length c,.string sep] w fun e w'=>e=.returned (.string ⟨(Lib.join (xs.map (·.data.toList)) sep.data.toList).toArray⟩)∧Below w.heap.size w w':=Any.strings_Join Tryz.lays156 Tryz.Builder_Extra_156 bk o c xs sep w hcells hbk hN hcap hlen
def Tryz.lays229_ren:Go.Shelf.Ren:=⟨fun|229=>331|n=>n,fun|9=>9|40=>270|31=>268|152=>289|3=>3|0=>0|4=>4|21=>21|154=>291|n=>n,fun|n=>n⟩
theorem Tryz.lays229:Go.Proofs.Lays.n229 Tryz.prog Tryz.lays229_ren:={
 mixed:=by kernel_rfl
 f229:=Tryz.func331.trans (congrArg some (by kernel_rfl))
 t0:=Tryz.underlying0
 a0:=Tryz.isAgg0
 z0:=Tryz.sizeOf0
 v0:=Tryz.zeroValue0
 t3:=Tryz.underlying3
 a3:=Tryz.isAgg3
 z3:=Tryz.sizeOf3
 v3:=Tryz.zeroValue3
 t4:=Tryz.underlying4
 a4:=Tryz.isAgg4
 z4:=Tryz.sizeOf4
 v4:=Tryz.zeroValue4
 t9:=Tryz.underlying9
 a9:=Tryz.isAgg9
 z9:=Tryz.sizeOf9
 v9:=Tryz.zeroValue9
 t21:=Tryz.underlying21
 a21:=Tryz.isAgg21
 z21:=Tryz.sizeOf21
 v21:=Tryz.zeroValue21
 t31:=Tryz.underlying268
 a31:=Tryz.isAgg268
 z31:=Tryz.sizeOf268
 v31:=Tryz.zeroValue268
 t40:=Tryz.underlying270
 a40:=Tryz.isAgg270
 z40:=Tryz.sizeOf270
 v40:=Tryz.zeroValue270
 t152:=Tryz.underlying289
 a152:=Tryz.isAgg289
 z152:=Tryz.sizeOf289
 v152:=Tryz.zeroValue289
 t154:=Tryz.underlying291
 a154:=Tryz.isAgg291
 z154:=Tryz.sizeOf291
 v154:=Tryz.zeroValue291}
open Go.RowKit Go.Lib in
theorem Tryz.strings_FieldsFunc_runes (g:Nat) (lb:Array Value) (eg:∀args w,(callFunc g args).run Tryz.prog w=.ok (.enter g args) w) (p:Nat→Bool) (s:ByteArray) (w:World) (hs:s.size≤4294967296) (hp:PredAtRunes Tryz.prog g lb p w) :
 Calls Tryz.prog 331 #[.string s,.func (.func g) #[] lb] w fun e w'=>∃A,e=.returned (.slice (some ⟨A,0,none⟩) (Lib.goFieldsP p s).length (Lib.goFieldsP p s).length)∧w.heap.size≤A∧
  w'.ownsRow w.heap.size 9 1 (.slice (some ⟨A,0,none⟩) (Lib.goFieldsP p s).length (Lib.goFieldsP p s).length) (Lib.goFieldsP p s).length ((Lib.goFieldsP p s).map Value.string)∧Below w.heap.size w w':=Any.strings_FieldsFunc_runes Tryz.lays229 g lb eg p s w hs hp (by kernel_rfl) (by kernel_rfl)
open Go.RowKit in
theorem Tryz.strings_Join_none (a:Option Addr) (c:Nat) (sep:ByteArray) (w:World) :
 Calls Tryz.prog 330 #[.slice a 0 c,.string sep] w fun e w'=>e=.returned (.string ⟨#[]⟩)∧w'=w:=Any.strings_Join_none Tryz.lays156 Tryz.Builder_Extra_156 a c sep w
end Go.Proofs
namespace Go.Proofs.YtdahfgialanmpaaGreatDoor
open Go Ev
open Go.Lib Go.RowKit
theorem ret_b {X:Ending} (b:Bool) {b':Bool} (h:X=.returned (.bool b)) (e:b=b'):X=.returned (.bool b'):=e▸h
set_option maxHeartbeats 4000000 in
set_option maxRecDepth 1000000 in
theorem valid_walk (s:ByteArray) (w:World) (hs:s.size≤1073741824) (hT:Lib.Utf8Tabs 1 2 w) :
 Calls Tryz.prog 244 #[.string s] w fun e w'=>e=.returned (.bool (vld s.data.toList))∧Below w.heap.size w w':=by
 have cV:Calls Tryz.prog 296 #[.string s] w _:=Any.utf8_ValidString Tryz.laysValid s w (by omega) hT
 have hvl:vld s.data.toList=(Lib.validD s.data.toList&&okN s.size s.data.toList):=by rw[Lib.size_eq];exact vldN_eq _ _
 rw[hvl]
 clear hvl
 generalize Lib.validD s.data.toList=V at cV ⊢
 cases V with
 |false=>
  rw[Bool.false_and]
  go_enter Tryz.func244,Tryz.ntmps244
  go_wp2_with (go_at_call 296;refine cV.mono ?_;rintro e w' ⟨rfl,hb⟩)
  go_ret
  exact ⟨rfl,hb⟩
 |true=>
  rw[Bool.true_and]
  go_enter Tryz.func244,Tryz.ntmps244
  go_wp2_with (go_at_call 296;refine cV.mono ?_;rintro e w' ⟨rfl,hb⟩)
  go_loopg [4] (s.size+1) (fun gk s4 wx=>∃pos:Nat,wx.heap[w'.heap.size]?=some (.stringIter s pos)∧Below w.heap.size w wx∧
   okN gk (s.data.toList.drop pos)=okN s.size s.data.toList∧s.size≤pos+gk∧pos≤s.size)
  case atStart=>
   refine ⟨0,World.iter_heap w' s 0,hb.alloc hb.size _,?_,by omega,by omega⟩
   rw[List.drop_zero]
   exact okN_fuel _ _ _ (by rw[←Lib.size_eq];omega) (by rw[←Lib.size_eq];omega)
  case round=>
   obtain ⟨pos,hit,hbw,hok,hfu,hps⟩:=hrel
   have hdec:Lib.decodeL (s.data.toList.drop pos)=Utf8.decode s pos:=Lib.decodeL_drop s pos
   by_cases hlt:pos<s.size
   ·obtain ⟨g',rfl⟩:∃g',gk=g'+1:=⟨gk-1,by omega⟩
    have hnx:∀ty,(Instr.next (.pointer (some ⟨w'.heap.size,0,none⟩)) true ty).run Tryz.prog wr=_:=fun ty=>Lib.run_next_any_at wr w'.heap.size s pos ty hit hlt
    have hne:s.data.toList.drop pos≠[]:=by rw[Ne,List.drop_eq_nil_iff,←Lib.size_eq];omega
    have hwd:=decodeL_pos hne
    rw[hdec,List.length_drop,←Lib.size_eq]at hwd
    simp only[okN,hne,if_false,hdec,List.drop_drop]at hok
    obtain ⟨R,hR⟩:∃R,(Utf8.decode s pos).1=R:=⟨_,rfl⟩
    obtain ⟨K,hK⟩:∃K,(Utf8.decode s pos).2=K:=⟨_,rfl⟩
    rw[hR,hK]at hnx hok
    rw[hK]at hwd
    have hit2:=Lib.iterAt_heap wr w'.heap.size s pos (pos+K) hit
    have hbw2:=Lib.below_iterAt hbw (k:=w'.heap.size) hb.size s (pos+K)
    by_cases h1:R<32
    ·have hz:(R:Int)<32:=by omega
     have hb1:badC R=true:=badC_iff.2 (.inl h1)
     rw[if_pos hb1]at hok
     go_wp2
     go_ret
     first|exact ⟨rfl,hbw2⟩|exact ⟨ret_b false rfl hok,hbw2⟩
    ·have hz:¬(R:Int)<32:=by omega
     by_cases h2:127≤R
     ·have hz2:(127:Int)≤(R:Int):=by omega
      by_cases h3:R≤159
      ·have hz3:(R:Int)≤159:=by omega
       have hb1:badC R=true:=badC_iff.2 (.inr (.inl ⟨h2,h3⟩))
       rw[if_pos hb1]at hok
       go_wp2
       go_ret
       first|exact ⟨rfl,hbw2⟩|exact ⟨ret_b false rfl hok,hbw2⟩
      ·have hz3:¬(R:Int)≤159:=by omega
       by_cases h4:65535<R
       ·have hz4:(65535:Int)<(R:Int):=by omega
        have hb1:badC R=true:=badC_iff.2 (.inr (.inr h4))
        rw[if_pos hb1]at hok
        go_wp2
        go_ret
        first|exact ⟨rfl,hbw2⟩|exact ⟨ret_b false rfl hok,hbw2⟩
       ·have hz4:¬(65535:Int)<(R:Int):=by omega
        have hb1:¬badC R=true:=fun h=>by rw[badC_iff]at h;omega
        rw[if_neg hb1]at hok
        go_wp2
        go_roundg g'
        case measure=>omega
        case rel=>exact ⟨pos+K,hit2,hbw2,hok,by omega,by omega⟩
     ·have hz2:¬(127:Int)≤(R:Int):=by omega
      have hz4:¬(65535:Int)<(R:Int):=by omega
      have hb1:¬badC R=true:=fun h=>by rw[badC_iff]at h;omega
      rw[if_neg hb1]at hok
      go_wp2
      go_roundg g'
      case measure=>omega
      case rel=>exact ⟨pos+K,hit2,hbw2,hok,by omega,by omega⟩
   ·have:pos=s.size:=by omega
    subst this
    have hnx:∀ty,(Instr.next (.pointer (some ⟨w'.heap.size,0,none⟩)) true ty).run Tryz.prog wr=_:=fun ty=>Lib.run_next_end_at wr w'.heap.size s s.size ty hit hlt
    have hnil:s.data.toList.drop s.size=[]:=by rw[Lib.size_eq];simp
    have hok2:okN s.size s.data.toList=true:=by rw[←hok,hnil];cases gk<;>simp[okN]
    go_wp2
    go_ret
    first|exact ⟨rfl,hbw⟩|exact ⟨ret_b true rfl hok2.symm,hbw⟩
set_option maxRecDepth 1000000 in
theorem blank_walk (R:Nat) (hR:R≤1114111) (w:World):Calls Tryz.prog 332 #[.int .i32 (R:Int)] w fun e w'=>e=.returned (.bool (blk R))∧∃q,w'=w.drewN q:=by
 by_cases h1:R=32
 ·subst h1
  go_enter Tryz.func332,Tryz.ntmps332
  go_wp2
  go_ret
  exact ⟨rfl,0,rfl⟩
 ·have z1:¬(R:Int)=32:=by omega
  by_cases h2:R=160
  ·subst h2
   go_enter Tryz.func332,Tryz.ntmps332
   go_wp2
   go_ret
   exact ⟨rfl,0,rfl⟩
  ·have z2:¬(R:Int)=160:=by omega
   have hb:blk R=false:=by unfold blk;simp[h1,h2]
   go_enter Tryz.func332,Tryz.ntmps332
   go_wp2
   go_ret
   exact ⟨ret_b ((R:Int)==32||(R:Int)==160) rfl (by rw[hb,Bool.or_eq_false_iff];exact ⟨by simp;omega,by simp;omega⟩),0,rfl⟩
set_option maxHeartbeats 4000000 in
set_option maxRecDepth 1000000 in
theorem clean_walk (s:ByteArray) (w:World) (hs:s.size≤1073741824) (hv:vld s.data.toList=true) :
 Calls Tryz.prog 297 #[.string s] w fun e w'=>e=.returned (.string ⟨(cln s.data.toList).toArray⟩)∧Below w.heap.size w w':=by
 have eg:∀args w,(callFunc 332 args).run Tryz.prog w=.ok (.enter 332 args) w:=enters_of Tryz.func332 (by kernel_rfl) rfl
 have hp:PredAtRunes Tryz.prog 332 #[] blk w:=fun W x hx hb=>by
  exact blank_walk x hx W
 have cF:=Tryz.strings_FieldsFunc_runes 332 #[] eg blk s w (by omega) hp
 have hj:=cln_fields (s:=s) (p:=blk) (fun _=>rfl) hv
 have hlen:(cln s.data.toList).length≤2*s.size:=cln_len s
 obtain ⟨Fs,hFs⟩:∃Fs,Lib.goFieldsP blk s=Fs:=⟨_,rfl⟩
 have hfl:=fields_len blk s
 rw[hFs]at hj cF hfl
 have cJ:∀A W,Below w.heap.size w W→W.ownsRow w.heap.size 9 1 (.slice (some ⟨A,0,none⟩) Fs.length Fs.length) Fs.length (Fs.map Value.string)→
  Calls Tryz.prog 330 #[.slice (some ⟨A,0,none⟩) Fs.length Fs.length,.string ⟨#[32]⟩] W fun e w'=>e=.returned (.string ⟨(cln s.data.toList).toArray⟩)∧Below w.heap.size w w':=by
  intro A W hb hrow
  by_cases h0:Fs=[]
  ·subst h0
   have:=Tryz.strings_Join_none (some ⟨A,0,none⟩) 0 ⟨#[32]⟩ W
   refine this.mono ?_
   rintro e w' ⟨rfl,rfl⟩
   rw[←hj]
   exact ⟨rfl,hb⟩
  ·obtain ⟨-,h|⟨g,cap,cur,hv2,hbg,hh,hn,hmx,hcs,hct⟩⟩:=hrow
   ·exact absurd (List.length_eq_zero_iff.1 h.2) h0
   ·injection hv2 with e1 e2 e3
    injection e1 with e1
    injection e1 with e1
    subst e1
    have hj2:(Lib.join (Fs.map (·.data.toList)) (⟨#[32]⟩:ByteArray).data.toList)=cln s.data.toList:=hj
    have:=Tryz.strings_Join A 0 Fs.length Fs ⟨#[32]⟩ W (fun j x hx=>by
     rw[Nat.mul_one]at hct
     have hj3:j<Fs.length:=(List.getElem?_eq_some_iff.1 hx).1
     have e4:cur.toList[j]?=some (Value.string x):=by
      rw[←List.getElem?_take_of_lt hj3,hct,List.getElem?_map,hx];rfl
     rw[Array.getElem?_toList]at e4
     rw[Nat.zero_add]
     simp only[World.cell?,hh]
     exact e4) (Array.getElem?_eq_some_iff.1 hh).1 (by omega) (Nat.le_refl _) (by rw[hj2];omega)
    refine this.mono ?_
    rintro e w' ⟨rfl,hb2⟩
    rw[hj2]
    exact ⟨rfl,hb.trans (hb2.mono hb.size)⟩
 clear hj hlen hFs hfl
 go_enter Tryz.func297,Tryz.ntmps297
 go_wp2_with (first|(go_at_call 331;refine cF.mono ?_;rintro e w' ⟨A,rfl,hA,hrow,hb⟩)|(go_at_call 330;refine (cJ A _ hb hrow).mono ?_;rintro e w'' ⟨rfl,hb2⟩))
 go_ret
 exact ⟨rfl,hb2⟩
end Go.Proofs.YtdahfgialanmpaaGreatDoor
namespace Go.Proofs.YtdahfgialanmpaaGreatDoor
open Go Ev
theorem info_Item:∃i0 z,Tryz.prog.info? 43=some i0∧i0.zero=some z∧z.cells.size=10∧i0.size=10∧i0.bytes≤128:=by
 have h:(match Tryz.prog.info? 43 with|some i=>(match i.zero with|some z=>Nat.beq z.cells.size 10&&Nat.beq i.size 10&&Nat.ble i.bytes 128|none=>false)|none=>false)=true:=by kernel_rfl
 split at h
 ·rename_i i hi
  split at h
  ·rename_i z hz
   simp only[Bool.and_eq_true]at h
   exact ⟨i,z,hi,hz,Nat.eq_of_beq_eq_true h.1.1,Nat.eq_of_beq_eq_true h.1.2,Nat.le_of_ble_eq_true h.2⟩
  ·cases h
 ·cases h
set_option maxHeartbeats 4000000 in
set_option maxRecDepth 100000 in
theorem ins_Item_shift {w:World} {b n c i vb vo vc:Nat} {L vs:List Value} {t:TypeId} (hi:i<n) (hroom:n+1≤c) (hlim:n+1≤1073741824) (hvb:vb≠b)
 (hb:w.heap[b]?=some (.cells L.toArray t (0,0))) (hL:L.length=c*10) (hvl:vs.length=10)
 (hvs:∀j v,vs[j]?=some v→w.cell? ⟨vb,vo+j,none⟩=some v) (h1:∀v∈(L.drop (i*10)).take ((n-i)*10),v.oneCell'=true) (h2:∀v∈vs,v.oneCell'=true) :
 Calls Tryz.prog 82 #[.slice (some ⟨b,0,none⟩) n c,.int .i64 i,.slice (some ⟨vb,vo,none⟩) 1 vc] w fun e w'=>
  e=.returned (.slice (some ⟨b,0,none⟩) (n+1) c)∧w'=(w.drew.setRow b (Go.splice L ((i+1)*10) ((L.drop (i*10)).take ((n-i)*10))).toArray).setRow b (Go.splice (Go.splice L ((i+1)*10) ((L.drop (i*10)).take ((n-i)*10))) (i*10) vs).toArray:=by
 obtain ⟨i0,z0,hi0,hz0,hzs,hsz,hby⟩:=info_Item
 have hz2:¬((i:Int)=(n:Int)):=by omega
 have hva:∃va ta fa,w.heap[vb]?=some (.cells va ta fa)∧0<va.size:=by
  have h:=hvs 0 _ (List.getElem?_eq_getElem (by omega))
  unfold World.cell? at h
  split at h
  ·rename_i c0 t0 f0 hc0
   exact ⟨c0,t0,f0,hc0,by have:=(Array.getElem?_eq_some_iff.1 h).1;omega⟩
  ·cases h
 obtain ⟨va,ta,fa,hva,hva0⟩:=hva
 have hov:∀lb cb,(callFunc 182 #[.slice (some ⟨vb,vo,none⟩) 1 vc,.slice (some ⟨b,(i+1)*10,none⟩) lb cb]).run Tryz.prog w=.ok (.value (.bool false)) w:=fun lb cb=>by
  rw[run_callFunc_extern Tryz.func182 (by kernel_rfl) (by kernel_rfl) (by kernel_rfl) (e:=Extern.SlicesOverlaps.overlaps #[22,22] #[4]) (by kernel_rfl),
   run_overlaps_own Tryz.underlying22 hi0 (a:=⟨vb,vo,none⟩) (b:=⟨b,(i+1)*10,none⟩) hvb hva hva0 hb (by simp only[List.size_toArray];omega)]
  rfl
 have hLn:(n+1)*10≤L.length:=by rw[hL];exact Nat.mul_le_mul_right _ hroom
 obtain ⟨C1,hC1⟩:∃C1,C1=(L.drop (i*10)).take ((n-i)*10):=⟨_,rfl⟩
 have hC1l:C1.length=(n-i)*10:=by rw[hC1];simp;omega
 obtain ⟨M1,hM1⟩:∃M1,M1=Go.splice L ((i+1)*10) C1:=⟨_,rfl⟩
 have hM1l:M1.length=L.length:=by rw[hM1];exact length_splice _ _ _ (by omega)
 rw[←hC1,←hM1]
 have hcp1:∀ty dc sc,(Builtin.copy_ #[22,22] ty #[.slice (some ⟨b,(i+1)*10,none⟩) (n-i) dc,.slice (some ⟨b,i*10,none⟩) (n+1-i) sc]).run Tryz.prog w.drew=.ok (goInt ((n-i:Nat):Int)) (w.drew.setRow b M1.toArray):=fun ty dc sc=>by
  have hmin:Nat.min (n+1-i) (n-i)=n-i:=by show min _ _=_;omega
  have:=run_copy_z (P:=Tryz.prog) (w:=w.drew) (sT:=22) (ty:=ty) (dCap:=dc) (sCap:=sc) (dLen:=n-i) (sLen:=n+1-i) (o:=(i+1)*10) (a:=⟨b,i*10,none⟩) Tryz.underlying22 hi0 hsz hb (cs:=C1) (by rw[hmin];exact hC1l)
   (fun j v hj=>by
    rw[Addr.add_lit]
    show w.cell? _=_
    simp only[World.cell?,hb]
    rw[hC1,List.getElem?_take]at hj
    split at hj
    ·simpa using hj
    ·cases hj) (by omega) (by rw[hC1];exact h1)
  rw[hmin,←hM1]at this
  exact this
 have hcp2:∀(W:World),W=(w.drew.setRow b M1.toArray)→∀ty dc,(Builtin.copy_ #[22,22] ty #[.slice (some ⟨b,i*10,none⟩) (n+1-i) dc,.slice (some ⟨vb,vo,none⟩) 1 vc]).run Tryz.prog W=.ok (goInt 1) (W.setRow b (Go.splice M1 (i*10) vs).toArray):=fun W hW ty dc=>by
  have hmin:Nat.min 1 (n+1-i)=1:=by show min _ _=_;omega
  have:=run_copy_z (P:=Tryz.prog) (w:=W) (sT:=22) (ty:=ty) (dCap:=dc) (sCap:=vc) (dLen:=n+1-i) (sLen:=1) (o:=i*10) (a:=⟨vb,vo,none⟩) Tryz.underlying22 hi0 hsz (g:=b) (t:=t) (L:=M1) (by rw[hW];exact setRow_heap _ _ _ _ _ _ hb) (cs:=vs) (by rw[hmin];omega)
   (fun j v hj=>by
    rw[Addr.add_lit,hW,cell_setRow_other _ _ _ _ hvb]
    exact hvs j v hj) (by omega) h2
  rw[hmin]at this
  exact this
 have hw1:IntKind.i64.wrap ((i:Int)+1)=(i:Int)+1:=by rw[IntKind.wrap_i64];omega
 have hb1:(0:Int)≤(i:Int)+1:=by omega
 have hin:i≤n:=by omega
 have htn:((i:Int)+1).toNat=i+1:=by omega
 have hb2:¬(c=i+1):=by omega
 have hb3:(i:Int)≤(n:Int)+1:=by omega
 have hb4:¬(c=i):=by omega
 have mixed:Tryz.prog.follows .mixedOrders=true:=by kernel_rfl
 clear hC1 hM1 hC1l hM1l h1 h2 hvs hL
 go_enter Tryz.func82,Tryz.ntmps82
 go_wp2_with (simp only[hov])
 go_region_law_o (refine step_copy_z rfl _ _ 22 22 rfl _ _ (by simp[Act.eval,Act.put]) (by simp[Act.eval,Act.put]) (hcp1 _ _ _) ?_)
 go_wp2_with (at_builtin;refine wpList_bi rfl _ _ 22 22 rfl _ _ rfl rfl (hcp2 _ rfl _ _) ?_)
 go_ret
 exact ⟨rfl,rfl⟩
theorem Item_bytes {i0:TypeInfo} {k c:Nat} (h:c<k) (hk:k≤1073741824) (hby:i0.bytes≤128):Builtin.nextslicecap k c*i0.bytes≤281474976710656:=
 growslice_fits h (Nat.le_trans (Nat.mul_le_mul hk hby) (by decide))
set_option maxHeartbeats 4000000 in
set_option maxRecDepth 100000 in
theorem ins_Item_room {w:World} {b n c vb vo vc:Nat} {L vs:List Value} {t:TypeId} (hroom:n+1≤c) (hlim:n+1≤1073741824)
 (hb:w.heap[b]?=some (.cells L.toArray t (0,0))) (hL:L.length=c*10) (hvl:vs.length=10)
 (hvs:∀j v,vs[j]?=some v→w.cell? ⟨vb,vo+j,none⟩=some v) (h2:∀v∈vs,v.oneCell'=true) :
 Calls Tryz.prog 82 #[.slice (some ⟨b,0,none⟩) n c,.int .i64 n,.slice (some ⟨vb,vo,none⟩) 1 vc] w fun e w'=>
  e=.returned (.slice (some ⟨b,0,none⟩) (n+1) c)∧w'=w.setRow b (Go.splice L (n*10) vs).toArray:=by
 obtain ⟨i0,z0,hi0,hz0,hzs,hsz,hby⟩:=info_Item
 have hLn:(n+1)*10≤L.length:=by rw[hL];exact Nat.mul_le_mul_right _ hroom
 have hf:=run_firstCells_some (P:=Tryz.prog) w i0.size 1 ⟨vb,vo,none⟩ 1 vc vs (by omega) (fun j v hj=>by rw[Addr.add_lit];exact hvs j v hj)
 have hap:∀ty,(Builtin.append_ #[22,22] ty #[.slice (some ⟨b,0,none⟩) n c,.slice (some ⟨vb,vo,none⟩) 1 vc]).run Tryz.prog w=.ok (.slice (some ⟨b,0,none⟩) (n+1) c) (w.setRow b (Go.splice L (n*10) vs).toArray):=fun ty=>by
  have:=run_append_fit (P:=Tryz.prog) (w:=w) (ty:=ty) (ts:=#[22,22]) rfl rfl Tryz.underlying22 Tryz.underlying22 hi0 hf hroom hb (by simp only[List.size_toArray];rw[hsz];omega) h2
  rw[hsz]at this
  simpa[Go.splice]using this
 go_enter Tryz.func82,Tryz.ntmps82
 go_wp2_with (at_builtin;refine wpList_app rfl _ _ _ _ rfl _ _ rfl rfl (hap _) ?_)
 all_goals (go_ret;exact ⟨rfl,rfl⟩)
set_option maxHeartbeats 4000000 in
set_option maxRecDepth 100000 in
theorem ins_Item_new {w:World} {base:Option Addr} {n c vb vo vc:Nat} {olds vs:List Value} (hnc:n≤c) (hroom:c<n+1) (hlim:n+1≤1073741824) (hvl:vs.length=10)
 (hnil:base=none→n=0) (hol:olds.length=n*10) (hos:∀a,base=some a→∀j v,olds[j]?=some v→w.cell? (a.add j)=some v)
 (hvs:∀j v,vs[j]?=some v→w.cell? ⟨vb,vo+j,none⟩=some v) :
 Calls Tryz.prog 82 #[.slice base n c,.int .i64 n,.slice (some ⟨vb,vo,none⟩) 1 vc] w fun e w'=>
  ∃cap zs,e=.returned (.slice (some ⟨w.heap.size,0,none⟩) (n+1) cap)∧w'=w.drew.alloc (.cells (olds++(vs++zs)).toArray 43)∧n+1≤cap∧zs.length=(cap-(n+1))*10:=by
 obtain ⟨i0,z0,hi0,hz0,hzs,hsz,hby⟩:=info_Item
 have hf:=run_firstCells_some (P:=Tryz.prog) w.drew i0.size 1 ⟨vb,vo,none⟩ 1 vc vs (by omega) (fun j v hj=>by rw[Addr.add_lit];exact hvs j v hj)
 have hold:(Builtin.firstCells i0.size n (.slice base n c)).run Tryz.prog w.drew=.ok olds.toArray w.drew:=by
  cases base with
  |none=>
   have h0:=hnil rfl
   subst h0
   rw[List.length_eq_zero_iff.1 (by omega:olds.length=0)]
   exact run_firstCells_none w.drew _ 0 0 c
  |some a=>exact run_firstCells_some w.drew _ n a n c olds (by rw[hsz];omega) (fun j v hj=>hos a rfl j v hj)
 have hap:∀ty,(Builtin.append_ #[22,22] ty #[.slice base n c,.slice (some ⟨vb,vo,none⟩) 1 vc]).run Tryz.prog w=_:=fun ty=>
  run_append_new (P:=Tryz.prog) (w:=w) (ty:=ty) (ts:=#[22,22]) rfl rfl Tryz.underlying22 Tryz.underlying22 hi0 hz0 hf hold hroom (by omega) (Item_bytes hroom hlim hby)
 have hge:=grownCap_ge w (n+1) c 43
 obtain ⟨G,hG⟩:∃G,G=grownCap w (n+1) c 43:=⟨_,rfl⟩
 obtain ⟨zs,hzs'⟩:∃zs,zs=(Builtin.zeroCells z0.cells (G-(n+1))).toList:=⟨_,rfl⟩
 rw[←hG]at hap hge
 rw[←hzs']at hap
 have hzl:zs.length=(G-(n+1))*10:=by rw[hzs',Array.length_toList,size_zeroCells,hzs]
 clear hG hzs'
 go_enter Tryz.func82,Tryz.ntmps82
 cases base with
 |none=>
  have h0:=hnil rfl
  subst h0
  go_wp2_with (at_builtin;refine wpList_app rfl _ _ _ _ rfl _ _ rfl rfl (hap _) ?_)
  all_goals (go_ret;first|exact ⟨_,_,rfl,rfl,hge,hzl⟩|exact ⟨_,rfl,_,rfl,hge,hzl⟩)
 |some a=>
  obtain ⟨ab,ao,asp⟩:=a
  go_wp2_with (at_builtin;refine wpList_app rfl _ _ _ _ rfl _ _ rfl rfl (hap _) ?_)
  all_goals (go_ret;first|exact ⟨_,_,rfl,rfl,hge,hzl⟩|exact ⟨_,rfl,_,rfl,hge,hzl⟩)
set_option maxHeartbeats 4000000 in
set_option maxRecDepth 100000 in
theorem ins_Item_grow {w:World} {b n c i vb vo vc:Nat} {L vs:List Value} {t:TypeId} (hi:i<n) (hnc:n≤c) (hroom:c<n+1) (hlim:n+1≤1073741824) (hvb:vb≠b)
 (hb:w.heap[b]?=some (.cells L.toArray t (0,0))) (hL:L.length=c*10) (hvl:vs.length=10)
 (hvs:∀j v,vs[j]?=some v→w.cell? ⟨vb,vo+j,none⟩=some v) (h1:∀v∈(L.drop (i*10)).take ((n-i)*10),v.oneCell'=true) (h2:∀v∈vs,v.oneCell'=true) :
 Calls Tryz.prog 82 #[.slice (some ⟨b,0,none⟩) n c,.int .i64 i,.slice (some ⟨vb,vo,none⟩) 1 vc] w fun e w'=>
  ∃cap row,e=.returned (.slice (some ⟨w.heap.size,0,none⟩) (n+1) cap)∧n+1≤cap∧row.length=cap*10∧row.take (i*10)=L.take (i*10)∧
   w'.heap=(w.heap.push (.cells (Go.splice (Go.splice row (i*10) vs) ((i+1)*10) ((L.drop (i*10)).take ((n-i)*10))).toArray 43))∧w'.os=w.os∧w'.output=w.output∧w'.tape=w.tape:=by
 obtain ⟨i0,z0,hi0,hz0,hzs,hsz,hby⟩:=info_Item
 have hz2:¬((i:Int)=(n:Int)):=by omega
 have hz3:(c:Int)<(n:Int)+1:=by omega
 have hLn:n*10≤L.length:=by rw[hL];exact Nat.mul_le_mul_right _ hnc
 have hbw:b<w.heap.size:=(Array.getElem?_eq_some_iff.1 hb).1
 have hvw:vb<w.heap.size:=by
  have h:=hvs 0 _ (List.getElem?_eq_getElem (by omega))
  unfold World.cell? at h
  split at h
  ·rename_i c0 t0 f0 hc0
   exact (Array.getElem?_eq_some_iff.1 hc0).1
  ·cases h
 have hkk:(n:Int)+1-(i:Int)=((n+1-i:Nat):Int):=by omega
 have hik:i+(n+1-i)=n+1:=by omega
 have hTl:(L.take (i*10)).length=i*10:=by simp;omega
 have hold:(Builtin.firstCells i0.size i (.slice (some ⟨b,0,none⟩) i c)).run Tryz.prog w.drew=.ok (L.take (i*10)).toArray w.drew:=by
  refine run_firstCells_some w.drew _ i ⟨b,0,none⟩ i c (L.take (i*10)) (by rw[hsz];exact hTl) (fun j v hj=>?_)
  rw[Addr.add_lit,Nat.zero_add]
  show w.cell? _=_
  simp only[World.cell?,hb]
  rw[List.getElem?_take]at hj
  split at hj
  ·simpa using hj
  ·cases hj
 have hrz:∀ty,(Builtin.append_ #[22,3] ty #[.slice (some ⟨b,0,none⟩) i c,.int .i64 ((n:Int)+1-(i:Int))]).run Tryz.prog w =
  .ok (.slice (some ⟨w.heap.size,0,none⟩) (n+1) (grownCap w (n+1) c 43)) (w.drew.alloc (.cells ((L.take (i*10)).toArray++Builtin.zeroCells z0.cells (n+1-i)++Builtin.zeroCells z0.cells (grownCap w (n+1) c 43-(n+1))) 43)):=fun ty=>by
  have h:=Lib.run_append_grow_zeros w 22 3 ty 43 i0 _ .i64 .i64 Tryz.underlying22 Tryz.underlying3 hi0 hz0 (some ⟨b,0,none⟩) i c _ hold (n+1-i) (by omega) (by omega) (by omega) (by omega)
   (Nat.le_trans (Nat.mul_le_mul (show n+1-i≤1073741824 by omega) hby) (by decide)) (by rw[hik];exact Item_bytes hroom hlim hby)
  rw[hik]at h
  rw[hkk]
  exact h
 have hge:=grownCap_ge w (n+1) c 43
 obtain ⟨G,hG⟩:∃G,G=grownCap w (n+1) c 43:=⟨_,rfl⟩
 rw[←hG]at hrz hge
 have hG63:G≤9223372036854775807:=by
  have:=grownCap_le_maxLen w (n+1) c 43 (by unfold maxLen;omega)
  rw[←hG]at this
  unfold maxLen at this
  omega
 obtain ⟨R,hR⟩:∃R:List Value,R=L.take (i*10)++((Builtin.zeroCells z0.cells (n+1-i)).toList++(Builtin.zeroCells z0.cells (G-(n+1))).toList):=⟨_,rfl⟩
 have hRl:R.length=G*10:=by
  rw[hR]
  simp only[List.length_append,Array.length_toList,size_zeroCells,hzs,hTl]
  rw[←Nat.add_mul,←Nat.add_mul]
  congr 1
  omega
 have hRt:R.take (i*10)=L.take (i*10):=by rw[hR,List.take_append_of_le_length (by omega),List.take_of_length_le (by omega)]
 have hRe:(L.take (i*10)).toArray++Builtin.zeroCells z0.cells (n+1-i)++Builtin.zeroCells z0.cells (G-(n+1))=R.toArray:=by
  rw[hR];apply Array.ext';simp
 rw[hRe]at hrz
 obtain ⟨C1,hC1⟩:∃C1,C1=(L.drop (i*10)).take ((n-i)*10):=⟨_,rfl⟩
 have hC1l:C1.length=(n-i)*10:=by rw[hC1];simp;omega
 have hGn:(n+1)*10≤R.length:=by rw[hRl];exact Nat.mul_le_mul_right _ hge
 obtain ⟨M1,hM1⟩:∃M1,M1=Go.splice R (i*10) vs:=⟨_,rfl⟩
 have hM1l:M1.length=R.length:=by rw[hM1];exact length_splice _ _ _ (by omega)
 rw[←hC1]
 obtain ⟨gb,hgb⟩:∃gb,gb=w.heap.size:=⟨_,rfl⟩
 have hnew:∀W:World,W.heap=w.heap.push (.cells R.toArray 43)→W.heap[gb]?=some (.cells R.toArray 43 (0,0)):=fun W hW=>by rw[hW,hgb];simp
 have hpast:∀W:World,W.heap=w.heap.push (.cells R.toArray 43)→∀k,k<w.heap.size→W.heap[k]?=w.heap[k]?:=fun W hW k hk=>by rw[hW,Array.getElem?_push_lt hk];simp[hk]
 have hcpA:∀(W:World),W.heap=w.heap.push (.cells R.toArray 43)→∀ty dc,(Builtin.copy_ #[22,22] ty #[.slice (some ⟨gb,i*10,none⟩) (n+1-i) dc,.slice (some ⟨vb,vo,none⟩) 1 vc]).run Tryz.prog W=.ok (goInt 1) (W.setRow gb M1.toArray):=fun W hW ty dc=>by
  have hmin:Nat.min 1 (n+1-i)=1:=by show min _ _=_;omega
  have:=run_copy_z (P:=Tryz.prog) (w:=W) (sT:=22) (ty:=ty) (dCap:=dc) (sCap:=vc) (dLen:=n+1-i) (sLen:=1) (o:=i*10) (a:=⟨vb,vo,none⟩) Tryz.underlying22 hi0 hsz (g:=gb) (t:=43) (L:=R) (hnew W hW) (cs:=vs) (by rw[hmin];omega)
   (fun j v hj=>by
    rw[Addr.add_lit]
    unfold World.cell?
    rw[show W.heap[(⟨vb,vo+j,none⟩:Addr).block]?=w.heap[vb]? from hpast W hW vb hvw]
    exact hvs j v hj) (by omega) h2
  rw[hmin,←hM1]at this
  exact this
 have hcpB:∀(W W0:World),W0.heap=w.heap.push (.cells R.toArray 43)→W.heap=(W0.setRow gb M1.toArray).heap→∀ty dc sc,(Builtin.copy_ #[22,22] ty #[.slice (some ⟨gb,(i+1)*10,none⟩) (n-i) dc,.slice (some ⟨b,i*10,none⟩) (n-i) sc]).run Tryz.prog W=.ok (goInt ((n-i:Nat):Int)) (W.setRow gb (Go.splice M1 ((i+1)*10) C1).toArray):=fun W W0 hW0 hW ty dc sc=>by
  have hmin:Nat.min (n-i) (n-i)=n-i:=by show min _ _=_;omega
  have:=run_copy_z (P:=Tryz.prog) (w:=W) (sT:=22) (ty:=ty) (dCap:=dc) (sCap:=sc) (dLen:=n-i) (sLen:=n-i) (o:=(i+1)*10) (a:=⟨b,i*10,none⟩) Tryz.underlying22 hi0 hsz (g:=gb) (t:=43) (L:=M1) (by rw[hW];exact setRow_heap _ _ _ _ _ _ (hnew W0 hW0)) (cs:=C1) (by rw[hmin];exact hC1l)
   (fun j v hj=>by
    rw[Addr.add_lit]
    unfold World.cell?
    have e:W.heap[(⟨b,i*10+j,none⟩:Addr).block]?=w.heap[b]?:=by
     show W.heap[b]?=_
     rw[hW,setRow_other _ _ _ _ (by omega),hpast W0 hW0 b hbw]
    rw[e,hb]
    rw[hC1,List.getElem?_take]at hj
    split at hj
    ·simpa using hj
    ·cases hj) (by omega) (by rw[hC1];exact h1)
  rw[hmin]at this
  exact this
 have hw1:IntKind.i64.wrap ((i:Int)+1)=(i:Int)+1:=by rw[IntKind.wrap_i64];omega
 have hb1:(0:Int)≤(i:Int)+1:=by omega
 have hin:i≤n:=by omega
 have htn:((i:Int)+1).toNat=i+1:=by omega
 have hb3:(i:Int)≤(n:Int):=by omega
 have hGi:¬(G=i):=by omega
 have hGim:¬(G=i+1):=by omega
 have hci:¬(c=i):=by omega
 have hmixed:Tryz.prog.follows .mixedOrders=true:=by kernel_rfl
 have mixed:=hmixed
 have hfin:∀W W0:World,W0.heap=w.heap.push (.cells R.toArray 43)→W.heap=(W0.setRow gb M1.toArray).heap→(W.setRow gb (Go.splice M1 ((i+1)*10) C1).toArray).heap=w.heap.push (.cells (Go.splice M1 ((i+1)*10) C1).toArray 43):=fun W W0 hW0 hW=>by
  have h1:W.heap[gb]?=some (.cells M1.toArray 43 (0,0)):=by rw[hW];exact setRow_heap _ _ _ _ _ _ (hnew W0 hW0)
  have hsz0:W.heap.size=w.heap.size+1:=by rw[hW,setRow_size,hW0];simp
  apply Array.ext_getElem?
  intro k
  by_cases hk:k=gb
  ·subst hk
   rw[setRow_heap _ _ _ _ _ _ h1,hgb];simp
  ·rw[setRow_other _ _ _ _ hk]
   by_cases hk2:k<w.heap.size
   ·rw[hW,setRow_other _ _ _ _ hk,hpast W0 hW0 k hk2,Array.getElem?_push_lt hk2];simp[hk2]
   ·rw[Array.getElem?_eq_none (by omega),Array.getElem?_eq_none (by simp;omega)]
 have hMM:Go.splice (Go.splice R (i*10) vs) ((i+1)*10) C1=Go.splice M1 ((i+1)*10) C1:=by rw[hM1]
 subst hgb
 have hcpA':=hcpA ((w.alloc (.cells R.toArray 43)).drew) rfl
 clear hkk hcpA hik hold hG hR hRe hC1 hM1 hC1l hM1l h1 h2 hvs hL hTl
 go_enter Tryz.func82,Tryz.ntmps82
 go_wp2_with (at_builtin;refine wpList_app rfl _ _ _ _ rfl _ _ rfl rfl (hrz _) ?_)
 go_region_law_o (refine step_copy_z rfl _ _ 22 22 rfl (.slice (some ⟨w.heap.size,(i+1)*10,none⟩) (n-i) (G-(i+1))) (.slice (some ⟨b,i*10,none⟩) (n-i) (c-i)) (by simp[Act.eval,Act.put]) (by simp[Act.eval,Act.put]) (hcpB (((w.alloc (.cells R.toArray 43)).drew.setRow w.heap.size M1.toArray).drew) (w.drew.alloc (.cells R.toArray 43)) rfl rfl 3 (G-(i+1)) (c-i)) ?_)
 go_wp2
 go_ret
 refine ⟨G,R,rfl,hge,hRl,hRt,?_,rfl,rfl,rfl⟩
 rw[hMM]
 exact hfin _ (w.drew.alloc (.cells R.toArray 43)) rfl rfl
end Go.Proofs.YtdahfgialanmpaaGreatDoor
namespace Go.Proofs.YtdahfgialanmpaaGreatDoor
open Go Ev
theorem info_Patron:∃i0 z,Tryz.prog.info? 45=some i0∧i0.zero=some z∧z.cells.size=6∧i0.size=6∧i0.bytes≤128:=by
 have h:(match Tryz.prog.info? 45 with|some i=>(match i.zero with|some z=>Nat.beq z.cells.size 6&&Nat.beq i.size 6&&Nat.ble i.bytes 128|none=>false)|none=>false)=true:=by kernel_rfl
 split at h
 ·rename_i i hi
  split at h
  ·rename_i z hz
   simp only[Bool.and_eq_true]at h
   exact ⟨i,z,hi,hz,Nat.eq_of_beq_eq_true h.1.1,Nat.eq_of_beq_eq_true h.1.2,Nat.le_of_ble_eq_true h.2⟩
  ·cases h
 ·cases h
set_option maxHeartbeats 4000000 in
set_option maxRecDepth 100000 in
theorem ins_Patron_shift {w:World} {b n c i vb vo vc:Nat} {L vs:List Value} {t:TypeId} (hi:i<n) (hroom:n+1≤c) (hlim:n+1≤1073741824) (hvb:vb≠b)
 (hb:w.heap[b]?=some (.cells L.toArray t (0,0))) (hL:L.length=c*6) (hvl:vs.length=6)
 (hvs:∀j v,vs[j]?=some v→w.cell? ⟨vb,vo+j,none⟩=some v) (h1:∀v∈(L.drop (i*6)).take ((n-i)*6),v.oneCell'=true) (h2:∀v∈vs,v.oneCell'=true) :
 Calls Tryz.prog 188 #[.slice (some ⟨b,0,none⟩) n c,.int .i64 i,.slice (some ⟨vb,vo,none⟩) 1 vc] w fun e w'=>
  e=.returned (.slice (some ⟨b,0,none⟩) (n+1) c)∧w'=(w.drew.setRow b (Go.splice L ((i+1)*6) ((L.drop (i*6)).take ((n-i)*6))).toArray).setRow b (Go.splice (Go.splice L ((i+1)*6) ((L.drop (i*6)).take ((n-i)*6))) (i*6) vs).toArray:=by
 obtain ⟨i0,z0,hi0,hz0,hzs,hsz,hby⟩:=info_Patron
 have hz2:¬((i:Int)=(n:Int)):=by omega
 have hva:∃va ta fa,w.heap[vb]?=some (.cells va ta fa)∧0<va.size:=by
  have h:=hvs 0 _ (List.getElem?_eq_getElem (by omega))
  unfold World.cell? at h
  split at h
  ·rename_i c0 t0 f0 hc0
   exact ⟨c0,t0,f0,hc0,by have:=(Array.getElem?_eq_some_iff.1 h).1;omega⟩
  ·cases h
 obtain ⟨va,ta,fa,hva,hva0⟩:=hva
 have hov:∀lb cb,(callFunc 266 #[.slice (some ⟨vb,vo,none⟩) 1 vc,.slice (some ⟨b,(i+1)*6,none⟩) lb cb]).run Tryz.prog w=.ok (.value (.bool false)) w:=fun lb cb=>by
  rw[run_callFunc_extern Tryz.func266 (by kernel_rfl) (by kernel_rfl) (by kernel_rfl) (e:=Extern.SlicesOverlaps.overlaps #[23,23] #[4]) (by kernel_rfl),
   run_overlaps_own Tryz.underlying23 hi0 (a:=⟨vb,vo,none⟩) (b:=⟨b,(i+1)*6,none⟩) hvb hva hva0 hb (by simp only[List.size_toArray];omega)]
  rfl
 have hLn:(n+1)*6≤L.length:=by rw[hL];exact Nat.mul_le_mul_right _ hroom
 obtain ⟨C1,hC1⟩:∃C1,C1=(L.drop (i*6)).take ((n-i)*6):=⟨_,rfl⟩
 have hC1l:C1.length=(n-i)*6:=by rw[hC1];simp;omega
 obtain ⟨M1,hM1⟩:∃M1,M1=Go.splice L ((i+1)*6) C1:=⟨_,rfl⟩
 have hM1l:M1.length=L.length:=by rw[hM1];exact length_splice _ _ _ (by omega)
 rw[←hC1,←hM1]
 have hcp1:∀ty dc sc,(Builtin.copy_ #[23,23] ty #[.slice (some ⟨b,(i+1)*6,none⟩) (n-i) dc,.slice (some ⟨b,i*6,none⟩) (n+1-i) sc]).run Tryz.prog w.drew=.ok (goInt ((n-i:Nat):Int)) (w.drew.setRow b M1.toArray):=fun ty dc sc=>by
  have hmin:Nat.min (n+1-i) (n-i)=n-i:=by show min _ _=_;omega
  have:=run_copy_z (P:=Tryz.prog) (w:=w.drew) (sT:=23) (ty:=ty) (dCap:=dc) (sCap:=sc) (dLen:=n-i) (sLen:=n+1-i) (o:=(i+1)*6) (a:=⟨b,i*6,none⟩) Tryz.underlying23 hi0 hsz hb (cs:=C1) (by rw[hmin];exact hC1l)
   (fun j v hj=>by
    rw[Addr.add_lit]
    show w.cell? _=_
    simp only[World.cell?,hb]
    rw[hC1,List.getElem?_take]at hj
    split at hj
    ·simpa using hj
    ·cases hj) (by omega) (by rw[hC1];exact h1)
  rw[hmin,←hM1]at this
  exact this
 have hcp2:∀(W:World),W=(w.drew.setRow b M1.toArray)→∀ty dc,(Builtin.copy_ #[23,23] ty #[.slice (some ⟨b,i*6,none⟩) (n+1-i) dc,.slice (some ⟨vb,vo,none⟩) 1 vc]).run Tryz.prog W=.ok (goInt 1) (W.setRow b (Go.splice M1 (i*6) vs).toArray):=fun W hW ty dc=>by
  have hmin:Nat.min 1 (n+1-i)=1:=by show min _ _=_;omega
  have:=run_copy_z (P:=Tryz.prog) (w:=W) (sT:=23) (ty:=ty) (dCap:=dc) (sCap:=vc) (dLen:=n+1-i) (sLen:=1) (o:=i*6) (a:=⟨vb,vo,none⟩) Tryz.underlying23 hi0 hsz (g:=b) (t:=t) (L:=M1) (by rw[hW];exact setRow_heap _ _ _ _ _ _ hb) (cs:=vs) (by rw[hmin];omega)
   (fun j v hj=>by
    rw[Addr.add_lit,hW,cell_setRow_other _ _ _ _ hvb]
    exact hvs j v hj) (by omega) h2
  rw[hmin]at this
  exact this
 have hw1:IntKind.i64.wrap ((i:Int)+1)=(i:Int)+1:=by rw[IntKind.wrap_i64];omega
 have hb1:(0:Int)≤(i:Int)+1:=by omega
 have hin:i≤n:=by omega
 have htn:((i:Int)+1).toNat=i+1:=by omega
 have hb2:¬(c=i+1):=by omega
 have hb3:(i:Int)≤(n:Int)+1:=by omega
 have hb4:¬(c=i):=by omega
 have mixed:Tryz.prog.follows .mixedOrders=true:=by kernel_rfl
 clear hC1 hM1 hC1l hM1l h1 h2 hvs hL
 go_enter Tryz.func188,Tryz.ntmps188
 go_wp2_with (simp only[hov])
 go_region_law_o (refine step_copy_z rfl _ _ 23 23 rfl _ _ (by simp[Act.eval,Act.put]) (by simp[Act.eval,Act.put]) (hcp1 _ _ _) ?_)
 go_wp2_with (at_builtin;refine wpList_bi rfl _ _ 23 23 rfl _ _ rfl rfl (hcp2 _ rfl _ _) ?_)
 go_ret
 exact ⟨rfl,rfl⟩
theorem Patron_bytes {i0:TypeInfo} {k c:Nat} (h:c<k) (hk:k≤1073741824) (hby:i0.bytes≤128):Builtin.nextslicecap k c*i0.bytes≤281474976710656:=
 growslice_fits h (Nat.le_trans (Nat.mul_le_mul hk hby) (by decide))
set_option maxHeartbeats 4000000 in
set_option maxRecDepth 100000 in
theorem ins_Patron_room {w:World} {b n c vb vo vc:Nat} {L vs:List Value} {t:TypeId} (hroom:n+1≤c) (hlim:n+1≤1073741824)
 (hb:w.heap[b]?=some (.cells L.toArray t (0,0))) (hL:L.length=c*6) (hvl:vs.length=6)
 (hvs:∀j v,vs[j]?=some v→w.cell? ⟨vb,vo+j,none⟩=some v) (h2:∀v∈vs,v.oneCell'=true) :
 Calls Tryz.prog 188 #[.slice (some ⟨b,0,none⟩) n c,.int .i64 n,.slice (some ⟨vb,vo,none⟩) 1 vc] w fun e w'=>
  e=.returned (.slice (some ⟨b,0,none⟩) (n+1) c)∧w'=w.setRow b (Go.splice L (n*6) vs).toArray:=by
 obtain ⟨i0,z0,hi0,hz0,hzs,hsz,hby⟩:=info_Patron
 have hLn:(n+1)*6≤L.length:=by rw[hL];exact Nat.mul_le_mul_right _ hroom
 have hf:=run_firstCells_some (P:=Tryz.prog) w i0.size 1 ⟨vb,vo,none⟩ 1 vc vs (by omega) (fun j v hj=>by rw[Addr.add_lit];exact hvs j v hj)
 have hap:∀ty,(Builtin.append_ #[23,23] ty #[.slice (some ⟨b,0,none⟩) n c,.slice (some ⟨vb,vo,none⟩) 1 vc]).run Tryz.prog w=.ok (.slice (some ⟨b,0,none⟩) (n+1) c) (w.setRow b (Go.splice L (n*6) vs).toArray):=fun ty=>by
  have:=run_append_fit (P:=Tryz.prog) (w:=w) (ty:=ty) (ts:=#[23,23]) rfl rfl Tryz.underlying23 Tryz.underlying23 hi0 hf hroom hb (by simp only[List.size_toArray];rw[hsz];omega) h2
  rw[hsz]at this
  simpa[Go.splice]using this
 go_enter Tryz.func188,Tryz.ntmps188
 go_wp2_with (at_builtin;refine wpList_app rfl _ _ _ _ rfl _ _ rfl rfl (hap _) ?_)
 all_goals (go_ret;exact ⟨rfl,rfl⟩)
set_option maxHeartbeats 4000000 in
set_option maxRecDepth 100000 in
theorem ins_Patron_new {w:World} {base:Option Addr} {n c vb vo vc:Nat} {olds vs:List Value} (hnc:n≤c) (hroom:c<n+1) (hlim:n+1≤1073741824) (hvl:vs.length=6)
 (hnil:base=none→n=0) (hol:olds.length=n*6) (hos:∀a,base=some a→∀j v,olds[j]?=some v→w.cell? (a.add j)=some v)
 (hvs:∀j v,vs[j]?=some v→w.cell? ⟨vb,vo+j,none⟩=some v) :
 Calls Tryz.prog 188 #[.slice base n c,.int .i64 n,.slice (some ⟨vb,vo,none⟩) 1 vc] w fun e w'=>
  ∃cap zs,e=.returned (.slice (some ⟨w.heap.size,0,none⟩) (n+1) cap)∧w'=w.drew.alloc (.cells (olds++(vs++zs)).toArray 45)∧n+1≤cap∧zs.length=(cap-(n+1))*6:=by
 obtain ⟨i0,z0,hi0,hz0,hzs,hsz,hby⟩:=info_Patron
 have hf:=run_firstCells_some (P:=Tryz.prog) w.drew i0.size 1 ⟨vb,vo,none⟩ 1 vc vs (by omega) (fun j v hj=>by rw[Addr.add_lit];exact hvs j v hj)
 have hold:(Builtin.firstCells i0.size n (.slice base n c)).run Tryz.prog w.drew=.ok olds.toArray w.drew:=by
  cases base with
  |none=>
   have h0:=hnil rfl
   subst h0
   rw[List.length_eq_zero_iff.1 (by omega:olds.length=0)]
   exact run_firstCells_none w.drew _ 0 0 c
  |some a=>exact run_firstCells_some w.drew _ n a n c olds (by rw[hsz];omega) (fun j v hj=>hos a rfl j v hj)
 have hap:∀ty,(Builtin.append_ #[23,23] ty #[.slice base n c,.slice (some ⟨vb,vo,none⟩) 1 vc]).run Tryz.prog w=_:=fun ty=>
  run_append_new (P:=Tryz.prog) (w:=w) (ty:=ty) (ts:=#[23,23]) rfl rfl Tryz.underlying23 Tryz.underlying23 hi0 hz0 hf hold hroom (by omega) (Patron_bytes hroom hlim hby)
 have hge:=grownCap_ge w (n+1) c 45
 obtain ⟨G,hG⟩:∃G,G=grownCap w (n+1) c 45:=⟨_,rfl⟩
 obtain ⟨zs,hzs'⟩:∃zs,zs=(Builtin.zeroCells z0.cells (G-(n+1))).toList:=⟨_,rfl⟩
 rw[←hG]at hap hge
 rw[←hzs']at hap
 have hzl:zs.length=(G-(n+1))*6:=by rw[hzs',Array.length_toList,size_zeroCells,hzs]
 clear hG hzs'
 go_enter Tryz.func188,Tryz.ntmps188
 cases base with
 |none=>
  have h0:=hnil rfl
  subst h0
  go_wp2_with (at_builtin;refine wpList_app rfl _ _ _ _ rfl _ _ rfl rfl (hap _) ?_)
  all_goals (go_ret;first|exact ⟨_,_,rfl,rfl,hge,hzl⟩|exact ⟨_,rfl,_,rfl,hge,hzl⟩)
 |some a=>
  obtain ⟨ab,ao,asp⟩:=a
  go_wp2_with (at_builtin;refine wpList_app rfl _ _ _ _ rfl _ _ rfl rfl (hap _) ?_)
  all_goals (go_ret;first|exact ⟨_,_,rfl,rfl,hge,hzl⟩|exact ⟨_,rfl,_,rfl,hge,hzl⟩)
set_option maxHeartbeats 4000000 in
set_option maxRecDepth 100000 in
theorem ins_Patron_grow {w:World} {b n c i vb vo vc:Nat} {L vs:List Value} {t:TypeId} (hi:i<n) (hnc:n≤c) (hroom:c<n+1) (hlim:n+1≤1073741824) (hvb:vb≠b)
 (hb:w.heap[b]?=some (.cells L.toArray t (0,0))) (hL:L.length=c*6) (hvl:vs.length=6)
 (hvs:∀j v,vs[j]?=some v→w.cell? ⟨vb,vo+j,none⟩=some v) (h1:∀v∈(L.drop (i*6)).take ((n-i)*6),v.oneCell'=true) (h2:∀v∈vs,v.oneCell'=true) :
 Calls Tryz.prog 188 #[.slice (some ⟨b,0,none⟩) n c,.int .i64 i,.slice (some ⟨vb,vo,none⟩) 1 vc] w fun e w'=>
  ∃cap row,e=.returned (.slice (some ⟨w.heap.size,0,none⟩) (n+1) cap)∧n+1≤cap∧row.length=cap*6∧row.take (i*6)=L.take (i*6)∧
   w'.heap=(w.heap.push (.cells (Go.splice (Go.splice row (i*6) vs) ((i+1)*6) ((L.drop (i*6)).take ((n-i)*6))).toArray 45))∧w'.os=w.os∧w'.output=w.output∧w'.tape=w.tape:=by
 obtain ⟨i0,z0,hi0,hz0,hzs,hsz,hby⟩:=info_Patron
 have hz2:¬((i:Int)=(n:Int)):=by omega
 have hz3:(c:Int)<(n:Int)+1:=by omega
 have hLn:n*6≤L.length:=by rw[hL];exact Nat.mul_le_mul_right _ hnc
 have hbw:b<w.heap.size:=(Array.getElem?_eq_some_iff.1 hb).1
 have hvw:vb<w.heap.size:=by
  have h:=hvs 0 _ (List.getElem?_eq_getElem (by omega))
  unfold World.cell? at h
  split at h
  ·rename_i c0 t0 f0 hc0
   exact (Array.getElem?_eq_some_iff.1 hc0).1
  ·cases h
 have hkk:(n:Int)+1-(i:Int)=((n+1-i:Nat):Int):=by omega
 have hik:i+(n+1-i)=n+1:=by omega
 have hTl:(L.take (i*6)).length=i*6:=by simp;omega
 have hold:(Builtin.firstCells i0.size i (.slice (some ⟨b,0,none⟩) i c)).run Tryz.prog w.drew=.ok (L.take (i*6)).toArray w.drew:=by
  refine run_firstCells_some w.drew _ i ⟨b,0,none⟩ i c (L.take (i*6)) (by rw[hsz];exact hTl) (fun j v hj=>?_)
  rw[Addr.add_lit,Nat.zero_add]
  show w.cell? _=_
  simp only[World.cell?,hb]
  rw[List.getElem?_take]at hj
  split at hj
  ·simpa using hj
  ·cases hj
 have hrz:∀ty,(Builtin.append_ #[23,3] ty #[.slice (some ⟨b,0,none⟩) i c,.int .i64 ((n:Int)+1-(i:Int))]).run Tryz.prog w =
  .ok (.slice (some ⟨w.heap.size,0,none⟩) (n+1) (grownCap w (n+1) c 45)) (w.drew.alloc (.cells ((L.take (i*6)).toArray++Builtin.zeroCells z0.cells (n+1-i)++Builtin.zeroCells z0.cells (grownCap w (n+1) c 45-(n+1))) 45)):=fun ty=>by
  have h:=Lib.run_append_grow_zeros w 23 3 ty 45 i0 _ .i64 .i64 Tryz.underlying23 Tryz.underlying3 hi0 hz0 (some ⟨b,0,none⟩) i c _ hold (n+1-i) (by omega) (by omega) (by omega) (by omega)
   (Nat.le_trans (Nat.mul_le_mul (show n+1-i≤1073741824 by omega) hby) (by decide)) (by rw[hik];exact Patron_bytes hroom hlim hby)
  rw[hik]at h
  rw[hkk]
  exact h
 have hge:=grownCap_ge w (n+1) c 45
 obtain ⟨G,hG⟩:∃G,G=grownCap w (n+1) c 45:=⟨_,rfl⟩
 rw[←hG]at hrz hge
 have hG63:G≤9223372036854775807:=by
  have:=grownCap_le_maxLen w (n+1) c 45 (by unfold maxLen;omega)
  rw[←hG]at this
  unfold maxLen at this
  omega
 obtain ⟨R,hR⟩:∃R:List Value,R=L.take (i*6)++((Builtin.zeroCells z0.cells (n+1-i)).toList++(Builtin.zeroCells z0.cells (G-(n+1))).toList):=⟨_,rfl⟩
 have hRl:R.length=G*6:=by
  rw[hR]
  simp only[List.length_append,Array.length_toList,size_zeroCells,hzs,hTl]
  rw[←Nat.add_mul,←Nat.add_mul]
  congr 1
  omega
 have hRt:R.take (i*6)=L.take (i*6):=by rw[hR,List.take_append_of_le_length (by omega),List.take_of_length_le (by omega)]
 have hRe:(L.take (i*6)).toArray++Builtin.zeroCells z0.cells (n+1-i)++Builtin.zeroCells z0.cells (G-(n+1))=R.toArray:=by
  rw[hR];apply Array.ext';simp
 rw[hRe]at hrz
 obtain ⟨C1,hC1⟩:∃C1,C1=(L.drop (i*6)).take ((n-i)*6):=⟨_,rfl⟩
 have hC1l:C1.length=(n-i)*6:=by rw[hC1];simp;omega
 have hGn:(n+1)*6≤R.length:=by rw[hRl];exact Nat.mul_le_mul_right _ hge
 obtain ⟨M1,hM1⟩:∃M1,M1=Go.splice R (i*6) vs:=⟨_,rfl⟩
 have hM1l:M1.length=R.length:=by rw[hM1];exact length_splice _ _ _ (by omega)
 rw[←hC1]
 obtain ⟨gb,hgb⟩:∃gb,gb=w.heap.size:=⟨_,rfl⟩
 have hnew:∀W:World,W.heap=w.heap.push (.cells R.toArray 45)→W.heap[gb]?=some (.cells R.toArray 45 (0,0)):=fun W hW=>by rw[hW,hgb];simp
 have hpast:∀W:World,W.heap=w.heap.push (.cells R.toArray 45)→∀k,k<w.heap.size→W.heap[k]?=w.heap[k]?:=fun W hW k hk=>by rw[hW,Array.getElem?_push_lt hk];simp[hk]
 have hcpA:∀(W:World),W.heap=w.heap.push (.cells R.toArray 45)→∀ty dc,(Builtin.copy_ #[23,23] ty #[.slice (some ⟨gb,i*6,none⟩) (n+1-i) dc,.slice (some ⟨vb,vo,none⟩) 1 vc]).run Tryz.prog W=.ok (goInt 1) (W.setRow gb M1.toArray):=fun W hW ty dc=>by
  have hmin:Nat.min 1 (n+1-i)=1:=by show min _ _=_;omega
  have:=run_copy_z (P:=Tryz.prog) (w:=W) (sT:=23) (ty:=ty) (dCap:=dc) (sCap:=vc) (dLen:=n+1-i) (sLen:=1) (o:=i*6) (a:=⟨vb,vo,none⟩) Tryz.underlying23 hi0 hsz (g:=gb) (t:=45) (L:=R) (hnew W hW) (cs:=vs) (by rw[hmin];omega)
   (fun j v hj=>by
    rw[Addr.add_lit]
    unfold World.cell?
    rw[show W.heap[(⟨vb,vo+j,none⟩:Addr).block]?=w.heap[vb]? from hpast W hW vb hvw]
    exact hvs j v hj) (by omega) h2
  rw[hmin,←hM1]at this
  exact this
 have hcpB:∀(W W0:World),W0.heap=w.heap.push (.cells R.toArray 45)→W.heap=(W0.setRow gb M1.toArray).heap→∀ty dc sc,(Builtin.copy_ #[23,23] ty #[.slice (some ⟨gb,(i+1)*6,none⟩) (n-i) dc,.slice (some ⟨b,i*6,none⟩) (n-i) sc]).run Tryz.prog W=.ok (goInt ((n-i:Nat):Int)) (W.setRow gb (Go.splice M1 ((i+1)*6) C1).toArray):=fun W W0 hW0 hW ty dc sc=>by
  have hmin:Nat.min (n-i) (n-i)=n-i:=by show min _ _=_;omega
  have:=run_copy_z (P:=Tryz.prog) (w:=W) (sT:=23) (ty:=ty) (dCap:=dc) (sCap:=sc) (dLen:=n-i) (sLen:=n-i) (o:=(i+1)*6) (a:=⟨b,i*6,none⟩) Tryz.underlying23 hi0 hsz (g:=gb) (t:=45) (L:=M1) (by rw[hW];exact setRow_heap _ _ _ _ _ _ (hnew W0 hW0)) (cs:=C1) (by rw[hmin];exact hC1l)
   (fun j v hj=>by
    rw[Addr.add_lit]
    unfold World.cell?
    have e:W.heap[(⟨b,i*6+j,none⟩:Addr).block]?=w.heap[b]?:=by
     show W.heap[b]?=_
     rw[hW,setRow_other _ _ _ _ (by omega),hpast W0 hW0 b hbw]
    rw[e,hb]
    rw[hC1,List.getElem?_take]at hj
    split at hj
    ·simpa using hj
    ·cases hj) (by omega) (by rw[hC1];exact h1)
  rw[hmin]at this
  exact this
 have hw1:IntKind.i64.wrap ((i:Int)+1)=(i:Int)+1:=by rw[IntKind.wrap_i64];omega
 have hb1:(0:Int)≤(i:Int)+1:=by omega
 have hin:i≤n:=by omega
 have htn:((i:Int)+1).toNat=i+1:=by omega
 have hb3:(i:Int)≤(n:Int):=by omega
 have hGi:¬(G=i):=by omega
 have hGim:¬(G=i+1):=by omega
 have hci:¬(c=i):=by omega
 have hmixed:Tryz.prog.follows .mixedOrders=true:=by kernel_rfl
 have mixed:=hmixed
 have hfin:∀W W0:World,W0.heap=w.heap.push (.cells R.toArray 45)→W.heap=(W0.setRow gb M1.toArray).heap→(W.setRow gb (Go.splice M1 ((i+1)*6) C1).toArray).heap=w.heap.push (.cells (Go.splice M1 ((i+1)*6) C1).toArray 45):=fun W W0 hW0 hW=>by
  have h1:W.heap[gb]?=some (.cells M1.toArray 45 (0,0)):=by rw[hW];exact setRow_heap _ _ _ _ _ _ (hnew W0 hW0)
  have hsz0:W.heap.size=w.heap.size+1:=by rw[hW,setRow_size,hW0];simp
  apply Array.ext_getElem?
  intro k
  by_cases hk:k=gb
  ·subst hk
   rw[setRow_heap _ _ _ _ _ _ h1,hgb];simp
  ·rw[setRow_other _ _ _ _ hk]
   by_cases hk2:k<w.heap.size
   ·rw[hW,setRow_other _ _ _ _ hk,hpast W0 hW0 k hk2,Array.getElem?_push_lt hk2];simp[hk2]
   ·rw[Array.getElem?_eq_none (by omega),Array.getElem?_eq_none (by simp;omega)]
 have hMM:Go.splice (Go.splice R (i*6) vs) ((i+1)*6) C1=Go.splice M1 ((i+1)*6) C1:=by rw[hM1]
 subst hgb
 have hcpA':=hcpA ((w.alloc (.cells R.toArray 45)).drew) rfl
 clear hkk hcpA hik hold hG hR hRe hC1 hM1 hC1l hM1l h1 h2 hvs hL hTl
 go_enter Tryz.func188,Tryz.ntmps188
 go_wp2_with (at_builtin;refine wpList_app rfl _ _ _ _ rfl _ _ rfl rfl (hrz _) ?_)
 go_region_law_o (refine step_copy_z rfl _ _ 23 23 rfl (.slice (some ⟨w.heap.size,(i+1)*6,none⟩) (n-i) (G-(i+1))) (.slice (some ⟨b,i*6,none⟩) (n-i) (c-i)) (by simp[Act.eval,Act.put]) (by simp[Act.eval,Act.put]) (hcpB (((w.alloc (.cells R.toArray 45)).drew.setRow w.heap.size M1.toArray).drew) (w.drew.alloc (.cells R.toArray 45)) rfl rfl 3 (G-(i+1)) (c-i)) ?_)
 go_wp2
 go_ret
 refine ⟨G,R,rfl,hge,hRl,hRt,?_,rfl,rfl,rfl⟩
 rw[hMM]
 exact hfin _ (w.drew.alloc (.cells R.toArray 45)) rfl rfl
end Go.Proofs.YtdahfgialanmpaaGreatDoor
namespace Go.Proofs.YtdahfgialanmpaaGreatDoor
open Go Ev
theorem info_Loan:∃i0 z,Tryz.prog.info? 76=some i0∧i0.zero=some z∧z.cells.size=6∧i0.size=6∧i0.bytes≤128:=by
 have h:(match Tryz.prog.info? 76 with|some i=>(match i.zero with|some z=>Nat.beq z.cells.size 6&&Nat.beq i.size 6&&Nat.ble i.bytes 128|none=>false)|none=>false)=true:=by kernel_rfl
 split at h
 ·rename_i i hi
  split at h
  ·rename_i z hz
   simp only[Bool.and_eq_true]at h
   exact ⟨i,z,hi,hz,Nat.eq_of_beq_eq_true h.1.1,Nat.eq_of_beq_eq_true h.1.2,Nat.le_of_ble_eq_true h.2⟩
  ·cases h
 ·cases h
set_option maxHeartbeats 4000000 in
set_option maxRecDepth 100000 in
theorem ins_Loan_shift {w:World} {b n c i vb vo vc:Nat} {L vs:List Value} {t:TypeId} (hi:i<n) (hroom:n+1≤c) (hlim:n+1≤1073741824) (hvb:vb≠b)
 (hb:w.heap[b]?=some (.cells L.toArray t (0,0))) (hL:L.length=c*6) (hvl:vs.length=6)
 (hvs:∀j v,vs[j]?=some v→w.cell? ⟨vb,vo+j,none⟩=some v) (h1:∀v∈(L.drop (i*6)).take ((n-i)*6),v.oneCell'=true) (h2:∀v∈vs,v.oneCell'=true) :
 Calls Tryz.prog 195 #[.slice (some ⟨b,0,none⟩) n c,.int .i64 i,.slice (some ⟨vb,vo,none⟩) 1 vc] w fun e w'=>
  e=.returned (.slice (some ⟨b,0,none⟩) (n+1) c)∧w'=(w.drew.setRow b (Go.splice L ((i+1)*6) ((L.drop (i*6)).take ((n-i)*6))).toArray).setRow b (Go.splice (Go.splice L ((i+1)*6) ((L.drop (i*6)).take ((n-i)*6))) (i*6) vs).toArray:=by
 obtain ⟨i0,z0,hi0,hz0,hzs,hsz,hby⟩:=info_Loan
 have hz2:¬((i:Int)=(n:Int)):=by omega
 have hva:∃va ta fa,w.heap[vb]?=some (.cells va ta fa)∧0<va.size:=by
  have h:=hvs 0 _ (List.getElem?_eq_getElem (by omega))
  unfold World.cell? at h
  split at h
  ·rename_i c0 t0 f0 hc0
   exact ⟨c0,t0,f0,hc0,by have:=(Array.getElem?_eq_some_iff.1 h).1;omega⟩
  ·cases h
 obtain ⟨va,ta,fa,hva,hva0⟩:=hva
 have hov:∀lb cb,(callFunc 271 #[.slice (some ⟨vb,vo,none⟩) 1 vc,.slice (some ⟨b,(i+1)*6,none⟩) lb cb]).run Tryz.prog w=.ok (.value (.bool false)) w:=fun lb cb=>by
  rw[run_callFunc_extern Tryz.func271 (by kernel_rfl) (by kernel_rfl) (by kernel_rfl) (e:=Extern.SlicesOverlaps.overlaps #[24,24] #[4]) (by kernel_rfl),
   run_overlaps_own Tryz.underlying24 hi0 (a:=⟨vb,vo,none⟩) (b:=⟨b,(i+1)*6,none⟩) hvb hva hva0 hb (by simp only[List.size_toArray];omega)]
  rfl
 have hLn:(n+1)*6≤L.length:=by rw[hL];exact Nat.mul_le_mul_right _ hroom
 obtain ⟨C1,hC1⟩:∃C1,C1=(L.drop (i*6)).take ((n-i)*6):=⟨_,rfl⟩
 have hC1l:C1.length=(n-i)*6:=by rw[hC1];simp;omega
 obtain ⟨M1,hM1⟩:∃M1,M1=Go.splice L ((i+1)*6) C1:=⟨_,rfl⟩
 have hM1l:M1.length=L.length:=by rw[hM1];exact length_splice _ _ _ (by omega)
 rw[←hC1,←hM1]
 have hcp1:∀ty dc sc,(Builtin.copy_ #[24,24] ty #[.slice (some ⟨b,(i+1)*6,none⟩) (n-i) dc,.slice (some ⟨b,i*6,none⟩) (n+1-i) sc]).run Tryz.prog w.drew=.ok (goInt ((n-i:Nat):Int)) (w.drew.setRow b M1.toArray):=fun ty dc sc=>by
  have hmin:Nat.min (n+1-i) (n-i)=n-i:=by show min _ _=_;omega
  have:=run_copy_z (P:=Tryz.prog) (w:=w.drew) (sT:=24) (ty:=ty) (dCap:=dc) (sCap:=sc) (dLen:=n-i) (sLen:=n+1-i) (o:=(i+1)*6) (a:=⟨b,i*6,none⟩) Tryz.underlying24 hi0 hsz hb (cs:=C1) (by rw[hmin];exact hC1l)
   (fun j v hj=>by
    rw[Addr.add_lit]
    show w.cell? _=_
    simp only[World.cell?,hb]
    rw[hC1,List.getElem?_take]at hj
    split at hj
    ·simpa using hj
    ·cases hj) (by omega) (by rw[hC1];exact h1)
  rw[hmin,←hM1]at this
  exact this
 have hcp2:∀(W:World),W=(w.drew.setRow b M1.toArray)→∀ty dc,(Builtin.copy_ #[24,24] ty #[.slice (some ⟨b,i*6,none⟩) (n+1-i) dc,.slice (some ⟨vb,vo,none⟩) 1 vc]).run Tryz.prog W=.ok (goInt 1) (W.setRow b (Go.splice M1 (i*6) vs).toArray):=fun W hW ty dc=>by
  have hmin:Nat.min 1 (n+1-i)=1:=by show min _ _=_;omega
  have:=run_copy_z (P:=Tryz.prog) (w:=W) (sT:=24) (ty:=ty) (dCap:=dc) (sCap:=vc) (dLen:=n+1-i) (sLen:=1) (o:=i*6) (a:=⟨vb,vo,none⟩) Tryz.underlying24 hi0 hsz (g:=b) (t:=t) (L:=M1) (by rw[hW];exact setRow_heap _ _ _ _ _ _ hb) (cs:=vs) (by rw[hmin];omega)
   (fun j v hj=>by
    rw[Addr.add_lit,hW,cell_setRow_other _ _ _ _ hvb]
    exact hvs j v hj) (by omega) h2
  rw[hmin]at this
  exact this
 have hw1:IntKind.i64.wrap ((i:Int)+1)=(i:Int)+1:=by rw[IntKind.wrap_i64];omega
 have hb1:(0:Int)≤(i:Int)+1:=by omega
 have hin:i≤n:=by omega
 have htn:((i:Int)+1).toNat=i+1:=by omega
 have hb2:¬(c=i+1):=by omega
 have hb3:(i:Int)≤(n:Int)+1:=by omega
 have hb4:¬(c=i):=by omega
 have mixed:Tryz.prog.follows .mixedOrders=true:=by kernel_rfl
 clear hC1 hM1 hC1l hM1l h1 h2 hvs hL
 go_enter Tryz.func195,Tryz.ntmps195
 go_wp2_with (simp only[hov])
 go_region_law_o (refine step_copy_z rfl _ _ 24 24 rfl _ _ (by simp[Act.eval,Act.put]) (by simp[Act.eval,Act.put]) (hcp1 _ _ _) ?_)
 go_wp2_with (at_builtin;refine wpList_bi rfl _ _ 24 24 rfl _ _ rfl rfl (hcp2 _ rfl _ _) ?_)
 go_ret
 exact ⟨rfl,rfl⟩
theorem Loan_bytes {i0:TypeInfo} {k c:Nat} (h:c<k) (hk:k≤1073741824) (hby:i0.bytes≤128):Builtin.nextslicecap k c*i0.bytes≤281474976710656:=
 growslice_fits h (Nat.le_trans (Nat.mul_le_mul hk hby) (by decide))
set_option maxHeartbeats 4000000 in
set_option maxRecDepth 100000 in
theorem ins_Loan_room {w:World} {b n c vb vo vc:Nat} {L vs:List Value} {t:TypeId} (hroom:n+1≤c) (hlim:n+1≤1073741824)
 (hb:w.heap[b]?=some (.cells L.toArray t (0,0))) (hL:L.length=c*6) (hvl:vs.length=6)
 (hvs:∀j v,vs[j]?=some v→w.cell? ⟨vb,vo+j,none⟩=some v) (h2:∀v∈vs,v.oneCell'=true) :
 Calls Tryz.prog 195 #[.slice (some ⟨b,0,none⟩) n c,.int .i64 n,.slice (some ⟨vb,vo,none⟩) 1 vc] w fun e w'=>
  e=.returned (.slice (some ⟨b,0,none⟩) (n+1) c)∧w'=w.setRow b (Go.splice L (n*6) vs).toArray:=by
 obtain ⟨i0,z0,hi0,hz0,hzs,hsz,hby⟩:=info_Loan
 have hLn:(n+1)*6≤L.length:=by rw[hL];exact Nat.mul_le_mul_right _ hroom
 have hf:=run_firstCells_some (P:=Tryz.prog) w i0.size 1 ⟨vb,vo,none⟩ 1 vc vs (by omega) (fun j v hj=>by rw[Addr.add_lit];exact hvs j v hj)
 have hap:∀ty,(Builtin.append_ #[24,24] ty #[.slice (some ⟨b,0,none⟩) n c,.slice (some ⟨vb,vo,none⟩) 1 vc]).run Tryz.prog w=.ok (.slice (some ⟨b,0,none⟩) (n+1) c) (w.setRow b (Go.splice L (n*6) vs).toArray):=fun ty=>by
  have:=run_append_fit (P:=Tryz.prog) (w:=w) (ty:=ty) (ts:=#[24,24]) rfl rfl Tryz.underlying24 Tryz.underlying24 hi0 hf hroom hb (by simp only[List.size_toArray];rw[hsz];omega) h2
  rw[hsz]at this
  simpa[Go.splice]using this
 go_enter Tryz.func195,Tryz.ntmps195
 go_wp2_with (at_builtin;refine wpList_app rfl _ _ _ _ rfl _ _ rfl rfl (hap _) ?_)
 all_goals (go_ret;exact ⟨rfl,rfl⟩)
set_option maxHeartbeats 4000000 in
set_option maxRecDepth 100000 in
theorem ins_Loan_new {w:World} {base:Option Addr} {n c vb vo vc:Nat} {olds vs:List Value} (hnc:n≤c) (hroom:c<n+1) (hlim:n+1≤1073741824) (hvl:vs.length=6)
 (hnil:base=none→n=0) (hol:olds.length=n*6) (hos:∀a,base=some a→∀j v,olds[j]?=some v→w.cell? (a.add j)=some v)
 (hvs:∀j v,vs[j]?=some v→w.cell? ⟨vb,vo+j,none⟩=some v) :
 Calls Tryz.prog 195 #[.slice base n c,.int .i64 n,.slice (some ⟨vb,vo,none⟩) 1 vc] w fun e w'=>
  ∃cap zs,e=.returned (.slice (some ⟨w.heap.size,0,none⟩) (n+1) cap)∧w'=w.drew.alloc (.cells (olds++(vs++zs)).toArray 76)∧n+1≤cap∧zs.length=(cap-(n+1))*6:=by
 obtain ⟨i0,z0,hi0,hz0,hzs,hsz,hby⟩:=info_Loan
 have hf:=run_firstCells_some (P:=Tryz.prog) w.drew i0.size 1 ⟨vb,vo,none⟩ 1 vc vs (by omega) (fun j v hj=>by rw[Addr.add_lit];exact hvs j v hj)
 have hold:(Builtin.firstCells i0.size n (.slice base n c)).run Tryz.prog w.drew=.ok olds.toArray w.drew:=by
  cases base with
  |none=>
   have h0:=hnil rfl
   subst h0
   rw[List.length_eq_zero_iff.1 (by omega:olds.length=0)]
   exact run_firstCells_none w.drew _ 0 0 c
  |some a=>exact run_firstCells_some w.drew _ n a n c olds (by rw[hsz];omega) (fun j v hj=>hos a rfl j v hj)
 have hap:∀ty,(Builtin.append_ #[24,24] ty #[.slice base n c,.slice (some ⟨vb,vo,none⟩) 1 vc]).run Tryz.prog w=_:=fun ty=>
  run_append_new (P:=Tryz.prog) (w:=w) (ty:=ty) (ts:=#[24,24]) rfl rfl Tryz.underlying24 Tryz.underlying24 hi0 hz0 hf hold hroom (by omega) (Loan_bytes hroom hlim hby)
 have hge:=grownCap_ge w (n+1) c 76
 obtain ⟨G,hG⟩:∃G,G=grownCap w (n+1) c 76:=⟨_,rfl⟩
 obtain ⟨zs,hzs'⟩:∃zs,zs=(Builtin.zeroCells z0.cells (G-(n+1))).toList:=⟨_,rfl⟩
 rw[←hG]at hap hge
 rw[←hzs']at hap
 have hzl:zs.length=(G-(n+1))*6:=by rw[hzs',Array.length_toList,size_zeroCells,hzs]
 clear hG hzs'
 go_enter Tryz.func195,Tryz.ntmps195
 cases base with
 |none=>
  have h0:=hnil rfl
  subst h0
  go_wp2_with (at_builtin;refine wpList_app rfl _ _ _ _ rfl _ _ rfl rfl (hap _) ?_)
  all_goals (go_ret;first|exact ⟨_,_,rfl,rfl,hge,hzl⟩|exact ⟨_,rfl,_,rfl,hge,hzl⟩)
 |some a=>
  obtain ⟨ab,ao,asp⟩:=a
  go_wp2_with (at_builtin;refine wpList_app rfl _ _ _ _ rfl _ _ rfl rfl (hap _) ?_)
  all_goals (go_ret;first|exact ⟨_,_,rfl,rfl,hge,hzl⟩|exact ⟨_,rfl,_,rfl,hge,hzl⟩)
set_option maxHeartbeats 4000000 in
set_option maxRecDepth 100000 in
theorem ins_Loan_grow {w:World} {b n c i vb vo vc:Nat} {L vs:List Value} {t:TypeId} (hi:i<n) (hnc:n≤c) (hroom:c<n+1) (hlim:n+1≤1073741824) (hvb:vb≠b)
 (hb:w.heap[b]?=some (.cells L.toArray t (0,0))) (hL:L.length=c*6) (hvl:vs.length=6)
 (hvs:∀j v,vs[j]?=some v→w.cell? ⟨vb,vo+j,none⟩=some v) (h1:∀v∈(L.drop (i*6)).take ((n-i)*6),v.oneCell'=true) (h2:∀v∈vs,v.oneCell'=true) :
 Calls Tryz.prog 195 #[.slice (some ⟨b,0,none⟩) n c,.int .i64 i,.slice (some ⟨vb,vo,none⟩) 1 vc] w fun e w'=>
  ∃cap row,e=.returned (.slice (some ⟨w.heap.size,0,none⟩) (n+1) cap)∧n+1≤cap∧row.length=cap*6∧row.take (i*6)=L.take (i*6)∧
   w'.heap=(w.heap.push (.cells (Go.splice (Go.splice row (i*6) vs) ((i+1)*6) ((L.drop (i*6)).take ((n-i)*6))).toArray 76))∧w'.os=w.os∧w'.output=w.output∧w'.tape=w.tape:=by
 obtain ⟨i0,z0,hi0,hz0,hzs,hsz,hby⟩:=info_Loan
 have hz2:¬((i:Int)=(n:Int)):=by omega
 have hz3:(c:Int)<(n:Int)+1:=by omega
 have hLn:n*6≤L.length:=by rw[hL];exact Nat.mul_le_mul_right _ hnc
 have hbw:b<w.heap.size:=(Array.getElem?_eq_some_iff.1 hb).1
 have hvw:vb<w.heap.size:=by
  have h:=hvs 0 _ (List.getElem?_eq_getElem (by omega))
  unfold World.cell? at h
  split at h
  ·rename_i c0 t0 f0 hc0
   exact (Array.getElem?_eq_some_iff.1 hc0).1
  ·cases h
 have hkk:(n:Int)+1-(i:Int)=((n+1-i:Nat):Int):=by omega
 have hik:i+(n+1-i)=n+1:=by omega
 have hTl:(L.take (i*6)).length=i*6:=by simp;omega
 have hold:(Builtin.firstCells i0.size i (.slice (some ⟨b,0,none⟩) i c)).run Tryz.prog w.drew=.ok (L.take (i*6)).toArray w.drew:=by
  refine run_firstCells_some w.drew _ i ⟨b,0,none⟩ i c (L.take (i*6)) (by rw[hsz];exact hTl) (fun j v hj=>?_)
  rw[Addr.add_lit,Nat.zero_add]
  show w.cell? _=_
  simp only[World.cell?,hb]
  rw[List.getElem?_take]at hj
  split at hj
  ·simpa using hj
  ·cases hj
 have hrz:∀ty,(Builtin.append_ #[24,3] ty #[.slice (some ⟨b,0,none⟩) i c,.int .i64 ((n:Int)+1-(i:Int))]).run Tryz.prog w =
  .ok (.slice (some ⟨w.heap.size,0,none⟩) (n+1) (grownCap w (n+1) c 76)) (w.drew.alloc (.cells ((L.take (i*6)).toArray++Builtin.zeroCells z0.cells (n+1-i)++Builtin.zeroCells z0.cells (grownCap w (n+1) c 76-(n+1))) 76)):=fun ty=>by
  have h:=Lib.run_append_grow_zeros w 24 3 ty 76 i0 _ .i64 .i64 Tryz.underlying24 Tryz.underlying3 hi0 hz0 (some ⟨b,0,none⟩) i c _ hold (n+1-i) (by omega) (by omega) (by omega) (by omega)
   (Nat.le_trans (Nat.mul_le_mul (show n+1-i≤1073741824 by omega) hby) (by decide)) (by rw[hik];exact Loan_bytes hroom hlim hby)
  rw[hik]at h
  rw[hkk]
  exact h
 have hge:=grownCap_ge w (n+1) c 76
 obtain ⟨G,hG⟩:∃G,G=grownCap w (n+1) c 76:=⟨_,rfl⟩
 rw[←hG]at hrz hge
 have hG63:G≤9223372036854775807:=by
  have:=grownCap_le_maxLen w (n+1) c 76 (by unfold maxLen;omega)
  rw[←hG]at this
  unfold maxLen at this
  omega
 obtain ⟨R,hR⟩:∃R:List Value,R=L.take (i*6)++((Builtin.zeroCells z0.cells (n+1-i)).toList++(Builtin.zeroCells z0.cells (G-(n+1))).toList):=⟨_,rfl⟩
 have hRl:R.length=G*6:=by
  rw[hR]
  simp only[List.length_append,Array.length_toList,size_zeroCells,hzs,hTl]
  rw[←Nat.add_mul,←Nat.add_mul]
  congr 1
  omega
 have hRt:R.take (i*6)=L.take (i*6):=by rw[hR,List.take_append_of_le_length (by omega),List.take_of_length_le (by omega)]
 have hRe:(L.take (i*6)).toArray++Builtin.zeroCells z0.cells (n+1-i)++Builtin.zeroCells z0.cells (G-(n+1))=R.toArray:=by
  rw[hR];apply Array.ext';simp
 rw[hRe]at hrz
 obtain ⟨C1,hC1⟩:∃C1,C1=(L.drop (i*6)).take ((n-i)*6):=⟨_,rfl⟩
 have hC1l:C1.length=(n-i)*6:=by rw[hC1];simp;omega
 have hGn:(n+1)*6≤R.length:=by rw[hRl];exact Nat.mul_le_mul_right _ hge
 obtain ⟨M1,hM1⟩:∃M1,M1=Go.splice R (i*6) vs:=⟨_,rfl⟩
 have hM1l:M1.length=R.length:=by rw[hM1];exact length_splice _ _ _ (by omega)
 rw[←hC1]
 obtain ⟨gb,hgb⟩:∃gb,gb=w.heap.size:=⟨_,rfl⟩
 have hnew:∀W:World,W.heap=w.heap.push (.cells R.toArray 76)→W.heap[gb]?=some (.cells R.toArray 76 (0,0)):=fun W hW=>by rw[hW,hgb];simp
 have hpast:∀W:World,W.heap=w.heap.push (.cells R.toArray 76)→∀k,k<w.heap.size→W.heap[k]?=w.heap[k]?:=fun W hW k hk=>by rw[hW,Array.getElem?_push_lt hk];simp[hk]
 have hcpA:∀(W:World),W.heap=w.heap.push (.cells R.toArray 76)→∀ty dc,(Builtin.copy_ #[24,24] ty #[.slice (some ⟨gb,i*6,none⟩) (n+1-i) dc,.slice (some ⟨vb,vo,none⟩) 1 vc]).run Tryz.prog W=.ok (goInt 1) (W.setRow gb M1.toArray):=fun W hW ty dc=>by
  have hmin:Nat.min 1 (n+1-i)=1:=by show min _ _=_;omega
  have:=run_copy_z (P:=Tryz.prog) (w:=W) (sT:=24) (ty:=ty) (dCap:=dc) (sCap:=vc) (dLen:=n+1-i) (sLen:=1) (o:=i*6) (a:=⟨vb,vo,none⟩) Tryz.underlying24 hi0 hsz (g:=gb) (t:=76) (L:=R) (hnew W hW) (cs:=vs) (by rw[hmin];omega)
   (fun j v hj=>by
    rw[Addr.add_lit]
    unfold World.cell?
    rw[show W.heap[(⟨vb,vo+j,none⟩:Addr).block]?=w.heap[vb]? from hpast W hW vb hvw]
    exact hvs j v hj) (by omega) h2
  rw[hmin,←hM1]at this
  exact this
 have hcpB:∀(W W0:World),W0.heap=w.heap.push (.cells R.toArray 76)→W.heap=(W0.setRow gb M1.toArray).heap→∀ty dc sc,(Builtin.copy_ #[24,24] ty #[.slice (some ⟨gb,(i+1)*6,none⟩) (n-i) dc,.slice (some ⟨b,i*6,none⟩) (n-i) sc]).run Tryz.prog W=.ok (goInt ((n-i:Nat):Int)) (W.setRow gb (Go.splice M1 ((i+1)*6) C1).toArray):=fun W W0 hW0 hW ty dc sc=>by
  have hmin:Nat.min (n-i) (n-i)=n-i:=by show min _ _=_;omega
  have:=run_copy_z (P:=Tryz.prog) (w:=W) (sT:=24) (ty:=ty) (dCap:=dc) (sCap:=sc) (dLen:=n-i) (sLen:=n-i) (o:=(i+1)*6) (a:=⟨b,i*6,none⟩) Tryz.underlying24 hi0 hsz (g:=gb) (t:=76) (L:=M1) (by rw[hW];exact setRow_heap _ _ _ _ _ _ (hnew W0 hW0)) (cs:=C1) (by rw[hmin];exact hC1l)
   (fun j v hj=>by
    rw[Addr.add_lit]
    unfold World.cell?
    have e:W.heap[(⟨b,i*6+j,none⟩:Addr).block]?=w.heap[b]?:=by
     show W.heap[b]?=_
     rw[hW,setRow_other _ _ _ _ (by omega),hpast W0 hW0 b hbw]
    rw[e,hb]
    rw[hC1,List.getElem?_take]at hj
    split at hj
    ·simpa using hj
    ·cases hj) (by omega) (by rw[hC1];exact h1)
  rw[hmin]at this
  exact this
 have hw1:IntKind.i64.wrap ((i:Int)+1)=(i:Int)+1:=by rw[IntKind.wrap_i64];omega
 have hb1:(0:Int)≤(i:Int)+1:=by omega
 have hin:i≤n:=by omega
 have htn:((i:Int)+1).toNat=i+1:=by omega
 have hb3:(i:Int)≤(n:Int):=by omega
 have hGi:¬(G=i):=by omega
 have hGim:¬(G=i+1):=by omega
 have hci:¬(c=i):=by omega
 have hmixed:Tryz.prog.follows .mixedOrders=true:=by kernel_rfl
 have mixed:=hmixed
 have hfin:∀W W0:World,W0.heap=w.heap.push (.cells R.toArray 76)→W.heap=(W0.setRow gb M1.toArray).heap→(W.setRow gb (Go.splice M1 ((i+1)*6) C1).toArray).heap=w.heap.push (.cells (Go.splice M1 ((i+1)*6) C1).toArray 76):=fun W W0 hW0 hW=>by
  have h1:W.heap[gb]?=some (.cells M1.toArray 76 (0,0)):=by rw[hW];exact setRow_heap _ _ _ _ _ _ (hnew W0 hW0)
  have hsz0:W.heap.size=w.heap.size+1:=by rw[hW,setRow_size,hW0];simp
  apply Array.ext_getElem?
  intro k
  by_cases hk:k=gb
  ·subst hk
   rw[setRow_heap _ _ _ _ _ _ h1,hgb];simp
  ·rw[setRow_other _ _ _ _ hk]
   by_cases hk2:k<w.heap.size
   ·rw[hW,setRow_other _ _ _ _ hk,hpast W0 hW0 k hk2,Array.getElem?_push_lt hk2];simp[hk2]
   ·rw[Array.getElem?_eq_none (by omega),Array.getElem?_eq_none (by simp;omega)]
 have hMM:Go.splice (Go.splice R (i*6) vs) ((i+1)*6) C1=Go.splice M1 ((i+1)*6) C1:=by rw[hM1]
 subst hgb
 have hcpA':=hcpA ((w.alloc (.cells R.toArray 76)).drew) rfl
 clear hkk hcpA hik hold hG hR hRe hC1 hM1 hC1l hM1l h1 h2 hvs hL hTl
 go_enter Tryz.func195,Tryz.ntmps195
 go_wp2_with (at_builtin;refine wpList_app rfl _ _ _ _ rfl _ _ rfl rfl (hrz _) ?_)
 go_region_law_o (refine step_copy_z rfl _ _ 24 24 rfl (.slice (some ⟨w.heap.size,(i+1)*6,none⟩) (n-i) (G-(i+1))) (.slice (some ⟨b,i*6,none⟩) (n-i) (c-i)) (by simp[Act.eval,Act.put]) (by simp[Act.eval,Act.put]) (hcpB (((w.alloc (.cells R.toArray 76)).drew.setRow w.heap.size M1.toArray).drew) (w.drew.alloc (.cells R.toArray 76)) rfl rfl 3 (G-(i+1)) (c-i)) ?_)
 go_wp2
 go_ret
 refine ⟨G,R,rfl,hge,hRl,hRt,?_,rfl,rfl,rfl⟩
 rw[hMM]
 exact hfin _ (w.drew.alloc (.cells R.toArray 76)) rfl rfl
end Go.Proofs.YtdahfgialanmpaaGreatDoor
namespace Go.Proofs.YtdahfgialanmpaaGreatDoor
open Go Ev
theorem dinfo_Hold:∃i0 z,Tryz.prog.info? 58=some i0∧i0.zero=some z∧z.cells.size=11∧i0.size=11∧∀v∈z.cells,v.oneCell'=true:=by
 have h:(match Tryz.prog.info? 58 with|some i=>(match i.zero with|some z=>Nat.beq z.cells.size 11&&Nat.beq i.size 11&&z.cells.toList.all (·.oneCell')|none=>false)|none=>false)=true:=by kernel_rfl
 split at h
 ·rename_i i hi
  split at h
  ·rename_i z hz
   simp only[Bool.and_eq_true]at h
   exact ⟨i,z,hi,hz,Nat.eq_of_beq_eq_true h.1.1,Nat.eq_of_beq_eq_true h.1.2,fun v hv=>List.all_eq_true.1 h.2 v (by simpa using hv)⟩
  ·cases h
 ·cases h
set_option maxHeartbeats 4000000 in
set_option maxRecDepth 100000 in
theorem del_Hold_none {w:World} {base:Option Addr} {n c i:Nat} (hnc:n≤c) (hi:i≤n) :
 Calls Tryz.prog 273 #[.slice base n c,.int .i64 i,.int .i64 i] w fun e w'=>e=.returned (.slice base n c)∧w'=w:=by
 cases base with
 |none=>
  go_enter Tryz.func273,Tryz.ntmps273
  go_wp2
  all_goals (go_ret;exact ⟨rfl,rfl⟩)
 |some a=>
  obtain ⟨ab,ao,asp⟩:=a
  go_enter Tryz.func273,Tryz.ntmps273
  go_wp2
  all_goals (go_ret;exact ⟨rfl,rfl⟩)
set_option maxHeartbeats 4000000 in
set_option maxRecDepth 100000 in
theorem del_Hold_some {w:World} {b n c i j:Nat} {L:List Value} {t:TypeId} (hij:i<j) (hj:j≤n) (hnc:n≤c)
 (hb:w.heap[b]?=some (.cells L.toArray t (0,0))) (hL:L.length=c*11) (h1:∀v∈(L.drop (j*11)).take ((n-j)*11),v.oneCell'=true) :
 Calls Tryz.prog 273 #[.slice (some ⟨b,0,none⟩) n c,.int .i64 i,.int .i64 j] w fun e w'=>
  e=.returned (.slice (some ⟨b,0,none⟩) (i+(n-j)) c)∧∃(M0:Array Value) (zs:List Value),zs.length=(j-i)*11∧w'=(w.drew.setRow b M0).setRow b (Go.splice (Go.splice L (i*11) ((L.drop (j*11)).take ((n-j)*11))) ((i+(n-j))*11) zs).toArray:=by
 obtain ⟨i0,z0,hi0,hz0,hzs,hsz,hz1⟩:=dinfo_Hold
 have hLn:n*11≤L.length:=by rw[hL];exact Nat.mul_le_mul_right _ hnc
 obtain ⟨C1,hC1⟩:∃C1,C1=(L.drop (j*11)).take ((n-j)*11):=⟨_,rfl⟩
 have hC1l:C1.length=(n-j)*11:=by rw[hC1];simp;omega
 obtain ⟨M1,hM1⟩:∃M1,M1=Go.splice L (i*11) C1:=⟨_,rfl⟩
 have hM1l:M1.length=L.length:=by rw[hM1];exact length_splice _ _ _ (by omega)
 rw[←hC1,←hM1]
 obtain ⟨A,hA,hsrc⟩:∃A:Addr,(if c=j then some (⟨b,0,none⟩:Addr) else some ⟨b,j*11,none⟩)=some A∧∀q v,C1[q]?=some v→w.drew.cell? (A.add q)=some v:=by
  by_cases h:c=j
  ·refine ⟨⟨b,0,none⟩,by simp[h],fun q v hq=>?_⟩
   have:=(List.getElem?_eq_some_iff.1 hq).1
   omega
  ·refine ⟨⟨b,j*11,none⟩,by simp[h],fun q v hq=>?_⟩
   rw[Addr.add_lit]
   show w.cell? _=_
   simp only[World.cell?,hb]
   rw[hC1,List.getElem?_take]at hq
   split at hq
   ·simpa using hq
   ·cases hq
 have hf:∀xc,(Builtin.firstCells i0.size (n-j) (.slice (some A) (n-j) xc)).run Tryz.prog w.drew=.ok C1.toArray w.drew:=fun xc=>run_firstCells_some (P:=Tryz.prog) w.drew i0.size (n-j) A (n-j) xc C1 (by rw[hsz];exact hC1l) hsrc
 have hone:∀v∈C1,v.oneCell'=true:=by rw[hC1];exact h1
 have hap:∀ty xc,(Builtin.append_ #[25,25] ty #[.slice (some ⟨b,0,none⟩) i c,.slice (some A) (n-j) xc]).run Tryz.prog w.drew=.ok (.slice (some ⟨b,0,none⟩) (i+(n-j)) c) (w.drew.setRow b M1.toArray):=fun ty xc=>by
  have:=run_append_fit (P:=Tryz.prog) (w:=w.drew) (ty:=ty) (ts:=#[25,25]) rfl rfl Tryz.underlying25 Tryz.underlying25 hi0 (hf xc) (sLen:=i) (sCap:=c) (by omega) hb (by simp only[List.size_toArray];rw[hsz];omega) hone
  rw[hsz]at this
  rw[hM1]
  simpa[Go.splice]using this
 obtain ⟨zs,hzs'⟩:∃zs,zs=(Builtin.zeroCells z0.cells (j-i)).toList:=⟨_,rfl⟩
 have hzl:zs.length=(j-i)*11:=by rw[hzs',Array.length_toList,Go.size_zeroCells,hzs]
 have hcl:∀ty cc,(Builtin.clear_ #[25] ty #[.slice (some ⟨b,(i+(n-j))*11,none⟩) (n-(i+(n-j))) cc]).run Tryz.prog (w.drew.setRow b M1.toArray)=.ok (.tuple #[]) ((w.drew.setRow b M1.toArray).setRow b (Go.splice M1 ((i+(n-j))*11) zs).toArray):=fun ty cc=>by
  have e:n-(i+(n-j))=j-i:=by omega
  rw[e,hzs']
  exact run_clear_z (P:=Tryz.prog) (w:=w.drew.setRow b M1.toArray) Tryz.underlying25 hi0 hz0 (by omega) (setRow_heap _ _ _ _ _ _ hb) (by rw[hzs];omega) hz1
 have hic:i≤c:=by omega
 have hjc:j≤c:=by omega
 have mixed:Tryz.prog.follows .mixedOrders=true:=by kernel_rfl
 clear hC1 hM1 hC1l hM1l h1 hL hf hone hzs'
 go_enter Tryz.func273,Tryz.ntmps273
 go_wp2_with fail
 go_region_law_o (refine step_app_z rfl (.tmp 22) (.tmp 25) 25 25 rfl (.slice (some ⟨b,0,none⟩) i c) (.slice (some A) (n-j) (c-j)) (by simp[Act.eval,Act.put]) (by simp[Act.eval,Act.put]) (hap _ _) ?_)
 go_wp2
 go_ret
 exact ⟨rfl,_,zs,hzl,rfl⟩
end Go.Proofs.YtdahfgialanmpaaGreatDoor
namespace Go.Proofs.YtdahfgialanmpaaGreatDoor
open Go Ev
theorem dinfo_Loan:∃i0 z,Tryz.prog.info? 76=some i0∧i0.zero=some z∧z.cells.size=6∧i0.size=6∧∀v∈z.cells,v.oneCell'=true:=by
 have h:(match Tryz.prog.info? 76 with|some i=>(match i.zero with|some z=>Nat.beq z.cells.size 6&&Nat.beq i.size 6&&z.cells.toList.all (·.oneCell')|none=>false)|none=>false)=true:=by kernel_rfl
 split at h
 ·rename_i i hi
  split at h
  ·rename_i z hz
   simp only[Bool.and_eq_true]at h
   exact ⟨i,z,hi,hz,Nat.eq_of_beq_eq_true h.1.1,Nat.eq_of_beq_eq_true h.1.2,fun v hv=>List.all_eq_true.1 h.2 v (by simpa using hv)⟩
  ·cases h
 ·cases h
set_option maxHeartbeats 4000000 in
set_option maxRecDepth 100000 in
theorem del_Loan_none {w:World} {base:Option Addr} {n c i:Nat} (hnc:n≤c) (hi:i≤n) :
 Calls Tryz.prog 292 #[.slice base n c,.int .i64 i,.int .i64 i] w fun e w'=>e=.returned (.slice base n c)∧w'=w:=by
 cases base with
 |none=>
  go_enter Tryz.func292,Tryz.ntmps292
  go_wp2
  all_goals (go_ret;exact ⟨rfl,rfl⟩)
 |some a=>
  obtain ⟨ab,ao,asp⟩:=a
  go_enter Tryz.func292,Tryz.ntmps292
  go_wp2
  all_goals (go_ret;exact ⟨rfl,rfl⟩)
set_option maxHeartbeats 4000000 in
set_option maxRecDepth 100000 in
theorem del_Loan_some {w:World} {b n c i j:Nat} {L:List Value} {t:TypeId} (hij:i<j) (hj:j≤n) (hnc:n≤c)
 (hb:w.heap[b]?=some (.cells L.toArray t (0,0))) (hL:L.length=c*6) (h1:∀v∈(L.drop (j*6)).take ((n-j)*6),v.oneCell'=true) :
 Calls Tryz.prog 292 #[.slice (some ⟨b,0,none⟩) n c,.int .i64 i,.int .i64 j] w fun e w'=>
  e=.returned (.slice (some ⟨b,0,none⟩) (i+(n-j)) c)∧∃(M0:Array Value) (zs:List Value),zs.length=(j-i)*6∧w'=(w.drew.setRow b M0).setRow b (Go.splice (Go.splice L (i*6) ((L.drop (j*6)).take ((n-j)*6))) ((i+(n-j))*6) zs).toArray:=by
 obtain ⟨i0,z0,hi0,hz0,hzs,hsz,hz1⟩:=dinfo_Loan
 have hLn:n*6≤L.length:=by rw[hL];exact Nat.mul_le_mul_right _ hnc
 obtain ⟨C1,hC1⟩:∃C1,C1=(L.drop (j*6)).take ((n-j)*6):=⟨_,rfl⟩
 have hC1l:C1.length=(n-j)*6:=by rw[hC1];simp;omega
 obtain ⟨M1,hM1⟩:∃M1,M1=Go.splice L (i*6) C1:=⟨_,rfl⟩
 have hM1l:M1.length=L.length:=by rw[hM1];exact length_splice _ _ _ (by omega)
 rw[←hC1,←hM1]
 obtain ⟨A,hA,hsrc⟩:∃A:Addr,(if c=j then some (⟨b,0,none⟩:Addr) else some ⟨b,j*6,none⟩)=some A∧∀q v,C1[q]?=some v→w.drew.cell? (A.add q)=some v:=by
  by_cases h:c=j
  ·refine ⟨⟨b,0,none⟩,by simp[h],fun q v hq=>?_⟩
   have:=(List.getElem?_eq_some_iff.1 hq).1
   omega
  ·refine ⟨⟨b,j*6,none⟩,by simp[h],fun q v hq=>?_⟩
   rw[Addr.add_lit]
   show w.cell? _=_
   simp only[World.cell?,hb]
   rw[hC1,List.getElem?_take]at hq
   split at hq
   ·simpa using hq
   ·cases hq
 have hf:∀xc,(Builtin.firstCells i0.size (n-j) (.slice (some A) (n-j) xc)).run Tryz.prog w.drew=.ok C1.toArray w.drew:=fun xc=>run_firstCells_some (P:=Tryz.prog) w.drew i0.size (n-j) A (n-j) xc C1 (by rw[hsz];exact hC1l) hsrc
 have hone:∀v∈C1,v.oneCell'=true:=by rw[hC1];exact h1
 have hap:∀ty xc,(Builtin.append_ #[24,24] ty #[.slice (some ⟨b,0,none⟩) i c,.slice (some A) (n-j) xc]).run Tryz.prog w.drew=.ok (.slice (some ⟨b,0,none⟩) (i+(n-j)) c) (w.drew.setRow b M1.toArray):=fun ty xc=>by
  have:=run_append_fit (P:=Tryz.prog) (w:=w.drew) (ty:=ty) (ts:=#[24,24]) rfl rfl Tryz.underlying24 Tryz.underlying24 hi0 (hf xc) (sLen:=i) (sCap:=c) (by omega) hb (by simp only[List.size_toArray];rw[hsz];omega) hone
  rw[hsz]at this
  rw[hM1]
  simpa[Go.splice]using this
 obtain ⟨zs,hzs'⟩:∃zs,zs=(Builtin.zeroCells z0.cells (j-i)).toList:=⟨_,rfl⟩
 have hzl:zs.length=(j-i)*6:=by rw[hzs',Array.length_toList,Go.size_zeroCells,hzs]
 have hcl:∀ty cc,(Builtin.clear_ #[24] ty #[.slice (some ⟨b,(i+(n-j))*6,none⟩) (n-(i+(n-j))) cc]).run Tryz.prog (w.drew.setRow b M1.toArray)=.ok (.tuple #[]) ((w.drew.setRow b M1.toArray).setRow b (Go.splice M1 ((i+(n-j))*6) zs).toArray):=fun ty cc=>by
  have e:n-(i+(n-j))=j-i:=by omega
  rw[e,hzs']
  exact run_clear_z (P:=Tryz.prog) (w:=w.drew.setRow b M1.toArray) Tryz.underlying24 hi0 hz0 (by omega) (setRow_heap _ _ _ _ _ _ hb) (by rw[hzs];omega) hz1
 have hic:i≤c:=by omega
 have hjc:j≤c:=by omega
 have mixed:Tryz.prog.follows .mixedOrders=true:=by kernel_rfl
 clear hC1 hM1 hC1l hM1l h1 hL hf hone hzs'
 go_enter Tryz.func292,Tryz.ntmps292
 go_wp2_with fail
 go_region_law_o (refine step_app_z rfl (.tmp 22) (.tmp 25) 24 24 rfl (.slice (some ⟨b,0,none⟩) i c) (.slice (some A) (n-j) (c-j)) (by simp[Act.eval,Act.put]) (by simp[Act.eval,Act.put]) (hap _ _) ?_)
 go_wp2
 go_ret
 exact ⟨rfl,_,zs,hzl,rfl⟩
end Go.Proofs.YtdahfgialanmpaaGreatDoor
namespace Go.Proofs.YtdahfgialanmpaaGreatDoor
set_option maxRecDepth 100000
open Ev
open Go
theorem fb_82:fnB Tryz.prog 82 Tryz.f82 []=true:=by kernel_rfl
theorem insOk_Item:InsOk Tryz.prog 82 (sg.sz Kd.kItem) 43:=⟨ins_Item_shift,ins_Item_room,ins_Item_new,ins_Item_grow⟩
theorem con_qfb:∀ds a r,ac_qfb.dec ds=some a→fi_qfb a=some r→Con Tryz.prog sg 82 ds [] (rc_qfb.enc r) []:=by
 intro ds a r hd hf
 obtain ⟨code,fok,-,-⟩:=fnB_spec Tryz.func82 fb_82
 have hac:CCOk ac_qfb:=CCOk.cons (CodOk.lst _) (CCOk.cons (CodOk.int _) (CCOk.cons (CodOk.lst _) CCOk.nil))
 exact con_insO good.sgk fok (by kernel_rfl) insOk_Item (hac ds a hd) hf
theorem fb_188:fnB Tryz.prog 188 Tryz.f188 []=true:=by kernel_rfl
theorem insOk_Patron:InsOk Tryz.prog 188 (sg.sz Kd.kPatron) 45:=⟨ins_Patron_shift,ins_Patron_room,ins_Patron_new,ins_Patron_grow⟩
theorem con_qe9:∀ds a r,ac_qe9.dec ds=some a→fi_qe9 a=some r→Con Tryz.prog sg 188 ds [] (rc_qe9.enc r) []:=by
 intro ds a r hd hf
 obtain ⟨code,fok,-,-⟩:=fnB_spec Tryz.func188 fb_188
 have hac:CCOk ac_qe9:=CCOk.cons (CodOk.lst _) (CCOk.cons (CodOk.int _) (CCOk.cons (CodOk.lst _) CCOk.nil))
 exact con_insO good.sgk fok (by kernel_rfl) insOk_Patron (hac ds a hd) hf
theorem fb_195:fnB Tryz.prog 195 Tryz.f195 []=true:=by kernel_rfl
theorem insOk_Loan:InsOk Tryz.prog 195 (sg.sz Kd.kLoan) 76:=⟨ins_Loan_shift,ins_Loan_room,ins_Loan_new,ins_Loan_grow⟩
theorem con_qfa:∀ds a r,ac_qfa.dec ds=some a→fi_qfa a=some r→Con Tryz.prog sg 195 ds [] (rc_qfa.enc r) []:=by
 intro ds a r hd hf
 obtain ⟨code,fok,-,-⟩:=fnB_spec Tryz.func195 fb_195
 have hac:CCOk ac_qfa:=CCOk.cons (CodOk.lst _) (CCOk.cons (CodOk.int _) (CCOk.cons (CodOk.lst _) CCOk.nil))
 exact con_insO good.sgk fok (by kernel_rfl) insOk_Loan (hac ds a hd) hf
theorem fb_273:fnB Tryz.prog 273 Tryz.f273 []=true:=by kernel_rfl
theorem delOk_Hold:DelOk Tryz.prog 273 (sg.sz Kd.kHold):=⟨del_Hold_none,del_Hold_some⟩
theorem con_qfd:∀ds a r,ac_qfd.dec ds=some a→fi_qfd a=some r→Con Tryz.prog sg 273 ds [] (rc_qfd.enc r) []:=by
 intro ds a r hd hf
 obtain ⟨code,fok,-,-⟩:=fnB_spec Tryz.func273 fb_273
 have hac:CCOk ac_qfd:=CCOk.cons (CodOk.lst _) (CCOk.cons (CodOk.int _) (CCOk.cons (CodOk.int _) CCOk.nil))
 exact con_delO good.sgk fok (by kernel_rfl) delOk_Hold (hac ds a hd) hf
theorem fb_292:fnB Tryz.prog 292 Tryz.f292 []=true:=by kernel_rfl
theorem delOk_Loan:DelOk Tryz.prog 292 (sg.sz Kd.kLoan):=⟨del_Loan_none,del_Loan_some⟩
theorem con_qfc:∀ds a r,ac_qfc.dec ds=some a→fi_qfc a=some r→Con Tryz.prog sg 292 ds [] (rc_qfc.enc r) []:=by
 intro ds a r hd hf
 obtain ⟨code,fok,-,-⟩:=fnB_spec Tryz.func292 fb_292
 have hac:CCOk ac_qfc:=CCOk.cons (CodOk.lst _) (CCOk.cons (CodOk.int _) (CCOk.cons (CodOk.int _) CCOk.nil))
 exact con_delO good.sgk fok (by kernel_rfl) delOk_Loan (hac ds a hd) hf
end Go.Proofs.YtdahfgialanmpaaGreatDoor
namespace Go.Proofs.YtdahfgialanmpaaGreatDoor
open Go Ev
open Go.Lib Go.RowKit
set_option maxRecDepth 100000
theorem tabs_of_globR {w:World} {I:Nat→Nat→Prop} (h:GlobR sg w I):Lib.Utf8Tabs 1 2 w:=by
 constructor
 ·intro c hc
  have hl:c<glob_utf8_first.length:=by simp[glob_utf8_first];exact hc
  obtain ⟨v,h1,-,h3⟩:=h 1 .ku8 glob_utf8_first (by kernel_rfl) c hl 0 (.int .u8 glob_utf8_first[c]) rfl
  rw[h3.int_inv]at h1
  have e:glob_utf8_first[c]=(Lib.firstT c:Int):=by simp[glob_utf8_first]
  rw[e]at h1
  have h1:w.cell? ⟨1,c*1+0,none⟩=_:=h1
  rw[Nat.mul_one,Nat.add_zero]at h1
  exact h1
 ·intro i hi
  have hl:i<glob_utf8_acceptRanges.length:=by simp[glob_utf8_acceptRanges];exact hi
  obtain ⟨v,h1,-,h3⟩:=h 2 .kUtf8_acceptRange glob_utf8_acceptRanges (by kernel_rfl) i hl 0 (.int .u8 glob_utf8_acceptRanges[i].lo) rfl
  obtain ⟨v',k1,-,k3⟩:=h 2 .kUtf8_acceptRange glob_utf8_acceptRanges (by kernel_rfl) i hl 1 (.int .u8 glob_utf8_acceptRanges[i].hi) rfl
  rw[h3.int_inv]at h1
  rw[k3.int_inv]at k1
  have e:glob_utf8_acceptRanges[i]=⟨(Lib.accLo i:Int),(Lib.accHi i:Int)⟩:=by simp[glob_utf8_acceptRanges]
  rw[e]at h1 k1
  have h1:w.cell? ⟨2,i*2+0,none⟩=_:=h1
  have k1:w.cell? ⟨2,i*2+1,none⟩=_:=k1
  rw[Nat.mul_comm,Nat.add_zero]at h1
  rw[Nat.mul_comm]at k1
  exact ⟨h1,k1⟩
theorem grow_below {w w':World} {I:Nat→Nat→Prop} (hi:∀b o,I b o→b<w.heap.size) (h:Below w.heap.size w w'):Grow w w' I I:=
 ⟨h.size,h.os,h.output,h.tape,h.block,fun _ _ h=>h,fun _ _ h=>.inl h,fun b o hb=>Nat.lt_of_lt_of_le (hi b o hb) h.size⟩
theorem str_arg {w:World} {I J:Nat→Nat→Prop} {vs:Array Value} {l:List UInt8} (ha:Args sg w I J vs [.str l]):∃b:ByteArray,vs = #[.string b]∧l=b.data.toList:=by
 obtain ⟨h1,h2⟩:=ha
 have h1:vs.size=1:=h1
 have h0:=h2 0 vs[0] (.str l) (Array.getElem?_eq_getElem (by omega)) rfl
 generalize hv:vs[0]=v at h0
 cases h0 with
 |str b=>
  refine ⟨b,?_,rfl⟩
  apply Array.ext
  ·simp[h1]
  ·intro i hi1 hi2
   have:i=0:=by omega
   subst this
   simpa using hv
theorem fb_244:fnB Tryz.prog 244 Tryz.f244 [4]=true:=by kernel_rfl
theorem con_qe7:∀ds a r,ac_qe7.dec ds=some a→fi_qe7 a=some r→Con Tryz.prog sg 244 ds [] (rc_qe7.enc r) []:=by
 intro ds a r hd hf
 obtain ⟨code,fok,-,-⟩:=fnB_spec Tryz.func244 fb_244
 have hac:CCOk ac_qe7:=CCOk.cons CodOk.str CCOk.nil
 have hw:=hac ds a hd
 obtain ⟨l,⟨⟩⟩:=a
 unfold Con
 rw[show sg.md 244=.data by kernel_rfl]
 intro _ w I J vs hp ha
 obtain ⟨b,rfl,rfl⟩:=str_arg (l:=l) (hw.args ha)
 replace hf:(bif decide (b.data.toList.length≤LIM) then some (vld b.data.toList) else none)=some r:=hf
 rw[cond_eq]at hf
 split at hf
 ·rename_i hle
  cases hf
  rw[decide_eq_true_eq,←Lib.size_eq]at hle
  unfold CallF
  rw[MuLone.run_callFunc_enter fok.at_ fok.name fok.body _ w]
  refine (valid_walk b w hle (tabs_of_globR hp.gl)).mono ?_
  rintro e w' ⟨rfl,hb⟩
  exact ⟨I,grow_below hp.ib hb,.bool _⟩
 ·cases hf
theorem fb_297:fnB Tryz.prog 297 Tryz.f297 []=true:=by kernel_rfl
theorem con_qfe:∀ds a r,ac_qfe.dec ds=some a→fi_qfe a=some r→Con Tryz.prog sg 297 ds [] (rc_qfe.enc r) []:=by
 intro ds a r hd hf
 obtain ⟨code,fok,-,-⟩:=fnB_spec Tryz.func297 fb_297
 have hac:CCOk ac_qfe:=CCOk.cons CodOk.str CCOk.nil
 have hw:=hac ds a hd
 obtain ⟨l,⟨⟩⟩:=a
 unfold Con
 rw[show sg.md 297=.data by kernel_rfl]
 intro _ w I J vs hp ha
 obtain ⟨b,rfl,rfl⟩:=str_arg (l:=l) (hw.args ha)
 replace hf:(bif decide (b.data.toList.length≤LIM)&&vld b.data.toList then some (cln b.data.toList) else none)=some r:=hf
 rw[cond_eq]at hf
 split at hf
 ·rename_i hle
  cases hf
  rw[Bool.and_eq_true,decide_eq_true_eq,←Lib.size_eq]at hle
  unfold CallF
  rw[MuLone.run_callFunc_enter fok.at_ fok.name fok.body _ w]
  refine (clean_walk b w hle.1 hle.2).mono ?_
  rintro e w' ⟨rfl,hb⟩
  exact ⟨I,grow_below hp.ib hb,.str ⟨(cln b.data.toList).toArray⟩⟩
 ·cases hf
theorem con_qe8:∀ds a r,ac_qe8.dec ds=some a→fi_qe8 a=some r→Con Tryz.prog sg 317 ds [] (rc_qe8.enc r) []:=fun ds a r hd hf=>by cases hf
end Go.Proofs.YtdahfgialanmpaaGreatDoor

namespace Go.Proofs.YtdahfgialanmpaaGreatDoor
set_option maxRecDepth 100000
open Ev
open Go (IntKind)
open Go
theorem fb_19:fnB ZP 19 Tryz.f19 [4,9,14]=true:=by kernel_rfl
theorem cc_qk:CG ZP sg @call_qk:=cg0
theorem lo_qk_4:LoopFor ZP sg 0 Tryz.f19 @loops_qk 4:=loopC good Tryz.func19 fb_19 (by decide) cc_qk (inn:=[]) (by kernel_rfl) all_nil el_qk_4 (ptC sgok (by kernel_rfl)) (outsOk (exitOk_cons (ptC sgok (by kernel_rfl)) (fun _=>rfl) exitOk_nil) (retOk_one (prC sgok (by kernel_rfl)) (fun _=>rfl)) (fun _=>rfl)) (fun b k=>match b with | .inl _=>rfl | .inr _=>rfl) (fun _ _=>rfl)
theorem lo_qk_9:LoopFor ZP sg 0 Tryz.f19 @loops_qk 9:=loopC good Tryz.func19 fb_19 (by decide) cc_qk (inn:=[]) (by kernel_rfl) all_nil el_qk_9 (ptC sgok (by kernel_rfl)) (outsOk (exitOk_cons (ptC sgok (by kernel_rfl)) (fun _=>rfl) exitOk_nil) (retOk_one (prC sgok (by kernel_rfl)) (fun _=>rfl)) (fun _=>rfl)) (fun b k=>match b with | .inl _=>rfl | .inr _=>rfl) (fun _ _=>rfl)
theorem lo_qk_14:LoopFor ZP sg 0 Tryz.f19 @loops_qk 14:=loopC good Tryz.func19 fb_19 (by decide) cc_qk (inn:=[]) (by kernel_rfl) all_nil el_qk_14 (ptC sgok (by kernel_rfl)) (outsOk (exitOk_cons (ptC sgok (by kernel_rfl)) (fun _=>rfl) exitOk_nil) (retOk_one (prC sgok (by kernel_rfl)) (fun _=>rfl)) (fun _=>rfl)) (fun b k=>match b with | .inl _=>rfl | .inr _=>rfl) (fun _ _=>rfl)
theorem con_qk:SG ZP sg 19 @sem_qk:=conD good Tryz.func19 fb_19 (by kernel_rfl) cc_qk (all_cons lo_qk_4 (all_cons lo_qk_9 (all_cons lo_qk_14 all_nil))) e_qk
theorem fb_258:fnB ZP 258 Tryz.f258 []=true:=by kernel_rfl
theorem cc_qcm:CG ZP sg @call_qcm:=cg0
theorem con_qcm:SG ZP sg 258 @sem_qcm:=conD good Tryz.func258 fb_258 (by kernel_rfl) cc_qcm all_nil e_qcm
theorem fb_174:fnB ZP 174 Tryz.f174 [2]=true:=by kernel_rfl
theorem cc_qau:CG ZP sg @call_qau:=(cgc con_qcm cg0)
theorem lo_qau_2:LoopFor ZP sg 0 Tryz.f174 @loops_qau 2:=loopC good Tryz.func174 fb_174 (by decide) cc_qau (inn:=[]) (by kernel_rfl) all_nil el_qau_2 (ptC sgok (by kernel_rfl)) (outsOk (exitOk_cons (ptC sgok (by kernel_rfl)) (fun _=>rfl) exitOk_nil) (retOk_one (prC sgok (by kernel_rfl)) (fun _=>rfl)) (fun _=>rfl)) (fun b k=>match b with | .inl _=>rfl | .inr _=>rfl) (fun _ _=>rfl)
theorem con_qau:SG ZP sg 174 @sem_qau:=conD good Tryz.func174 fb_174 (by kernel_rfl) cc_qau (all_cons lo_qau_2 all_nil) e_qau
theorem fb_259:fnB ZP 259 Tryz.f259 []=true:=by kernel_rfl
theorem cc_qe0:CG ZP sg @call_qe0:=(cgc con_qcm cg0)
theorem con_qe0:SG ZP sg 259 @sem_qe0:=conD good Tryz.func259 fb_259 (by kernel_rfl) cc_qe0 all_nil e_qe0
theorem fb_260:fnB ZP 260 Tryz.f260 []=true:=by kernel_rfl
theorem cc_qet:CG ZP sg @call_qet:=cg0
theorem con_qet:SG ZP sg 260 @sem_qet:=conD good Tryz.func260 fb_260 (by kernel_rfl) cc_qet all_nil e_qet
theorem fb_175:fnB ZP 175 Tryz.f175 [4]=true:=by kernel_rfl
theorem cc_qbp:CG ZP sg @call_qbp:=(cgc con_qcm (cgc con_qe0 (cgc con_qet cg0)))
theorem lo_qbp_4:LoopFor ZP sg 0 Tryz.f175 @loops_qbp 4:=loopC good Tryz.func175 fb_175 (by decide) cc_qbp (inn:=[]) (by kernel_rfl) all_nil el_qbp_4 (ptC sgok (by kernel_rfl)) (outsOk (exitOk_cons (ptC sgok (by kernel_rfl)) (fun _=>rfl) exitOk_nil) retOk_nil (fun _=>rfl)) (fun _ _=>rfl) (fun _ _=>rfl)
theorem con_qbp:SG ZP sg 175 @sem_qbp:=conD good Tryz.func175 fb_175 (by kernel_rfl) cc_qbp (all_cons lo_qbp_4 all_nil) e_qbp
theorem fb_68:fnB ZP 68 Tryz.f68 [4]=true:=by kernel_rfl
theorem cc_qao:CG ZP sg @call_qao:=(cgc con_qau (cgc con_qbp cg0))
theorem lo_qao_4:LoopFor ZP sg 0 Tryz.f68 @loops_qao 4:=loopC good Tryz.func68 fb_68 (by decide) cc_qao (inn:=[]) (by kernel_rfl) all_nil el_qao_4 (ptC sgok (by kernel_rfl)) (outsOk (exitOk_cons (ptC sgok (by kernel_rfl)) (fun _=>rfl) exitOk_nil) (retOk_one (prC sgok (by kernel_rfl)) (fun _=>rfl)) (fun _=>rfl)) (fun b k=>match b with | .inl _=>rfl | .inr _=>rfl) (fun _ _=>rfl)
theorem con_qao:SG ZP sg 68 @sem_qao:=conD good Tryz.func68 fb_68 (by kernel_rfl) cc_qao (all_cons lo_qao_4 all_nil) e_qao
theorem fb_69:fnB ZP 69 Tryz.f69 [4]=true:=by kernel_rfl
theorem cc_qbb:CG ZP sg @call_qbb:=cg0
theorem lo_qbb_4:LoopFor ZP sg 0 Tryz.f69 @loops_qbb 4:=loopC good Tryz.func69 fb_69 (by decide) cc_qbb (inn:=[]) (by kernel_rfl) all_nil el_qbb_4 (ptC sgok (by kernel_rfl)) (outsOk (exitOk_cons (ptC sgok (by kernel_rfl)) (fun _=>rfl) exitOk_nil) (retOk_one (prC sgok (by kernel_rfl)) (fun _=>rfl)) (fun _=>rfl)) (fun b k=>match b with | .inl _=>rfl | .inr _=>rfl) (fun _ _=>rfl)
theorem con_qbb:SG ZP sg 69 @sem_qbb:=conD good Tryz.func69 fb_69 (by kernel_rfl) cc_qbb (all_cons lo_qbb_4 all_nil) e_qbb
theorem fb_261:fnB ZP 261 Tryz.f261 []=true:=by kernel_rfl
theorem cc_qdl:CG ZP sg @call_qdl:=cg0
theorem con_qdl:SG ZP sg 261 @sem_qdl:=conD good Tryz.func261 fb_261 (by kernel_rfl) cc_qdl all_nil e_qdl
theorem fb_262:fnB ZP 262 Tryz.f262 []=true:=by kernel_rfl
theorem cc_qdo:CG ZP sg @call_qdo:=cg0
theorem con_qdo:SG ZP sg 262 @sem_qdo:=conD good Tryz.func262 fb_262 (by kernel_rfl) cc_qdo all_nil e_qdo
theorem fb_176:fnB ZP 176 Tryz.f176 []=true:=by kernel_rfl
theorem cc_qep:CG ZP sg @call_qep:=(cgc con_qdl (cgc con_qdo cg0))
theorem con_qep:SG ZP sg 176 @sem_qep:=conD good Tryz.func176 fb_176 (by kernel_rfl) cc_qep all_nil e_qep
theorem fb_70:fnB ZP 70 Tryz.f70 [4,12,15]=true:=by kernel_rfl
theorem cc_qg:CG ZP sg @call_qg:=(cgc con_qep cg0)
theorem lo_qg_4:LoopFor ZP sg 0 Tryz.f70 @loops_qg 4:=loopC good Tryz.func70 fb_70 (by decide) cc_qg (inn:=[]) (by kernel_rfl) all_nil el_qg_4 (ptC sgok (by kernel_rfl)) (outsOk (exitOk_cons (ptC sgok (by kernel_rfl)) (fun _=>rfl) exitOk_nil) (retOk_one (prC sgok (by kernel_rfl)) (fun _=>rfl)) (fun _=>rfl)) (fun b k=>match b with | .inl _=>rfl | .inr _=>rfl) (fun _ _=>rfl)
theorem lo_qg_15:LoopFor ZP sg 0 Tryz.f70 @loops_qg 15:=loopC good Tryz.func70 fb_70 (by decide) cc_qg (inn:=[]) (by kernel_rfl) all_nil el_qg_15 (ptC sgok (by kernel_rfl)) (outsOk (exitOk_cons (ptC sgok (by kernel_rfl)) (fun _=>rfl) exitOk_nil) (retOk_one (prC sgok (by kernel_rfl)) (fun _=>rfl)) (fun _=>rfl)) (fun b k=>match b with | .inl _=>rfl | .inr _=>rfl) (fun _ _=>rfl)
theorem lo_qg_12:LoopFor ZP sg 0 Tryz.f70 @loops_qg 12:=loopC good Tryz.func70 fb_70 (by decide) cc_qg (inn:=[15]) (by kernel_rfl) (all_cons lo_qg_15 all_nil) el_qg_12 (ptC sgok (by kernel_rfl)) (outsOk (exitOk_cons (ptC sgok (by kernel_rfl)) (fun _=>rfl) exitOk_nil) (retOk_one (prC sgok (by kernel_rfl)) (fun _=>rfl)) (fun _=>rfl)) (fun b k=>match b with | .inl _=>rfl | .inr _=>rfl) (fun _ _=>rfl)
theorem con_qg:SG ZP sg 70 @sem_qg:=conD good Tryz.func70 fb_70 (by kernel_rfl) cc_qg (all_cons lo_qg_4 (all_cons lo_qg_12 (all_cons lo_qg_15 all_nil))) e_qg
theorem fb_177:fnB ZP 177 Tryz.f177 []=true:=by kernel_rfl
theorem cc_qe4:CG ZP sg @call_qe4:=cg0
theorem con_qe4:SG ZP sg 177 @sem_qe4:=conD good Tryz.func177 fb_177 (by kernel_rfl) cc_qe4 all_nil e_qe4
theorem fb_71:fnB ZP 71 Tryz.f71 [4]=true:=by kernel_rfl
theorem cc_qbc:CG ZP sg @call_qbc:=(cgc con_qe4 cg0)
theorem lo_qbc_4:LoopFor ZP sg 0 Tryz.f71 @loops_qbc 4:=loopC good Tryz.func71 fb_71 (by decide) cc_qbc (inn:=[]) (by kernel_rfl) all_nil el_qbc_4 (ptC sgok (by kernel_rfl)) (outsOk (exitOk_cons (ptC sgok (by kernel_rfl)) (fun _=>rfl) exitOk_nil) (retOk_one (prC sgok (by kernel_rfl)) (fun _=>rfl)) (fun _=>rfl)) (fun b k=>match b with | .inl _=>rfl | .inr _=>rfl) (fun _ _=>rfl)
theorem con_qbc:SG ZP sg 71 @sem_qbc:=conD good Tryz.func71 fb_71 (by kernel_rfl) cc_qbc (all_cons lo_qbc_4 all_nil) e_qbc
theorem fb_263:fnB ZP 263 Tryz.f263 []=true:=by kernel_rfl
theorem cc_qb3:CG ZP sg @call_qb3:=cg0
theorem con_qb3:SG ZP sg 263 @sem_qb3:=conD good Tryz.func263 fb_263 (by kernel_rfl) cc_qb3 all_nil e_qb3
theorem fb_178:fnB ZP 178 Tryz.f178 []=true:=by kernel_rfl
theorem cc_qd4:CG ZP sg @call_qd4:=(cgc con_qb3 cg0)
theorem con_qd4:SG ZP sg 178 @sem_qd4:=conD good Tryz.func178 fb_178 (by kernel_rfl) cc_qd4 all_nil e_qd4
theorem fb_72:fnB ZP 72 Tryz.f72 [4,9]=true:=by kernel_rfl
theorem cc_qh:CG ZP sg @call_qh:=(cgc con_qd4 cg0)
theorem lo_qh_9:LoopFor ZP sg 0 Tryz.f72 @loops_qh 9:=loopC good Tryz.func72 fb_72 (by decide) cc_qh (inn:=[]) (by kernel_rfl) all_nil el_qh_9 (ptC sgok (by kernel_rfl)) (outsOk (exitOk_cons (ptC sgok (by kernel_rfl)) (fun _=>rfl) exitOk_nil) (retOk_one (prC sgok (by kernel_rfl)) (fun _=>rfl)) (fun _=>rfl)) (fun b k=>match b with | .inl _=>rfl | .inr _=>rfl) (fun _ _=>rfl)
theorem lo_qh_4:LoopFor ZP sg 0 Tryz.f72 @loops_qh 4:=loopC good Tryz.func72 fb_72 (by decide) cc_qh (inn:=[9]) (by kernel_rfl) (all_cons lo_qh_9 all_nil) el_qh_4 (ptC sgok (by kernel_rfl)) (outsOk (exitOk_cons (ptC sgok (by kernel_rfl)) (fun _=>rfl) exitOk_nil) (retOk_one (prC sgok (by kernel_rfl)) (fun _=>rfl)) (fun _=>rfl)) (fun b k=>match b with | .inl _=>rfl | .inr _=>rfl) (fun _ _=>rfl)
theorem con_qh:SG ZP sg 72 @sem_qh:=conD good Tryz.func72 fb_72 (by kernel_rfl) cc_qh (all_cons lo_qh_4 (all_cons lo_qh_9 all_nil)) e_qh
theorem fb_73:fnB ZP 73 Tryz.f73 [6,11]=true:=by kernel_rfl
theorem cc_qu:CG ZP sg @call_qu:=cg0
theorem lo_qu_6:LoopFor ZP sg 0 Tryz.f73 @loops_qu 6:=loopC good Tryz.func73 fb_73 (by decide) cc_qu (inn:=[]) (by kernel_rfl) all_nil el_qu_6 (ptC sgok (by kernel_rfl)) (outsOk (exitOk_cons (ptC sgok (by kernel_rfl)) (fun _=>rfl) exitOk_nil) (retOk_one (prC sgok (by kernel_rfl)) (fun _=>rfl)) (fun _=>rfl)) (fun b k=>match b with | .inl _=>rfl | .inr _=>rfl) (fun _ _=>rfl)
theorem lo_qu_11:LoopFor ZP sg 0 Tryz.f73 @loops_qu 11:=loopC good Tryz.func73 fb_73 (by decide) cc_qu (inn:=[]) (by kernel_rfl) all_nil el_qu_11 (ptC sgok (by kernel_rfl)) (outsOk (exitOk_cons (ptC sgok (by kernel_rfl)) (fun _=>rfl) exitOk_nil) (retOk_one (prC sgok (by kernel_rfl)) (fun _=>rfl)) (fun _=>rfl)) (fun b k=>match b with | .inl _=>rfl | .inr _=>rfl) (fun _ _=>rfl)
theorem con_qu:SG ZP sg 73 @sem_qu:=conD good Tryz.func73 fb_73 (by kernel_rfl) cc_qu (all_cons lo_qu_6 (all_cons lo_qu_11 all_nil)) e_qu
theorem fb_179:fnB ZP 179 Tryz.f179 [2]=true:=by kernel_rfl
theorem cc_qaw:CG ZP sg @call_qaw:=cg0
theorem lo_qaw_2:LoopFor ZP sg 0 Tryz.f179 @loops_qaw 2:=loopC good Tryz.func179 fb_179 (by decide) cc_qaw (inn:=[]) (by kernel_rfl) all_nil el_qaw_2 (ptC sgok (by kernel_rfl)) (outsOk (exitOk_cons (ptC sgok (by kernel_rfl)) (fun _=>rfl) exitOk_nil) (retOk_one (prC sgok (by kernel_rfl)) (fun _=>rfl)) (fun _=>rfl)) (fun b k=>match b with | .inl _=>rfl | .inr _=>rfl) (fun _ _=>rfl)
theorem con_qaw:SG ZP sg 179 @sem_qaw:=conD good Tryz.func179 fb_179 (by kernel_rfl) cc_qaw (all_cons lo_qaw_2 all_nil) e_qaw
theorem fb_74:fnB ZP 74 Tryz.f74 []=true:=by kernel_rfl
theorem cc_qcr:CG ZP sg @call_qcr:=(cgc con_qaw cg0)
theorem con_qcr:SG ZP sg 74 @sem_qcr:=conD good Tryz.func74 fb_74 (by kernel_rfl) cc_qcr all_nil e_qcr
theorem fb_85:fnB ZP 85 Tryz.f85 []=true:=by kernel_rfl
theorem cc_qdk:CG ZP sg @call_qdk:=cg0
theorem con_qdk:SG ZP sg 85 @sem_qdk:=conD good Tryz.func85 fb_85 (by kernel_rfl) cc_qdk all_nil e_qdk
theorem fb_306:fnB ZP 306 Tryz.f306 []=true:=by kernel_rfl
theorem cc_qd7:CG ZP sg @call_qd7:=cg0
theorem con_qd7:SG ZP sg 306 @sem_qd7:=conD good Tryz.func306 fb_306 (by kernel_rfl) cc_qd7 all_nil e_qd7
theorem fb_275:fnB ZP 275 Tryz.f275 []=true:=by kernel_rfl
theorem cc_qer:CG ZP sg @call_qer:=(cgc con_qd7 cg0)
theorem con_qer:SG ZP sg 275 @sem_qer:=conD good Tryz.func275 fb_275 (by kernel_rfl) cc_qer all_nil e_qer
theorem fb_276:fnB ZP 276 Tryz.f276 []=true:=by kernel_rfl
theorem cc_qej:CG ZP sg @call_qej:=cg0
theorem con_qej:SG ZP sg 276 @sem_qej:=conD good Tryz.func276 fb_276 (by kernel_rfl) cc_qej all_nil e_qej
theorem fb_307:fnB ZP 307 Tryz.f307 []=true:=by kernel_rfl
theorem cc_qek:CG ZP sg @call_qek:=cg0
theorem con_qek:SG ZP sg 307 @sem_qek:=conD good Tryz.func307 fb_307 (by kernel_rfl) cc_qek all_nil e_qek
theorem fb_277:fnB ZP 277 Tryz.f277 [3]=true:=by kernel_rfl
theorem cc_qa8:CG ZP sg @call_qa8:=(cgc con_qek cg0)
theorem lo_qa8_3:LoopFor ZP sg 0 Tryz.f277 @loops_qa8 3:=loopC good Tryz.func277 fb_277 (by decide) cc_qa8 (inn:=[]) (by kernel_rfl) all_nil el_qa8_3 (ptC sgok (by kernel_rfl)) (outsOk (exitOk_cons (ptC sgok (by kernel_rfl)) (fun _=>rfl) exitOk_nil) (retOk_one (prC sgok (by kernel_rfl)) (fun _=>rfl)) (fun _=>rfl)) (fun b k=>match b with | .inl _=>rfl | .inr _=>rfl) (fun _ _=>rfl)
theorem con_qa8:SG ZP sg 277 @sem_qa8:=conD good Tryz.func277 fb_277 (by kernel_rfl) cc_qa8 (all_cons lo_qa8_3 all_nil) e_qa8
theorem fb_278:fnB ZP 278 Tryz.f278 []=true:=by kernel_rfl
theorem cc_qez:CG ZP sg @call_qez:=cg0
theorem con_qez:SG ZP sg 278 @sem_qez:=conD good Tryz.func278 fb_278 (by kernel_rfl) cc_qez all_nil e_qez
theorem fb_279:fnB ZP 279 Tryz.f279 []=true:=by kernel_rfl
theorem cc_qeq:CG ZP sg @call_qeq:=cg0
theorem con_qeq:SG ZP sg 279 @sem_qeq:=conD good Tryz.func279 fb_279 (by kernel_rfl) cc_qeq all_nil e_qeq
theorem fb_200:fnB ZP 200 Tryz.f200 []=true:=by kernel_rfl
theorem cc_qes:CG ZP sg @call_qes:=(cgc con_qer (cgc con_qej (cgc con_qa8 (cgc con_qez (cgc con_qeq cg0)))))
theorem con_qes:SG ZP sg 200 @sem_qes:=conD good Tryz.func200 fb_200 (by kernel_rfl) cc_qes all_nil e_qes
theorem fb_180:fnB ZP 180 Tryz.f180 [5]=true:=by kernel_rfl
theorem cc_qba:CG ZP sg @call_qba:=(cgc con_qdk (cgc con_qes cg0))
theorem lo_qba_5:LoopFor ZP sg 0 Tryz.f180 @loops_qba 5:=loopC good Tryz.func180 fb_180 (by decide) cc_qba (inn:=[]) (by kernel_rfl) all_nil el_qba_5 (ptC sgok (by kernel_rfl)) (outsOk (exitOk_cons (ptC sgok (by kernel_rfl)) (fun _=>rfl) exitOk_nil) (retOk_one (prC sgok (by kernel_rfl)) (fun _=>rfl)) (fun _=>rfl)) (fun b k=>match b with | .inl _=>rfl | .inr _=>rfl) (fun _ _=>rfl)
theorem con_qba:SG ZP sg 180 @sem_qba:=conD good Tryz.func180 fb_180 (by kernel_rfl) cc_qba (all_cons lo_qba_5 all_nil) e_qba
theorem fb_84:fnB ZP 84 Tryz.f84 [2]=true:=by kernel_rfl
theorem cc_qag:CG ZP sg @call_qag:=cg0
theorem lo_qag_2:LoopFor ZP sg 0 Tryz.f84 @loops_qag 2:=loopC good Tryz.func84 fb_84 (by decide) cc_qag (inn:=[]) (by kernel_rfl) all_nil el_qag_2 (ptC sgok (by kernel_rfl)) (outsOk (exitOk_cons (ptC sgok (by kernel_rfl)) (fun _=>rfl) exitOk_nil) (retOk_one (prC sgok (by kernel_rfl)) (fun _=>rfl)) (fun _=>rfl)) (fun b k=>match b with | .inl _=>rfl | .inr _=>rfl) (fun _ _=>rfl)
theorem con_qag:SG ZP sg 84 @sem_qag:=conD good Tryz.func84 fb_84 (by kernel_rfl) cc_qag (all_cons lo_qag_2 all_nil) e_qag
theorem fb_75:fnB ZP 75 Tryz.f75 [4,15]=true:=by kernel_rfl
theorem cc_qx:CG ZP sg @call_qx:=(cgc con_qag (cgc con_qau (cgc con_qba cg0)))
theorem lo_qx_4:LoopFor ZP sg 0 Tryz.f75 @loops_qx 4:=loopC good Tryz.func75 fb_75 (by decide) cc_qx (inn:=[]) (by kernel_rfl) all_nil el_qx_4 (ptC sgok (by kernel_rfl)) (outsOk (exitOk_cons (ptC sgok (by kernel_rfl)) (fun _=>rfl) exitOk_nil) (retOk_one (prC sgok (by kernel_rfl)) (fun _=>rfl)) (fun _=>rfl)) (fun b k=>match b with | .inl _=>rfl | .inr _=>rfl) (fun _ _=>rfl)
theorem lo_qx_15:LoopFor ZP sg 0 Tryz.f75 @loops_qx 15:=loopC good Tryz.func75 fb_75 (by decide) cc_qx (inn:=[]) (by kernel_rfl) all_nil el_qx_15 (ptC sgok (by kernel_rfl)) (outsOk (exitOk_cons (ptC sgok (by kernel_rfl)) (fun _=>rfl) exitOk_nil) (retOk_one (prC sgok (by kernel_rfl)) (fun _=>rfl)) (fun _=>rfl)) (fun b k=>match b with | .inl _=>rfl | .inr _=>rfl) (fun _ _=>rfl)
theorem con_qx:SG ZP sg 75 @sem_qx:=conD good Tryz.func75 fb_75 (by kernel_rfl) cc_qx (all_cons lo_qx_4 (all_cons lo_qx_15 all_nil)) e_qx
theorem fb_111:fnB ZP 111 Tryz.f111 []=true:=by kernel_rfl
theorem cc_qdq:CG ZP sg @call_qdq:=cg0
theorem con_qdq:SG ZP sg 111 @sem_qdq:=conD good Tryz.func111 fb_111 (by kernel_rfl) cc_qdq all_nil e_qdq
theorem fb_201:fnB ZP 201 Tryz.f201 [2]=true:=by kernel_rfl
theorem cc_qbf:CG ZP sg @call_qbf:=cg0
theorem lo_qbf_2:LoopFor ZP sg 0 Tryz.f201 @loops_qbf 2:=loopC good Tryz.func201 fb_201 (by decide) cc_qbf (inn:=[]) (by kernel_rfl) all_nil el_qbf_2 (ptC sgok (by kernel_rfl)) (outsOk (exitOk_cons (ptC sgok (by kernel_rfl)) (fun _=>rfl) exitOk_nil) (retOk_one (prC sgok (by kernel_rfl)) (fun _=>rfl)) (fun _=>rfl)) (fun b k=>match b with | .inl _=>rfl | .inr _=>rfl) (fun _ _=>rfl)
theorem con_qbf:SG ZP sg 201 @sem_qbf:=conD good Tryz.func201 fb_201 (by kernel_rfl) cc_qbf (all_cons lo_qbf_2 all_nil) e_qbf
theorem fb_122:fnB ZP 122 Tryz.f122 []=true:=by kernel_rfl
theorem cc_qey:CG ZP sg @call_qey:=(cgc con_qbf cg0)
theorem con_qey:SG ZP sg 122 @sem_qey:=conD good Tryz.func122 fb_122 (by kernel_rfl) cc_qey all_nil e_qey
theorem fb_76:fnB ZP 76 Tryz.f76 [2,10]=true:=by kernel_rfl
theorem cc_qw:CG ZP sg @call_qw:=(cgc con_qcr (cgc con_qag (cgc con_qdq (cgc con_qey cg0))))
theorem lo_qw_2:LoopFor ZP sg 0 Tryz.f76 @loops_qw 2:=loopC good Tryz.func76 fb_76 (by decide) cc_qw (inn:=[]) (by kernel_rfl) all_nil el_qw_2 (ptC sgok (by kernel_rfl)) (outsOk (exitOk_cons (ptC sgok (by kernel_rfl)) (fun _=>rfl) exitOk_nil) (retOk_one (prC sgok (by kernel_rfl)) (fun _=>rfl)) (fun _=>rfl)) (fun b k=>match b with | .inl _=>rfl | .inr _=>rfl) (fun _ _=>rfl)
theorem lo_qw_10:LoopFor ZP sg 0 Tryz.f76 @loops_qw 10:=loopC good Tryz.func76 fb_76 (by decide) cc_qw (inn:=[]) (by kernel_rfl) all_nil el_qw_10 (ptC sgok (by kernel_rfl)) (outsOk (exitOk_cons (ptC sgok (by kernel_rfl)) (fun _=>rfl) exitOk_nil) (retOk_one (prC sgok (by kernel_rfl)) (fun _=>rfl)) (fun _=>rfl)) (fun b k=>match b with | .inl _=>rfl | .inr _=>rfl) (fun _ _=>rfl)
theorem con_qw:SG ZP sg 76 @sem_qw:=conD good Tryz.func76 fb_76 (by kernel_rfl) cc_qw (all_cons lo_qw_2 (all_cons lo_qw_10 all_nil)) e_qw
theorem fb_105:fnB ZP 105 Tryz.f105 [2]=true:=by kernel_rfl
theorem cc_qa9:CG ZP sg @call_qa9:=cg0
theorem lo_qa9_2:LoopFor ZP sg 0 Tryz.f105 @loops_qa9 2:=loopC good Tryz.func105 fb_105 (by decide) cc_qa9 (inn:=[]) (by kernel_rfl) all_nil el_qa9_2 (ptC sgok (by kernel_rfl)) (outsOk (exitOk_cons (ptC sgok (by kernel_rfl)) (fun _=>rfl) exitOk_nil) (retOk_one (prC sgok (by kernel_rfl)) (fun _=>rfl)) (fun _=>rfl)) (fun b k=>match b with | .inl _=>rfl | .inr _=>rfl) (fun _ _=>rfl)
theorem con_qa9:SG ZP sg 105 @sem_qa9:=conD good Tryz.func105 fb_105 (by kernel_rfl) cc_qa9 (all_cons lo_qa9_2 all_nil) e_qa9
theorem fb_77:fnB ZP 77 Tryz.f77 [2,18]=true:=by kernel_rfl
theorem cc_qy:CG ZP sg @call_qy:=(cgc con_qcr (cgc con_qag (cgc con_qa9 cg0)))
theorem lo_qy_2:LoopFor ZP sg 0 Tryz.f77 @loops_qy 2:=loopC good Tryz.func77 fb_77 (by decide) cc_qy (inn:=[]) (by kernel_rfl) all_nil el_qy_2 (ptC sgok (by kernel_rfl)) (outsOk (exitOk_cons (ptC sgok (by kernel_rfl)) (fun _=>rfl) exitOk_nil) (retOk_one (prC sgok (by kernel_rfl)) (fun _=>rfl)) (fun _=>rfl)) (fun b k=>match b with | .inl _=>rfl | .inr _=>rfl) (fun _ _=>rfl)
theorem lo_qy_18:LoopFor ZP sg 0 Tryz.f77 @loops_qy 18:=loopC good Tryz.func77 fb_77 (by decide) cc_qy (inn:=[]) (by kernel_rfl) all_nil el_qy_18 (ptC sgok (by kernel_rfl)) (outsOk (exitOk_cons (ptC sgok (by kernel_rfl)) (fun _=>rfl) exitOk_nil) (retOk_one (prC sgok (by kernel_rfl)) (fun _=>rfl)) (fun _=>rfl)) (fun b k=>match b with | .inl _=>rfl | .inr _=>rfl) (fun _ _=>rfl)
theorem con_qy:SG ZP sg 77 @sem_qy:=conD good Tryz.func77 fb_77 (by kernel_rfl) cc_qy (all_cons lo_qy_2 (all_cons lo_qy_18 all_nil)) e_qy
theorem fb_21:fnB ZP 21 Tryz.f21 [6,11]=true:=by kernel_rfl
theorem cc_qs:CG ZP sg @call_qs:=(cgc con_qao (cgc con_qbb (cgc con_qg (cgc con_qbc (cgc con_qh (cgc con_qu (cgc con_qcr (cgc con_qx (cgc con_qw (cgc con_qy cg0))))))))))
theorem lo_qs_6:LoopFor ZP sg 0 Tryz.f21 @loops_qs 6:=loopC good Tryz.func21 fb_21 (by decide) cc_qs (inn:=[]) (by kernel_rfl) all_nil el_qs_6 (ptC sgok (by kernel_rfl)) (outsOk (exitOk_cons (ptC sgok (by kernel_rfl)) (fun _=>rfl) exitOk_nil) (retOk_one (prC sgok (by kernel_rfl)) (fun _=>rfl)) (fun _=>rfl)) (fun b k=>match b with | .inl _=>rfl | .inr _=>rfl) (fun _ _=>rfl)
theorem lo_qs_11:LoopFor ZP sg 0 Tryz.f21 @loops_qs 11:=loopC good Tryz.func21 fb_21 (by decide) cc_qs (inn:=[]) (by kernel_rfl) all_nil el_qs_11 (ptC sgok (by kernel_rfl)) (outsOk (exitOk_cons (ptC sgok (by kernel_rfl)) (fun _=>rfl) exitOk_nil) (retOk_one (prC sgok (by kernel_rfl)) (fun _=>rfl)) (fun _=>rfl)) (fun b k=>match b with | .inl _=>rfl | .inr _=>rfl) (fun _ _=>rfl)
theorem con_qs:SG ZP sg 21 @sem_qs:=conD good Tryz.func21 fb_21 (by kernel_rfl) cc_qs (all_cons lo_qs_6 (all_cons lo_qs_11 all_nil)) e_qs
theorem fb_22:fnB ZP 22 Tryz.f22 []=true:=by kernel_rfl
theorem cc_qev:CG ZP sg @call_qev:=(cgc con_qk (cgc con_qs cg0))
theorem con_qev:SG ZP sg 22 @sem_qev:=conD good Tryz.func22 fb_22 (by kernel_rfl) cc_qev all_nil e_qev
theorem fb_17:fnB ZP 17 Tryz.f17 []=true:=by kernel_rfl
theorem cc_qe3:CG ZP sg @call_qe3:=cg0
theorem con_qe3:SG ZP sg 17 @sem_qe3:=conD good Tryz.func17 fb_17 (by kernel_rfl) cc_qe3 all_nil e_qe3
theorem fb_181:fnB ZP 181 Tryz.f181 []=true:=by kernel_rfl
theorem cc_qdg:CG ZP sg @call_qdg:=cg0
theorem con_qdg:SG ZP sg 181 @sem_qdg:=conD good Tryz.func181 fb_181 (by kernel_rfl) cc_qdg all_nil e_qdg
theorem fb_80:fnB ZP 80 Tryz.f80 [2]=true:=by kernel_rfl
theorem cc_qd:CG ZP sg @call_qd:=(cgc con_qdg cg0)
theorem lo_qd_2:LoopFor ZP sg 0 Tryz.f80 @loops_qd 2:=loopC good Tryz.func80 fb_80 (by decide) cc_qd (inn:=[]) (by kernel_rfl) all_nil el_qd_2 (ptC sgok (by kernel_rfl)) (outsOk (exitOk_cons (ptC sgok (by kernel_rfl)) (fun _=>rfl) exitOk_nil) (retOk_one (prC sgok (by kernel_rfl)) (fun _=>rfl)) (fun _=>rfl)) (fun b k=>match b with | .inl _=>rfl | .inr _=>rfl) (fun _ _=>rfl)
theorem con_qd:SG ZP sg 80 @sem_qd:=conD good Tryz.func80 fb_80 (by kernel_rfl) cc_qd (all_cons lo_qd_2 all_nil) e_qd
theorem fb_78:fnB ZP 78 Tryz.f78 []=true:=by kernel_rfl
theorem cc_qaa:CG ZP sg @call_qaa:=(cgc con_qd cg0)
theorem con_qaa:SG ZP sg 78 @sem_qaa:=conD good Tryz.func78 fb_78 (by kernel_rfl) cc_qaa all_nil e_qaa
theorem fb_79:fnB ZP 79 Tryz.f79 []=true:=by kernel_rfl
theorem cc_qc9:CG ZP sg @call_qc9:=cg0
theorem con_qc9:SG ZP sg 79 @sem_qc9:=conD good Tryz.func79 fb_79 (by kernel_rfl) cc_qc9 all_nil e_qc9
theorem fb_81:fnB ZP 81 Tryz.f81 []=true:=by kernel_rfl
theorem cc_qc7:CG ZP sg @call_qc7:=cg0
theorem con_qc7:SG ZP sg 81 @sem_qc7:=conD good Tryz.func81 fb_81 (by kernel_rfl) cc_qc7 all_nil e_qc7
theorem cc_qd_i1:CG ZP sg @call_qd_i1:=(cgc con_qc7 cg0)
theorem lo_qd_i1_2:LoopFor ZP sg 0 Tryz.f80 @loops_qd_i1 2:=loopC good Tryz.func80 fb_80 (by decide) cc_qd_i1 (inn:=[]) (by kernel_rfl) all_nil el_qd_i1_2 (ptC sgok (by kernel_rfl)) (outsOk (exitOk_cons (ptC sgok (by kernel_rfl)) (fun _=>rfl) exitOk_nil) (retOk_one (prC sgok (by kernel_rfl)) (fun _=>rfl)) (fun _=>rfl)) (fun b k=>match b with | .inl _=>rfl | .inr _=>rfl) (fun _ _=>rfl)
theorem con_qd_i1:SG ZP sg 80 @sem_qd_i1:=conD good Tryz.func80 fb_80 (by kernel_rfl) cc_qd_i1 (all_cons lo_qd_i1_2 all_nil) e_qd_i1
theorem fb_83:fnB ZP 83 Tryz.f83 []=true:=by kernel_rfl
theorem cc_qcc:CG ZP sg @call_qcc:=cg0
theorem con_qcc:SG ZP sg 83 @sem_qcc:=conS good Tryz.func83 fb_83 (by kernel_rfl) cc_qcc all_nil e_qcc e_qcc_nil
theorem fb_62:fnB ZP 62 Tryz.f62 []=true:=by kernel_rfl
theorem cc_qb0:CG ZP sg @call_qb0:=cg0
theorem con_qb0:SG ZP sg 62 @sem_qb0:=conD good Tryz.func62 fb_62 (by kernel_rfl) cc_qb0 all_nil e_qb0
theorem fb_166:fnB ZP 166 Tryz.f166 []=true:=by kernel_rfl
theorem cc_qd2:CG ZP sg @call_qd2:=(cgc con_qb0 (cgc (sgP con_qe7) cg0))
theorem con_qd2:SG ZP sg 166 @sem_qd2:=conD good Tryz.func166 fb_166 (by kernel_rfl) cc_qd2 all_nil e_qd2
theorem fb_162:fnB ZP 162 Tryz.f162 []=true:=by kernel_rfl
theorem cc_qbu:CG ZP sg @call_qbu:=cg0
theorem con_qbu:SG ZP sg 162 @sem_qbu:=conD good Tryz.func162 fb_162 (by kernel_rfl) cc_qbu all_nil e_qbu
theorem fb_238:fnB ZP 238 Tryz.f238 []=true:=by kernel_rfl
theorem cc_qd6:CG ZP sg @call_qd6:=(cgc con_qbu cg0)
theorem con_qd6:SG ZP sg 238 @sem_qd6:=conD good Tryz.func238 fb_238 (by kernel_rfl) cc_qd6 all_nil e_qd6
theorem fb_239:fnB ZP 239 Tryz.f239 []=true:=by kernel_rfl
theorem cc_qd0:CG ZP sg @call_qd0:=(cgc con_qbu cg0)
theorem con_qd0:SG ZP sg 239 @sem_qd0:=conD good Tryz.func239 fb_239 (by kernel_rfl) cc_qd0 all_nil e_qd0
theorem fb_241:fnB ZP 241 Tryz.f241 []=true:=by kernel_rfl
theorem cc_qcu:CG ZP sg @call_qcu:=cg0
theorem con_qcu:SG ZP sg 241 @sem_qcu:=conD good Tryz.func241 fb_241 (by kernel_rfl) cc_qcu all_nil e_qcu
theorem fb_240:fnB ZP 240 Tryz.f240 []=true:=by kernel_rfl
theorem cc_qea:CG ZP sg @call_qea:=(cgc con_qcu cg0)
theorem con_qea:SG ZP sg 240 @sem_qea:=conD good Tryz.func240 fb_240 (by kernel_rfl) cc_qea all_nil e_qea
theorem fb_163:fnB ZP 163 Tryz.f163 []=true:=by kernel_rfl
theorem cc_qda:CG ZP sg @call_qda:=(cgc con_qbu (cgc con_qd6 (cgc con_qd0 (cgc con_qea (cgc con_qcu cg0)))))
theorem con_qda:SG ZP sg 163 @sem_qda:=conD good Tryz.func163 fb_163 (by kernel_rfl) cc_qda all_nil e_qda
theorem fb_58:fnB ZP 58 Tryz.f58 [5]=true:=by kernel_rfl
theorem cc_qa3:CG ZP sg @call_qa3:=(cgc con_qc9 (cgc con_qbu (cgc con_qda cg0)))
theorem lo_qa3_5:LoopFor ZP sg 0 Tryz.f58 @loops_qa3 5:=loopC good Tryz.func58 fb_58 (by decide) cc_qa3 (inn:=[]) (by kernel_rfl) all_nil el_qa3_5 (ptC sgok (by kernel_rfl)) (outsOk (exitOk_cons (ptC sgok (by kernel_rfl)) (fun _=>rfl) exitOk_nil) (retOk_one (prC sgok (by kernel_rfl)) (fun _=>rfl)) (fun _=>rfl)) (fun b k=>match b with | .inl _=>rfl | .inr _=>rfl) (fun _ _=>rfl)
theorem con_qa3:SG ZP sg 58 @sem_qa3:=conD good Tryz.func58 fb_58 (by kernel_rfl) cc_qa3 (all_cons lo_qa3_5 all_nil) e_qa3
theorem fb_63:fnB ZP 63 Tryz.f63 [4,10,16]=true:=by kernel_rfl
theorem cc_qj:CG ZP sg @call_qj:=(cgc con_qa3 (cgc con_qaa (cgc con_qd2 cg0)))
theorem lo_qj_4:LoopFor ZP sg 0 Tryz.f63 @loops_qj 4:=loopC good Tryz.func63 fb_63 (by decide) cc_qj (inn:=[]) (by kernel_rfl) all_nil el_qj_4 (ptC sgok (by kernel_rfl)) (outsOk (exitOk_cons (ptC sgok (by kernel_rfl)) (fun _=>rfl) exitOk_nil) (retOk_one (prC sgok (by kernel_rfl)) (fun _=>rfl)) (fun _=>rfl)) (fun b k=>match b with | .inl _=>rfl | .inr _=>rfl) (fun _ _=>rfl)
theorem lo_qj_10:LoopFor ZP sg 0 Tryz.f63 @loops_qj 10:=loopC good Tryz.func63 fb_63 (by decide) cc_qj (inn:=[]) (by kernel_rfl) all_nil el_qj_10 (ptC sgok (by kernel_rfl)) (outsOk (exitOk_cons (ptC sgok (by kernel_rfl)) (fun _=>rfl) exitOk_nil) (retOk_one (prC sgok (by kernel_rfl)) (fun _=>rfl)) (fun _=>rfl)) (fun b k=>match b with | .inl _=>rfl | .inr _=>rfl) (fun _ _=>rfl)
theorem lo_qj_16:LoopFor ZP sg 0 Tryz.f63 @loops_qj 16:=loopC good Tryz.func63 fb_63 (by decide) cc_qj (inn:=[]) (by kernel_rfl) all_nil el_qj_16 (ptC sgok (by kernel_rfl)) (outsOk (exitOk_cons (ptC sgok (by kernel_rfl)) (fun _=>rfl) exitOk_nil) (retOk_one (prC sgok (by kernel_rfl)) (fun _=>rfl)) (fun _=>rfl)) (fun b k=>match b with | .inl _=>rfl | .inr _=>rfl) (fun _ _=>rfl)
theorem con_qj:SG ZP sg 63 @sem_qj:=conD good Tryz.func63 fb_63 (by kernel_rfl) cc_qj (all_cons lo_qj_4 (all_cons lo_qj_10 (all_cons lo_qj_16 all_nil))) e_qj
theorem fb_245:fnB ZP 245 Tryz.f245 []=true:=by kernel_rfl
theorem cc_qa7:CG ZP sg @call_qa7:=(cgc (sgP con_qe7) (cgc (sgP con_qfe) cg0))
theorem con_qa7:SG ZP sg 245 @sem_qa7:=conD good Tryz.func245 fb_245 (by kernel_rfl) cc_qa7 all_nil e_qa7
theorem fb_167:fnB ZP 167 Tryz.f167 [5]=true:=by kernel_rfl
theorem cc_qap:CG ZP sg @call_qap:=(cgc con_qa7 cg0)
theorem lo_qap_5:LoopFor ZP sg 0 Tryz.f167 @loops_qap 5:=loopC good Tryz.func167 fb_167 (by decide) cc_qap (inn:=[]) (by kernel_rfl) all_nil el_qap_5 (ptC sgok (by kernel_rfl)) (outsOk (exitOk_cons (ptC sgok (by kernel_rfl)) (fun _=>rfl) exitOk_nil) (retOk_one (prC sgok (by kernel_rfl)) (fun _=>rfl)) (fun _=>rfl)) (fun b k=>match b with | .inl _=>rfl | .inr _=>rfl) (fun _ _=>rfl)
theorem con_qap:SG ZP sg 167 @sem_qap:=conD good Tryz.func167 fb_167 (by kernel_rfl) cc_qap (all_cons lo_qap_5 all_nil) e_qap
theorem fb_246:fnB ZP 246 Tryz.f246 []=true:=by kernel_rfl
theorem cc_qdw:CG ZP sg @call_qdw:=cg0
theorem con_qdw:SG ZP sg 246 @sem_qdw:=conD good Tryz.func246 fb_246 (by kernel_rfl) cc_qdw all_nil e_qdw
theorem fb_219:fnB ZP 219 Tryz.f219 []=true:=by kernel_rfl
theorem cc_qc3:CG ZP sg @call_qc3:=cg0
theorem con_qc3:SG ZP sg 219 @sem_qc3:=conD good Tryz.func219 fb_219 (by kernel_rfl) cc_qc3 all_nil e_qc3
theorem fb_168:fnB ZP 168 Tryz.f168 [4]=true:=by kernel_rfl
theorem cc_qas:CG ZP sg @call_qas:=(cgc con_qc3 (cgc con_qdw cg0))
theorem lo_qas_4:LoopFor ZP sg 0 Tryz.f168 @loops_qas 4:=loopC good Tryz.func168 fb_168 (by decide) cc_qas (inn:=[]) (by kernel_rfl) all_nil el_qas_4 (ptC sgok (by kernel_rfl)) (outsOk (exitOk_cons (ptC sgok (by kernel_rfl)) (fun _=>rfl) exitOk_nil) (retOk_one (prC sgok (by kernel_rfl)) (fun _=>rfl)) (fun _=>rfl)) (fun b k=>match b with | .inl _=>rfl | .inr _=>rfl) (fun _ _=>rfl)
theorem con_qas:SG ZP sg 168 @sem_qas:=conD good Tryz.func168 fb_168 (by kernel_rfl) cc_qas (all_cons lo_qas_4 all_nil) e_qas
theorem fb_284:fnB ZP 284 Tryz.f284 []=true:=by kernel_rfl
theorem cc_qbz:CG ZP sg @call_qbz:=cg0
theorem con_qbz:SG ZP sg 284 @sem_qbz:=conD good Tryz.func284 fb_284 (by kernel_rfl) cc_qbz all_nil e_qbz
theorem fb_298:fnB ZP 298 Tryz.f298 []=true:=by kernel_rfl
theorem cc_qdn:CG ZP sg @call_qdn:=(cgc con_qbz cg0)
theorem con_qdn:SG ZP sg 298 @sem_qdn:=conD good Tryz.func298 fb_298 (by kernel_rfl) cc_qdn all_nil e_qdn
theorem fb_247:fnB ZP 247 Tryz.f247 []=true:=by kernel_rfl
theorem cc_qem:CG ZP sg @call_qem:=(cgc con_qbz (cgc con_qdn cg0))
theorem con_qem:SG ZP sg 247 @sem_qem:=conD good Tryz.func247 fb_247 (by kernel_rfl) cc_qem all_nil e_qem
theorem fb_249:fnB ZP 249 Tryz.f249 []=true:=by kernel_rfl
theorem cc_qcx:CG ZP sg @call_qcx:=cg0
theorem con_qcx:SG ZP sg 249 @sem_qcx:=conD good Tryz.func249 fb_249 (by kernel_rfl) cc_qcx all_nil e_qcx
theorem fb_248:fnB ZP 248 Tryz.f248 [2,5]=true:=by kernel_rfl
theorem cc_qc:CG ZP sg @call_qc:=(cgc con_qcx cg0)
theorem lo_qc_5:LoopFor ZP sg 0 Tryz.f248 @loops_qc 5:=loopC good Tryz.func248 fb_248 (by decide) cc_qc (inn:=[]) (by kernel_rfl) all_nil el_qc_5 (ptC sgok (by kernel_rfl)) (outsOk (exitOk_cons (ptC sgok (by kernel_rfl)) (fun _=>rfl) exitOk_nil) (retOk_one (prC sgok (by kernel_rfl)) (fun _=>rfl)) (fun _=>rfl)) (fun b k=>match b with | .inl _=>rfl | .inr _=>rfl) (fun _ _=>rfl)
theorem lo_qc_2:LoopFor ZP sg 0 Tryz.f248 @loops_qc 2:=loopC good Tryz.func248 fb_248 (by decide) cc_qc (inn:=[5]) (by kernel_rfl) (all_cons lo_qc_5 all_nil) el_qc_2 (ptC sgok (by kernel_rfl)) (outsOk (exitOk_cons (ptC sgok (by kernel_rfl)) (fun _=>rfl) exitOk_nil) (retOk_one (prC sgok (by kernel_rfl)) (fun _=>rfl)) (fun _=>rfl)) (fun b k=>match b with | .inl _=>rfl | .inr _=>rfl) (fun _ _=>rfl)
theorem con_qc:SG ZP sg 248 @sem_qc:=conD good Tryz.func248 fb_248 (by kernel_rfl) cc_qc (all_cons lo_qc_2 (all_cons lo_qc_5 all_nil)) e_qc
theorem fb_250:fnB ZP 250 Tryz.f250 []=true:=by kernel_rfl
theorem cc_qcw:CG ZP sg @call_qcw:=cg0
theorem con_qcw:SG ZP sg 250 @sem_qcw:=conD good Tryz.func250 fb_250 (by kernel_rfl) cc_qcw all_nil e_qcw
theorem cc_qc_i1:CG ZP sg @call_qc_i1:=(cgc con_qcw cg0)
theorem lo_qc_i1_5:LoopFor ZP sg 0 Tryz.f248 @loops_qc_i1 5:=loopC good Tryz.func248 fb_248 (by decide) cc_qc_i1 (inn:=[]) (by kernel_rfl) all_nil el_qc_i1_5 (ptC sgok (by kernel_rfl)) (outsOk (exitOk_cons (ptC sgok (by kernel_rfl)) (fun _=>rfl) exitOk_nil) (retOk_one (prC sgok (by kernel_rfl)) (fun _=>rfl)) (fun _=>rfl)) (fun b k=>match b with | .inl _=>rfl | .inr _=>rfl) (fun _ _=>rfl)
theorem lo_qc_i1_2:LoopFor ZP sg 0 Tryz.f248 @loops_qc_i1 2:=loopC good Tryz.func248 fb_248 (by decide) cc_qc_i1 (inn:=[5]) (by kernel_rfl) (all_cons lo_qc_i1_5 all_nil) el_qc_i1_2 (ptC sgok (by kernel_rfl)) (outsOk (exitOk_cons (ptC sgok (by kernel_rfl)) (fun _=>rfl) exitOk_nil) (retOk_one (prC sgok (by kernel_rfl)) (fun _=>rfl)) (fun _=>rfl)) (fun b k=>match b with | .inl _=>rfl | .inr _=>rfl) (fun _ _=>rfl)
theorem con_qc_i1:SG ZP sg 248 @sem_qc_i1:=conD good Tryz.func248 fb_248 (by kernel_rfl) cc_qc_i1 (all_cons lo_qc_i1_2 (all_cons lo_qc_i1_5 all_nil)) e_qc_i1
theorem fb_169:fnB ZP 169 Tryz.f169 [4]=true:=by kernel_rfl
theorem cc_qf:CG ZP sg @call_qf:=(cgc con_qem (cgc (sgi con_qc (sgi con_qc_i1 sg0)) cg0))
theorem lo_qf_4:LoopFor ZP sg 0 Tryz.f169 @loops_qf 4:=loopC good Tryz.func169 fb_169 (by decide) cc_qf (inn:=[]) (by kernel_rfl) all_nil el_qf_4 (ptC sgok (by kernel_rfl)) (outsOk (exitOk_cons (ptC sgok (by kernel_rfl)) (fun _=>rfl) exitOk_nil) (retOk_one (prC sgok (by kernel_rfl)) (fun _=>rfl)) (fun _=>rfl)) (fun b k=>match b with | .inl _=>rfl | .inr _=>rfl) (fun _ _=>rfl)
theorem con_qf:SG ZP sg 169 @sem_qf:=conD good Tryz.func169 fb_169 (by kernel_rfl) cc_qf (all_cons lo_qf_4 all_nil) e_qf
theorem fb_299:fnB ZP 299 Tryz.f299 []=true:=by kernel_rfl
theorem cc_qdt:CG ZP sg @call_qdt:=cg0
theorem con_qdt:SG ZP sg 299 @sem_qdt:=conD good Tryz.func299 fb_299 (by kernel_rfl) cc_qdt all_nil e_qdt
theorem fb_280:fnB ZP 280 Tryz.f280 []=true:=by kernel_rfl
theorem cc_qc2:CG ZP sg @call_qc2:=cg0
theorem con_qc2:SG ZP sg 280 @sem_qc2:=conD good Tryz.func280 fb_280 (by kernel_rfl) cc_qc2 all_nil e_qc2
theorem fb_251:fnB ZP 251 Tryz.f251 []=true:=by kernel_rfl
theorem cc_qay:CG ZP sg @call_qay:=(cgc con_qc2 (cgc con_qdt cg0))
theorem con_qay:SG ZP sg 251 @sem_qay:=conD good Tryz.func251 fb_251 (by kernel_rfl) cc_qay all_nil e_qay
theorem fb_170:fnB ZP 170 Tryz.f170 [4]=true:=by kernel_rfl
theorem cc_qat:CG ZP sg @call_qat:=(cgc con_qay cg0)
theorem lo_qat_4:LoopFor ZP sg 0 Tryz.f170 @loops_qat 4:=loopC good Tryz.func170 fb_170 (by decide) cc_qat (inn:=[]) (by kernel_rfl) all_nil el_qat_4 (ptC sgok (by kernel_rfl)) (outsOk (exitOk_cons (ptC sgok (by kernel_rfl)) (fun _=>rfl) exitOk_nil) (retOk_one (prC sgok (by kernel_rfl)) (fun _=>rfl)) (fun _=>rfl)) (fun b k=>match b with | .inl _=>rfl | .inr _=>rfl) (fun _ _=>rfl)
theorem con_qat:SG ZP sg 170 @sem_qat:=conD good Tryz.func170 fb_170 (by kernel_rfl) cc_qat (all_cons lo_qat_4 all_nil) e_qat
theorem fb_268:fnB ZP 268 Tryz.f268 []=true:=by kernel_rfl
theorem cc_qbw:CG ZP sg @call_qbw:=cg0
theorem con_qbw:SG ZP sg 268 @sem_qbw:=conD good Tryz.func268 fb_268 (by kernel_rfl) cc_qbw all_nil e_qbw
theorem fb_252:fnB ZP 252 Tryz.f252 []=true:=by kernel_rfl
theorem cc_qd5:CG ZP sg @call_qd5:=(cgc con_qbw cg0)
theorem con_qd5:SG ZP sg 252 @sem_qd5:=conD good Tryz.func252 fb_252 (by kernel_rfl) cc_qd5 all_nil e_qd5
theorem fb_253:fnB ZP 253 Tryz.f253 []=true:=by kernel_rfl
theorem cc_qcg:CG ZP sg @call_qcg:=cg0
theorem con_qcg:SG ZP sg 253 @sem_qcg:=conD good Tryz.func253 fb_253 (by kernel_rfl) cc_qcg all_nil e_qcg
theorem fb_300:fnB ZP 300 Tryz.f300 [2]=true:=by kernel_rfl
theorem cc_qaz:CG ZP sg @call_qaz:=(cgc con_qcg cg0)
theorem lo_qaz_2:LoopFor ZP sg 0 Tryz.f300 @loops_qaz 2:=loopC good Tryz.func300 fb_300 (by decide) cc_qaz (inn:=[]) (by kernel_rfl) all_nil el_qaz_2 (ptC sgok (by kernel_rfl)) (outsOk (exitOk_cons (ptC sgok (by kernel_rfl)) (fun _=>rfl) exitOk_nil) (retOk_one (prC sgok (by kernel_rfl)) (fun _=>rfl)) (fun _=>rfl)) (fun b k=>match b with | .inl _=>rfl | .inr _=>rfl) (fun _ _=>rfl)
theorem con_qaz:SG ZP sg 300 @sem_qaz:=conD good Tryz.func300 fb_300 (by kernel_rfl) cc_qaz (all_cons lo_qaz_2 all_nil) e_qaz
theorem fb_254:fnB ZP 254 Tryz.f254 []=true:=by kernel_rfl
theorem cc_qdx:CG ZP sg @call_qdx:=(cgc con_qcg (cgc con_qaz cg0))
theorem con_qdx:SG ZP sg 254 @sem_qdx:=conD good Tryz.func254 fb_254 (by kernel_rfl) cc_qdx all_nil e_qdx
theorem fb_171:fnB ZP 171 Tryz.f171 [4]=true:=by kernel_rfl
theorem cc_qr:CG ZP sg @call_qr:=(cgc con_qd5 (cgc con_qdx cg0))
theorem lo_qr_4:LoopFor ZP sg 0 Tryz.f171 @loops_qr 4:=loopC good Tryz.func171 fb_171 (by decide) cc_qr (inn:=[]) (by kernel_rfl) all_nil el_qr_4 (ptC sgok (by kernel_rfl)) (outsOk (exitOk_cons (ptC sgok (by kernel_rfl)) (fun _=>rfl) exitOk_nil) (retOk_one (prC sgok (by kernel_rfl)) (fun _=>rfl)) (fun _=>rfl)) (fun b k=>match b with | .inl _=>rfl | .inr _=>rfl) (fun _ _=>rfl)
theorem con_qr:SG ZP sg 171 @sem_qr:=conD good Tryz.func171 fb_171 (by kernel_rfl) cc_qr (all_cons lo_qr_4 all_nil) e_qr
theorem fb_257:fnB ZP 257 Tryz.f257 []=true:=by kernel_rfl
theorem cc_qch:CG ZP sg @call_qch:=cg0
theorem con_qch:SG ZP sg 257 @sem_qch:=conD good Tryz.func257 fb_257 (by kernel_rfl) cc_qch all_nil e_qch
theorem fb_256:fnB ZP 256 Tryz.f256 []=true:=by kernel_rfl
theorem cc_qcf:CG ZP sg @call_qcf:=(cgc con_qch cg0)
theorem con_qcf:SG ZP sg 256 @sem_qcf:=conD good Tryz.func256 fb_256 (by kernel_rfl) cc_qcf all_nil e_qcf
theorem fb_301:fnB ZP 301 Tryz.f301 [2]=true:=by kernel_rfl
theorem cc_qa0:CG ZP sg @call_qa0:=(cgc con_qcf cg0)
theorem lo_qa0_2:LoopFor ZP sg 0 Tryz.f301 @loops_qa0 2:=loopC good Tryz.func301 fb_301 (by decide) cc_qa0 (inn:=[]) (by kernel_rfl) all_nil el_qa0_2 (ptC sgok (by kernel_rfl)) (outsOk (exitOk_cons (ptC sgok (by kernel_rfl)) (fun _=>rfl) exitOk_nil) (retOk_one (prC sgok (by kernel_rfl)) (fun _=>rfl)) (fun _=>rfl)) (fun b k=>match b with | .inl _=>rfl | .inr _=>rfl) (fun _ _=>rfl)
theorem con_qa0:SG ZP sg 301 @sem_qa0:=conD good Tryz.func301 fb_301 (by kernel_rfl) cc_qa0 (all_cons lo_qa0_2 all_nil) e_qa0
theorem fb_255:fnB ZP 255 Tryz.f255 []=true:=by kernel_rfl
theorem cc_qdy:CG ZP sg @call_qdy:=(cgc con_qcf (cgc con_qa0 cg0))
theorem con_qdy:SG ZP sg 255 @sem_qdy:=conD good Tryz.func255 fb_255 (by kernel_rfl) cc_qdy all_nil e_qdy
theorem fb_172:fnB ZP 172 Tryz.f172 [8]=true:=by kernel_rfl
theorem cc_qq:CG ZP sg @call_qq:=(cgc con_qdy cg0)
theorem lo_qq_8:LoopFor ZP sg 0 Tryz.f172 @loops_qq 8:=loopC good Tryz.func172 fb_172 (by decide) cc_qq (inn:=[]) (by kernel_rfl) all_nil el_qq_8 (ptC sgok (by kernel_rfl)) (outsOk (exitOk_cons (ptC sgok (by kernel_rfl)) (fun _=>rfl) exitOk_nil) (retOk_one (prC sgok (by kernel_rfl)) (fun _=>rfl)) (fun _=>rfl)) (fun b k=>match b with | .inl _=>rfl | .inr _=>rfl) (fun _ _=>rfl)
theorem con_qq:SG ZP sg 172 @sem_qq:=conD good Tryz.func172 fb_172 (by kernel_rfl) cc_qq (all_cons lo_qq_8 all_nil) e_qq
theorem fb_64:fnB ZP 64 Tryz.f64 [4,12,18]=true:=by kernel_rfl
theorem cc_qi:CG ZP sg @call_qi:=(cgc con_qb0 (cgc con_qap (cgc con_qas (cgc con_qf (cgc con_qat (cgc con_qr (cgc con_qq cg0)))))))
theorem lo_qi_4:LoopFor ZP sg 0 Tryz.f64 @loops_qi 4:=loopC good Tryz.func64 fb_64 (by decide) cc_qi (inn:=[]) (by kernel_rfl) all_nil el_qi_4 (ptC sgok (by kernel_rfl)) (outsOk (exitOk_cons (ptC sgok (by kernel_rfl)) (fun _=>rfl) exitOk_nil) (retOk_one (prC sgok (by kernel_rfl)) (fun _=>rfl)) (fun _=>rfl)) (fun b k=>match b with | .inl _=>rfl | .inr _=>rfl) (fun _ _=>rfl)
theorem lo_qi_12:LoopFor ZP sg 0 Tryz.f64 @loops_qi 12:=loopC good Tryz.func64 fb_64 (by decide) cc_qi (inn:=[]) (by kernel_rfl) all_nil el_qi_12 (ptC sgok (by kernel_rfl)) (outsOk (exitOk_cons (ptC sgok (by kernel_rfl)) (fun _=>rfl) exitOk_nil) (retOk_one (prC sgok (by kernel_rfl)) (fun _=>rfl)) (fun _=>rfl)) (fun b k=>match b with | .inl _=>rfl | .inr _=>rfl) (fun _ _=>rfl)
theorem lo_qi_18:LoopFor ZP sg 0 Tryz.f64 @loops_qi 18:=loopC good Tryz.func64 fb_64 (by decide) cc_qi (inn:=[]) (by kernel_rfl) all_nil el_qi_18 (ptC sgok (by kernel_rfl)) (outsOk (exitOk_cons (ptC sgok (by kernel_rfl)) (fun _=>rfl) exitOk_nil) (retOk_one (prC sgok (by kernel_rfl)) (fun _=>rfl)) (fun _=>rfl)) (fun b k=>match b with | .inl _=>rfl | .inr _=>rfl) (fun _ _=>rfl)
theorem con_qi:SG ZP sg 64 @sem_qi:=conD good Tryz.func64 fb_64 (by kernel_rfl) cc_qi (all_cons lo_qi_4 (all_cons lo_qi_12 (all_cons lo_qi_18 all_nil))) e_qi
theorem fb_265:fnB ZP 265 Tryz.f265 []=true:=by kernel_rfl
theorem cc_qc4:CG ZP sg @call_qc4:=cg0
theorem con_qc4:SG ZP sg 265 @sem_qc4:=conD good Tryz.func265 fb_265 (by kernel_rfl) cc_qc4 all_nil e_qc4
theorem fb_185:fnB ZP 185 Tryz.f185 [2]=true:=by kernel_rfl
theorem cc_ql:CG ZP sg @call_ql:=(cgc con_qc4 cg0)
theorem lo_ql_2:LoopFor ZP sg 0 Tryz.f185 @loops_ql 2:=loopC good Tryz.func185 fb_185 (by decide) cc_ql (inn:=[]) (by kernel_rfl) all_nil el_ql_2 (ptC sgok (by kernel_rfl)) (outsOk (exitOk_cons (ptC sgok (by kernel_rfl)) (fun _=>rfl) exitOk_nil) (retOk_one (prC sgok (by kernel_rfl)) (fun _=>rfl)) (fun _=>rfl)) (fun b k=>match b with | .inl _=>rfl | .inr _=>rfl) (fun _ _=>rfl)
theorem con_ql:SG ZP sg 185 @sem_ql:=conD good Tryz.func185 fb_185 (by kernel_rfl) cc_ql (all_cons lo_ql_2 all_nil) e_ql
theorem fb_184:fnB ZP 184 Tryz.f184 []=true:=by kernel_rfl
theorem cc_qah:CG ZP sg @call_qah:=(cgc con_ql cg0)
theorem con_qah:SG ZP sg 184 @sem_qah:=conD good Tryz.func184 fb_184 (by kernel_rfl) cc_qah all_nil e_qah
theorem fb_90:fnB ZP 90 Tryz.f90 []=true:=by kernel_rfl
theorem cc_qb4:CG ZP sg @call_qb4:=(cgc con_qah cg0)
theorem con_qb4:SG ZP sg 90 @sem_qb4:=conD good Tryz.func90 fb_90 (by kernel_rfl) cc_qb4 all_nil e_qb4
theorem fb_173:fnB ZP 173 Tryz.f173 []=true:=by kernel_rfl
theorem cc_qbs:CG ZP sg @call_qbs:=(cgc con_qb4 cg0)
theorem con_qbs:SG ZP sg 173 @sem_qbs:=conD good Tryz.func173 fb_173 (by kernel_rfl) cc_qbs all_nil e_qbs
theorem fb_65:fnB ZP 65 Tryz.f65 [3,9,15]=true:=by kernel_rfl
theorem cc_qe:CG ZP sg @call_qe:=(cgc con_qaa (cgc con_qbs cg0))
theorem lo_qe_3:LoopFor ZP sg 0 Tryz.f65 @loops_qe 3:=loopC good Tryz.func65 fb_65 (by decide) cc_qe (inn:=[]) (by kernel_rfl) all_nil el_qe_3 (ptC sgok (by kernel_rfl)) (outsOk (exitOk_cons (ptC sgok (by kernel_rfl)) (fun _=>rfl) exitOk_nil) (retOk_one (prC sgok (by kernel_rfl)) (fun _=>rfl)) (fun _=>rfl)) (fun b k=>match b with | .inl _=>rfl | .inr _=>rfl) (fun _ _=>rfl)
theorem lo_qe_9:LoopFor ZP sg 0 Tryz.f65 @loops_qe 9:=loopC good Tryz.func65 fb_65 (by decide) cc_qe (inn:=[]) (by kernel_rfl) all_nil el_qe_9 (ptC sgok (by kernel_rfl)) (outsOk (exitOk_cons (ptC sgok (by kernel_rfl)) (fun _=>rfl) exitOk_nil) (retOk_one (prC sgok (by kernel_rfl)) (fun _=>rfl)) (fun _=>rfl)) (fun b k=>match b with | .inl _=>rfl | .inr _=>rfl) (fun _ _=>rfl)
theorem lo_qe_15:LoopFor ZP sg 0 Tryz.f65 @loops_qe 15:=loopC good Tryz.func65 fb_65 (by decide) cc_qe (inn:=[]) (by kernel_rfl) all_nil el_qe_15 (ptC sgok (by kernel_rfl)) (outsOk (exitOk_cons (ptC sgok (by kernel_rfl)) (fun _=>rfl) exitOk_nil) (retOk_one (prC sgok (by kernel_rfl)) (fun _=>rfl)) (fun _=>rfl)) (fun b k=>match b with | .inl _=>rfl | .inr _=>rfl) (fun _ _=>rfl)
theorem con_qe:SG ZP sg 65 @sem_qe:=conD good Tryz.func65 fb_65 (by kernel_rfl) cc_qe (all_cons lo_qe_3 (all_cons lo_qe_9 (all_cons lo_qe_15 all_nil))) e_qe
theorem fb_165:fnB ZP 165 Tryz.f165 []=true:=by kernel_rfl
theorem cc_q8:CG ZP sg @call_q8:=cg0
theorem con_q8:SG ZP sg 165 @sem_q8:=conD good Tryz.func165 fb_165 (by kernel_rfl) cc_q8 all_nil e_q8
theorem fb_243:fnB ZP 243 Tryz.f243 []=true:=by kernel_rfl
theorem cc_qb9:CG ZP sg @call_qb9:=cg0
theorem con_qb9:SG ZP sg 243 @sem_qb9:=conD good Tryz.func243 fb_243 (by kernel_rfl) cc_qb9 all_nil e_qb9
theorem fb_242:fnB ZP 242 Tryz.f242 [2]=true:=by kernel_rfl
theorem cc_qm:CG ZP sg @call_qm:=(cgc con_qb9 cg0)
theorem lo_qm_2:LoopFor ZP sg 0 Tryz.f242 @loops_qm 2:=loopC good Tryz.func242 fb_242 (by decide) cc_qm (inn:=[]) (by kernel_rfl) all_nil el_qm_2 (ptC sgok (by kernel_rfl)) (outsOk (exitOk_cons (ptC sgok (by kernel_rfl)) (fun _=>rfl) exitOk_nil) (retOk_one (prC sgok (by kernel_rfl)) (fun _=>rfl)) (fun _=>rfl)) (fun b k=>match b with | .inl _=>rfl | .inr _=>rfl) (fun _ _=>rfl)
theorem con_qm:SG ZP sg 242 @sem_qm:=conD good Tryz.func242 fb_242 (by kernel_rfl) cc_qm (all_cons lo_qm_2 all_nil) e_qm
theorem fb_164:fnB ZP 164 Tryz.f164 []=true:=by kernel_rfl
theorem cc_qac:CG ZP sg @call_qac:=(cgc con_qm (cgc con_qb9 cg0))
theorem con_qac:SG ZP sg 164 @sem_qac:=conD good Tryz.func164 fb_164 (by kernel_rfl) cc_qac all_nil e_qac
theorem fb_59:fnB ZP 59 Tryz.f59 []=true:=by kernel_rfl
theorem cc_qco:CG ZP sg @call_qco:=(cgc con_qac (cgc con_q8 cg0))
theorem con_qco:SG ZP sg 59 @sem_qco:=conD good Tryz.func59 fb_59 (by kernel_rfl) cc_qco all_nil e_qco
theorem fb_66:fnB ZP 66 Tryz.f66 [2]=true:=by kernel_rfl
theorem cc_qa1:CG ZP sg @call_qa1:=(cgc con_qco cg0)
theorem lo_qa1_2:LoopFor ZP sg 0 Tryz.f66 @loops_qa1 2:=loopC good Tryz.func66 fb_66 (by decide) cc_qa1 (inn:=[]) (by kernel_rfl) all_nil el_qa1_2 (ptC sgok (by kernel_rfl)) (outsOk (exitOk_cons (ptC sgok (by kernel_rfl)) (fun _=>rfl) exitOk_nil) (retOk_one (prC sgok (by kernel_rfl)) (fun _=>rfl)) (fun _=>rfl)) (fun b k=>match b with | .inl _=>rfl | .inr _=>rfl) (fun _ _=>rfl)
theorem con_qa1:SG ZP sg 66 @sem_qa1:=conD good Tryz.func66 fb_66 (by kernel_rfl) cc_qa1 (all_cons lo_qa1_2 all_nil) e_qa1
theorem fb_197:fnB ZP 197 Tryz.f197 []=true:=by kernel_rfl
theorem cc_qdb:CG ZP sg @call_qdb:=cg0
theorem con_qdb:SG ZP sg 197 @sem_qdb:=conD good Tryz.func197 fb_197 (by kernel_rfl) cc_qdb all_nil e_qdb
theorem fb_99:fnB ZP 99 Tryz.f99 [2]=true:=by kernel_rfl
theorem cc_qa:CG ZP sg @call_qa:=(cgc con_qdb cg0)
theorem lo_qa_2:LoopFor ZP sg 0 Tryz.f99 @loops_qa 2:=loopC good Tryz.func99 fb_99 (by decide) cc_qa (inn:=[]) (by kernel_rfl) all_nil el_qa_2 (ptC sgok (by kernel_rfl)) (outsOk (exitOk_cons (ptC sgok (by kernel_rfl)) (fun _=>rfl) exitOk_nil) (retOk_one (prC sgok (by kernel_rfl)) (fun _=>rfl)) (fun _=>rfl)) (fun b k=>match b with | .inl _=>rfl | .inr _=>rfl) (fun _ _=>rfl)
theorem con_qa:SG ZP sg 99 @sem_qa:=conD good Tryz.func99 fb_99 (by kernel_rfl) cc_qa (all_cons lo_qa_2 all_nil) e_qa
theorem fb_96:fnB ZP 96 Tryz.f96 []=true:=by kernel_rfl
theorem cc_qad:CG ZP sg @call_qad:=(cgc con_qa cg0)
theorem con_qad:SG ZP sg 96 @sem_qad:=conD good Tryz.func96 fb_96 (by kernel_rfl) cc_qad all_nil e_qad
theorem fb_67:fnB ZP 67 Tryz.f67 [2,16]=true:=by kernel_rfl
theorem cc_qv:CG ZP sg @call_qv:=(cgc con_qaa (cgc con_qad cg0))
theorem lo_qv_2:LoopFor ZP sg 0 Tryz.f67 @loops_qv 2:=loopC good Tryz.func67 fb_67 (by decide) cc_qv (inn:=[]) (by kernel_rfl) all_nil el_qv_2 (ptC sgok (by kernel_rfl)) (outsOk (exitOk_cons (ptC sgok (by kernel_rfl)) (fun _=>rfl) exitOk_nil) (retOk_one (prC sgok (by kernel_rfl)) (fun _=>rfl)) (fun _=>rfl)) (fun b k=>match b with | .inl _=>rfl | .inr _=>rfl) (fun _ _=>rfl)
theorem lo_qv_16:LoopFor ZP sg 0 Tryz.f67 @loops_qv 16:=loopC good Tryz.func67 fb_67 (by decide) cc_qv (inn:=[]) (by kernel_rfl) all_nil el_qv_16 (ptC sgok (by kernel_rfl)) (outsOk (exitOk_cons (ptC sgok (by kernel_rfl)) (fun _=>rfl) exitOk_nil) (retOk_one (prC sgok (by kernel_rfl)) (fun _=>rfl)) (fun _=>rfl)) (fun b k=>match b with | .inl _=>rfl | .inr _=>rfl) (fun _ _=>rfl)
theorem con_qv:SG ZP sg 67 @sem_qv:=conD good Tryz.func67 fb_67 (by kernel_rfl) cc_qv (all_cons lo_qv_2 (all_cons lo_qv_16 all_nil)) e_qv
theorem fb_20:fnB ZP 20 Tryz.f20 []=true:=by kernel_rfl
theorem cc_qdj:CG ZP sg @call_qdj:=(cgc con_qb0 (cgc con_qj (cgc con_qi (cgc con_qe (cgc con_qa1 (cgc con_qv cg0))))))
theorem con_qdj:SG ZP sg 20 @sem_qdj:=conD good Tryz.func20 fb_20 (by kernel_rfl) cc_qdj all_nil e_qdj
theorem fb_23:fnB ZP 23 Tryz.f23 []=true:=by kernel_rfl
theorem cc_qai:CG ZP sg @call_qai:=(cgc con_qdj (cgc con_qaa (cgc con_qc9 (cgc con_qd_i1 (cgc (sgP con_qfb) (cgc con_qcc cg0))))))
theorem con_qai:SG ZP sg 23 @sem_qai:=conD good Tryz.func23 fb_23 (by kernel_rfl) cc_qai all_nil e_qai
theorem fb_186:fnB ZP 186 Tryz.f186 []=true:=by kernel_rfl
theorem cc_qdd:CG ZP sg @call_qdd:=cg0
theorem con_qdd:SG ZP sg 186 @sem_qdd:=conD good Tryz.func186 fb_186 (by kernel_rfl) cc_qdd all_nil e_qdd
theorem cc_ql_i1:CG ZP sg @call_ql_i1:=(cgc con_qdd cg0)
theorem lo_ql_i1_2:LoopFor ZP sg 0 Tryz.f185 @loops_ql_i1 2:=loopC good Tryz.func185 fb_185 (by decide) cc_ql_i1 (inn:=[]) (by kernel_rfl) all_nil el_ql_i1_2 (ptC sgok (by kernel_rfl)) (outsOk (exitOk_cons (ptC sgok (by kernel_rfl)) (fun _=>rfl) exitOk_nil) (retOk_one (prC sgok (by kernel_rfl)) (fun _=>rfl)) (fun _=>rfl)) (fun b k=>match b with | .inl _=>rfl | .inr _=>rfl) (fun _ _=>rfl)
theorem con_ql_i1:SG ZP sg 185 @sem_ql_i1:=conD good Tryz.func185 fb_185 (by kernel_rfl) cc_ql_i1 (all_cons lo_ql_i1_2 all_nil) e_ql_i1
theorem fb_189:fnB ZP 189 Tryz.f189 []=true:=by kernel_rfl
theorem cc_qcs:CG ZP sg @call_qcs:=cg0
theorem con_qcs:SG ZP sg 189 @sem_qcs:=conS good Tryz.func189 fb_189 (by kernel_rfl) cc_qcs all_nil e_qcs e_qcs_nil
theorem fb_187:fnB ZP 187 Tryz.f187 []=true:=by kernel_rfl
theorem cc_qd1:CG ZP sg @call_qd1:=(cgc con_qap cg0)
theorem con_qd1:SG ZP sg 187 @sem_qd1:=conD good Tryz.func187 fb_187 (by kernel_rfl) cc_qd1 all_nil e_qd1
theorem fb_86:fnB ZP 86 Tryz.f86 []=true:=by kernel_rfl
theorem cc_qar:CG ZP sg @call_qar:=(cgc con_qah (cgc con_ql_i1 (cgc con_qd1 (cgc (sgP con_qe9) (cgc con_qcs cg0)))))
theorem con_qar:SG ZP sg 86 @sem_qar:=conD good Tryz.func86 fb_86 (by kernel_rfl) cc_qar all_nil e_qar
theorem fb_25:fnB ZP 25 Tryz.f25 []=true:=by kernel_rfl
theorem cc_qc1:CG ZP sg @call_qc1:=(cgc con_qar cg0)
theorem con_qc1:SG ZP sg 25 @sem_qc1:=conD good Tryz.func25 fb_25 (by kernel_rfl) cc_qc1 all_nil e_qc1
theorem fb_60:fnB ZP 60 Tryz.f60 []=true:=by kernel_rfl
theorem cc_qd9:CG ZP sg @call_qd9:=(cgc con_qe3 (cgc con_qai (cgc con_qc1 cg0)))
theorem con_qd9:SG ZP sg 60 @sem_qd9:=conD good Tryz.func60 fb_60 (by kernel_rfl) cc_qd9 all_nil e_qd9
theorem fb_88:fnB ZP 88 Tryz.f88 []=true:=by kernel_rfl
theorem cc_qby:CG ZP sg @call_qby:=cg0
theorem con_qby:SG ZP sg 88 @sem_qby:=conN good Tryz.func88 fb_88 (by kernel_rfl) cc_qby all_nil e_qby
theorem fb_91:fnB ZP 91 Tryz.f91 []=true:=by kernel_rfl
theorem cc_qa4:CG ZP sg @call_qa4:=cg0
theorem con_qa4:SG ZP sg 91 @sem_qa4:=conM good Tryz.func91 fb_91 (by kernel_rfl) cc_qa4 all_nil e_qa4
theorem fb_89:fnB ZP 89 Tryz.f89 []=true:=by kernel_rfl
theorem cc_qb8:CG ZP sg @call_qb8:=(cgc con_qaa (cgc con_qa4 cg0))
theorem con_qb8:SG ZP sg 89 @sem_qb8:=conM good Tryz.func89 fb_89 (by kernel_rfl) cc_qb8 all_nil e_qb8
theorem fb_192:fnB ZP 192 Tryz.f192 []=true:=by kernel_rfl
theorem cc_qct:CG ZP sg @call_qct:=cg0
theorem con_qct:SG ZP sg 192 @sem_qct:=conS good Tryz.func192 fb_192 (by kernel_rfl) cc_qct all_nil e_qct e_qct_nil
theorem fb_93:fnB ZP 93 Tryz.f93 []=true:=by kernel_rfl
theorem cc_qbh:CG ZP sg @call_qbh:=(cgc con_qcc (cgc con_qa4 (cgc con_qda (cgc con_qct cg0))))
theorem con_qbh:SG ZP sg 93 @sem_qbh:=conM good Tryz.func93 fb_93 (by kernel_rfl) cc_qbh all_nil e_qbh
theorem fb_222:fnB ZP 222 Tryz.f222 []=true:=by kernel_rfl
theorem cc_qbv:CG ZP sg @call_qbv:=cg0
theorem con_qbv:SG ZP sg 222 @sem_qbv:=conD good Tryz.func222 fb_222 (by kernel_rfl) cc_qbv all_nil e_qbv
theorem fb_316:fnB ZP 316 Tryz.f316 [1,4]=true:=by kernel_rfl
theorem cc_q9:CG ZP sg @call_q9:=(cgc con_qbv cg0)
theorem lo_q9_4:LoopFor ZP sg MA Tryz.f316 @loops_q9 4:=loopC good Tryz.func316 fb_316 (by decide) cc_q9 (inn:=[]) (by kernel_rfl) all_nil el_q9_4 (ptC sgok (by kernel_rfl)) (outsOk (exitOk_cons (ptC sgok (by kernel_rfl)) (fun _=>rfl) exitOk_nil) retOk_nil (fun _=>rfl)) (fun _ _=>rfl) (fun _ _=>rfl)
theorem lo_q9_1:LoopFor ZP sg MA Tryz.f316 @loops_q9 1:=loopC good Tryz.func316 fb_316 (by decide) cc_q9 (inn:=[4]) (by kernel_rfl) (all_cons lo_q9_4 all_nil) el_q9_1 (ptC sgok (by kernel_rfl)) (outsOk (exitOk_cons (ptC sgok (by kernel_rfl)) (fun _=>rfl) exitOk_nil) retOk_nil (fun _=>rfl)) (fun _ _=>rfl) (fun _ _=>rfl)
theorem con_q9:SG ZP sg 316 @sem_q9:=conI good Tryz.func316 fb_316 (by kernel_rfl) cc_q9 (all_cons lo_q9_1 (all_cons lo_q9_4 all_nil)) e_q9
theorem fb_291:fnB ZP 291 Tryz.f291 [2,7,9]=true:=by kernel_rfl
theorem cc_qn:CG ZP sg @call_qn:=(cgc con_qbv (cgc con_q9 (cgc (sgP con_qe8) cg0)))
theorem lo_qn_2:LoopFor ZP sg MA Tryz.f291 @loops_qn 2:=loopC good Tryz.func291 fb_291 (by decide) cc_qn (inn:=[]) (by kernel_rfl) all_nil el_qn_2 (ptC sgok (by kernel_rfl)) (outsOk (exitOk_cons (ptC sgok (by kernel_rfl)) (fun _=>rfl) exitOk_nil) retOk_nil (fun _=>rfl)) (fun _ _=>rfl) (fun _ _=>rfl)
theorem lo_qn_9:LoopFor ZP sg MA Tryz.f291 @loops_qn 9:=loopC good Tryz.func291 fb_291 (by decide) cc_qn (inn:=[]) (by kernel_rfl) all_nil el_qn_9 (ptC sgok (by kernel_rfl)) (outsOk (exitOk_cons (ptC sgok (by kernel_rfl)) (fun _=>rfl) exitOk_nil) retOk_nil (fun _=>rfl)) (fun _ _=>rfl) (fun _ _=>rfl)
theorem lo_qn_7:LoopFor ZP sg MA Tryz.f291 @loops_qn 7:=loopC good Tryz.func291 fb_291 (by decide) cc_qn (inn:=[9]) (by kernel_rfl) (all_cons lo_qn_9 all_nil) el_qn_7 (ptC sgok (by kernel_rfl)) (outsOk (exitOk_cons (ptC sgok (by kernel_rfl)) (fun _=>rfl) exitOk_nil) retOk_nil (fun _=>rfl)) (fun _ _=>rfl) (fun _ _=>rfl)
theorem con_qn:SG ZP sg 291 @sem_qn:=conI good Tryz.func291 fb_291 (by kernel_rfl) cc_qn (all_cons lo_qn_2 (all_cons lo_qn_7 (all_cons lo_qn_9 all_nil))) e_qn
theorem fb_221:fnB ZP 221 Tryz.f221 []=true:=by kernel_rfl
theorem cc_qe5:CG ZP sg @call_qe5:=(cgc con_qbv (cgc con_qn cg0))
theorem con_qe5:SG ZP sg 221 @sem_qe5:=conI good Tryz.func221 fb_221 (by kernel_rfl) cc_qe5 all_nil e_qe5
theorem fb_135:fnB ZP 135 Tryz.f135 [3]=true:=by kernel_rfl
theorem cc_qp:CG ZP sg @call_qp:=(cgc con_qe5 cg0)
theorem lo_qp_3:LoopFor ZP sg 0 Tryz.f135 @loops_qp 3:=loopC good Tryz.func135 fb_135 (by decide) cc_qp (inn:=[]) (by kernel_rfl) all_nil el_qp_3 (ptC sgok (by kernel_rfl)) (outsOk (exitOk_cons (ptC sgok (by kernel_rfl)) (fun _=>rfl) exitOk_nil) retOk_nil (fun _=>rfl)) (fun _ _=>rfl) (fun _ _=>rfl)
theorem con_qp:SG ZP sg 135 @sem_qp:=conD good Tryz.func135 fb_135 (by kernel_rfl) cc_qp (all_cons lo_qp_3 all_nil) e_qp
theorem fb_35:fnB ZP 35 Tryz.f35 [3]=true:=by kernel_rfl
theorem cc_qbd:CG ZP sg @call_qbd:=(cgc con_qp cg0)
theorem lo_qbd_3:LoopFor ZP sg 0 Tryz.f35 @loops_qbd 3:=loopC good Tryz.func35 fb_35 (by decide) cc_qbd (inn:=[]) (by kernel_rfl) all_nil el_qbd_3 (ptC sgok (by kernel_rfl)) (outsOk (exitOk_cons (ptC sgok (by kernel_rfl)) (fun _=>rfl) exitOk_nil) (retOk_one (prC sgok (by kernel_rfl)) (fun _=>rfl)) (fun _=>rfl)) (fun b k=>match b with | .inl _=>rfl | .inr _=>rfl) (fun _ _=>rfl)
theorem con_qbd:SG ZP sg 35 @sem_qbd:=conD good Tryz.func35 fb_35 (by kernel_rfl) cc_qbd (all_cons lo_qbd_3 all_nil) e_qbd
theorem fb_156:fnB ZP 156 Tryz.f156 []=true:=by kernel_rfl
theorem cc_qcp:CG ZP sg @call_qcp:=(cgc con_qbd cg0)
theorem con_qcp:SG ZP sg 156 @sem_qcp:=conD good Tryz.func156 fb_156 (by kernel_rfl) cc_qcp all_nil e_qcp
theorem fb_289:fnB ZP 289 Tryz.f289 []=true:=by kernel_rfl
theorem cc_qdf:CG ZP sg @call_qdf:=cg0
theorem con_qdf:SG ZP sg 289 @sem_qdf:=conD good Tryz.func289 fb_289 (by kernel_rfl) cc_qdf all_nil e_qdf
theorem cc_qa_i1:CG ZP sg @call_qa_i1:=(cgc con_qdf cg0)
theorem lo_qa_i1_2:LoopFor ZP sg 0 Tryz.f99 @loops_qa_i1 2:=loopC good Tryz.func99 fb_99 (by decide) cc_qa_i1 (inn:=[]) (by kernel_rfl) all_nil el_qa_i1_2 (ptC sgok (by kernel_rfl)) (outsOk (exitOk_cons (ptC sgok (by kernel_rfl)) (fun _=>rfl) exitOk_nil) (retOk_one (prC sgok (by kernel_rfl)) (fun _=>rfl)) (fun _=>rfl)) (fun b k=>match b with | .inl _=>rfl | .inr _=>rfl) (fun _ _=>rfl)
theorem con_qa_i1:SG ZP sg 99 @sem_qa_i1:=conD good Tryz.func99 fb_99 (by kernel_rfl) cc_qa_i1 (all_cons lo_qa_i1_2 all_nil) e_qa_i1
theorem fb_217:fnB ZP 217 Tryz.f217 []=true:=by kernel_rfl
theorem cc_qaf:CG ZP sg @call_qaf:=(cgc con_qa_i1 cg0)
theorem con_qaf:SG ZP sg 217 @sem_qaf:=conD good Tryz.func217 fb_217 (by kernel_rfl) cc_qaf all_nil e_qaf
theorem fb_128:fnB ZP 128 Tryz.f128 []=true:=by kernel_rfl
theorem cc_qcq:CG ZP sg @call_qcq:=(cgc con_qaf cg0)
theorem con_qcq:SG ZP sg 128 @sem_qcq:=conD good Tryz.func128 fb_128 (by kernel_rfl) cc_qcq all_nil e_qcq
theorem fb_137:fnB ZP 137 Tryz.f137 []=true:=by kernel_rfl
theorem cc_qc0:CG ZP sg @call_qc0:=(cgc con_qbh cg0)
theorem con_qc0:SG ZP sg 137 @sem_qc0:=conM good Tryz.func137 fb_137 (by kernel_rfl) cc_qc0 all_nil e_qc0
theorem fb_337:fnB ZP 337 Tryz.f337 []=true:=by kernel_rfl
theorem cc_qdm:CG ZP sg @call_qdm:=cg0
theorem con_qdm:SG ZP sg 337 @sem_qdm:=conD good Tryz.func337 fb_337 (by kernel_rfl) cc_qdm all_nil e_qdm
theorem fb_311:fnB ZP 311 Tryz.f311 []=true:=by kernel_rfl
theorem cc_qax:CG ZP sg @call_qax:=(cgc con_qdm cg0)
theorem con_qax:SG ZP sg 311 @sem_qax:=conD good Tryz.func311 fb_311 (by kernel_rfl) cc_qax all_nil e_qax
theorem fb_312:fnB ZP 312 Tryz.f312 [3]=true:=by kernel_rfl
theorem cc_qbi:CG ZP sg @call_qbi:=cg0
theorem lo_qbi_3:LoopFor ZP sg 0 Tryz.f312 @loops_qbi 3:=loopC good Tryz.func312 fb_312 (by decide) cc_qbi (inn:=[]) (by kernel_rfl) all_nil el_qbi_3 (ptC sgok (by kernel_rfl)) (outsOk (exitOk_cons (ptC sgok (by kernel_rfl)) (fun _=>rfl) exitOk_nil) retOk_nil (fun _=>rfl)) (fun _ _=>rfl) (fun _ _=>rfl)
theorem con_qbi:SG ZP sg 312 @sem_qbi:=conD good Tryz.func312 fb_312 (by kernel_rfl) cc_qbi (all_cons lo_qbi_3 all_nil) e_qbi
theorem fb_287:fnB ZP 287 Tryz.f287 [3]=true:=by kernel_rfl
theorem cc_qbn:CG ZP sg @call_qbn:=(cgc con_qax (cgc con_qbi cg0))
theorem lo_qbn_3:LoopFor ZP sg 0 Tryz.f287 @loops_qbn 3:=loopC good Tryz.func287 fb_287 (by decide) cc_qbn (inn:=[]) (by kernel_rfl) all_nil el_qbn_3 (ptC sgok (by kernel_rfl)) (outsOk (exitOk_cons (ptC sgok (by kernel_rfl)) (fun _=>rfl) exitOk_nil) retOk_nil (fun _=>rfl)) (fun _ _=>rfl) (fun _ _=>rfl)
theorem con_qbn:SG ZP sg 287 @sem_qbn:=conD good Tryz.func287 fb_287 (by kernel_rfl) cc_qbn (all_cons lo_qbn_3 all_nil) e_qbn
theorem fb_211:fnB ZP 211 Tryz.f211 []=true:=by kernel_rfl
theorem cc_qee:CG ZP sg @call_qee:=(cgc con_qbn cg0)
theorem con_qee:SG ZP sg 211 @sem_qee:=conD good Tryz.func211 fb_211 (by kernel_rfl) cc_qee all_nil e_qee
theorem fb_118:fnB ZP 118 Tryz.f118 []=true:=by kernel_rfl
theorem cc_qbx:CG ZP sg @call_qbx:=(cgc con_qb4 (cgc con_qee cg0))
theorem con_qbx:SG ZP sg 118 @sem_qbx:=conD good Tryz.func118 fb_118 (by kernel_rfl) cc_qbx all_nil e_qbx
theorem fb_120:fnB ZP 120 Tryz.f120 []=true:=by kernel_rfl
theorem cc_qcb:CG ZP sg @call_qcb:=(cgc con_qb0 cg0)
theorem con_qcb:SG ZP sg 120 @sem_qcb:=conD good Tryz.func120 fb_120 (by kernel_rfl) cc_qcb all_nil e_qcb
theorem fb_345:fnB ZP 345 Tryz.f345 []=true:=by kernel_rfl
theorem cc_qdr:CG ZP sg @call_qdr:=cg0
theorem con_qdr:SG ZP sg 345 @sem_qdr:=conD good Tryz.func345 fb_345 (by kernel_rfl) cc_qdr all_nil e_qdr
theorem fb_324:fnB ZP 324 Tryz.f324 []=true:=by kernel_rfl
theorem cc_qeb:CG ZP sg @call_qeb:=(cgc con_qdr cg0)
theorem con_qeb:SG ZP sg 324 @sem_qeb:=conD good Tryz.func324 fb_324 (by kernel_rfl) cc_qeb all_nil e_qeb
theorem fb_349:fnB ZP 349 Tryz.f349 []=true:=by kernel_rfl
theorem cc_qdp:CG ZP sg @call_qdp:=cg0
theorem con_qdp:SG ZP sg 349 @sem_qdp:=conD good Tryz.func349 fb_349 (by kernel_rfl) cc_qdp all_nil e_qdp
theorem fb_334:fnB ZP 334 Tryz.f334 [3]=true:=by kernel_rfl
theorem cc_qbj:CG ZP sg @call_qbj:=(cgc con_qeb (cgc con_qdp cg0))
theorem lo_qbj_3:LoopFor ZP sg 0 Tryz.f334 @loops_qbj 3:=loopC good Tryz.func334 fb_334 (by decide) cc_qbj (inn:=[]) (by kernel_rfl) all_nil el_qbj_3 (ptC sgok (by kernel_rfl)) (outsOk (exitOk_cons (ptC sgok (by kernel_rfl)) (fun _=>rfl) exitOk_nil) retOk_nil (fun _=>rfl)) (fun _ _=>rfl) (fun _ _=>rfl)
theorem con_qbj:SG ZP sg 334 @sem_qbj:=conD good Tryz.func334 fb_334 (by kernel_rfl) cc_qbj (all_cons lo_qbj_3 all_nil) e_qbj
theorem fb_308:fnB ZP 308 Tryz.f308 [3]=true:=by kernel_rfl
theorem cc_qa6:CG ZP sg @call_qa6:=cg0
theorem lo_qa6_3:LoopFor ZP sg 0 Tryz.f308 @loops_qa6 3:=loopC good Tryz.func308 fb_308 (by decide) cc_qa6 (inn:=[]) (by kernel_rfl) all_nil el_qa6_3 (ptC sgok (by kernel_rfl)) (outsOk (exitOk_cons (ptC sgok (by kernel_rfl)) (fun _=>rfl) exitOk_nil) retOk_nil (fun _=>rfl)) (fun _ _=>rfl) (fun _ _=>rfl)
theorem con_qa6:SG ZP sg 308 @sem_qa6:=conD good Tryz.func308 fb_308 (by kernel_rfl) cc_qa6 (all_cons lo_qa6_3 all_nil) e_qa6
theorem fb_336:fnB ZP 336 Tryz.f336 []=true:=by kernel_rfl
theorem cc_qeo:CG ZP sg @call_qeo:=cg0
theorem con_qeo:SG ZP sg 336 @sem_qeo:=conD good Tryz.func336 fb_336 (by kernel_rfl) cc_qeo all_nil e_qeo
theorem fb_310:fnB ZP 310 Tryz.f310 []=true:=by kernel_rfl
theorem cc_qcj:CG ZP sg @call_qcj:=(cgc con_qeo cg0)
theorem con_qcj:SG ZP sg 310 @sem_qcj:=conD good Tryz.func310 fb_310 (by kernel_rfl) cc_qcj all_nil e_qcj
theorem fb_304:fnB ZP 304 Tryz.f304 []=true:=by kernel_rfl
theorem cc_qdc:CG ZP sg @call_qdc:=(cgc con_qch (cgc con_qa6 (cgc con_qcj (cgc con_qbj cg0))))
theorem con_qdc:SG ZP sg 304 @sem_qdc:=conD good Tryz.func304 fb_304 (by kernel_rfl) cc_qdc all_nil e_qdc
theorem fb_269:fnB ZP 269 Tryz.f269 [2]=true:=by kernel_rfl
theorem cc_qan:CG ZP sg @call_qan:=(cgc con_qdc cg0)
theorem lo_qan_2:LoopFor ZP sg 0 Tryz.f269 @loops_qan 2:=loopC good Tryz.func269 fb_269 (by decide) cc_qan (inn:=[]) (by kernel_rfl) all_nil el_qan_2 (ptC sgok (by kernel_rfl)) (outsOk (exitOk_cons (ptC sgok (by kernel_rfl)) (fun _=>rfl) exitOk_nil) (retOk_one (prC sgok (by kernel_rfl)) (fun _=>rfl)) (fun _=>rfl)) (fun b k=>match b with | .inl _=>rfl | .inr _=>rfl) (fun _ _=>rfl)
theorem con_qan:SG ZP sg 269 @sem_qan:=conD good Tryz.func269 fb_269 (by kernel_rfl) cc_qan (all_cons lo_qan_2 all_nil) e_qan
theorem fb_218:fnB ZP 218 Tryz.f218 [9]=true:=by kernel_rfl
theorem cc_qa5:CG ZP sg @call_qa5:=(cgc con_qch (cgc con_qan cg0))
theorem lo_qa5_9:LoopFor ZP sg 0 Tryz.f218 @loops_qa5 9:=loopC good Tryz.func218 fb_218 (by decide) cc_qa5 (inn:=[]) (by kernel_rfl) all_nil el_qa5_9 (ptC sgok (by kernel_rfl)) (outsOk (exitOk_cons (ptC sgok (by kernel_rfl)) (fun _=>rfl) exitOk_nil) (retOk_one (prC sgok (by kernel_rfl)) (fun _=>rfl)) (fun _=>rfl)) (fun b k=>match b with | .inl _=>rfl | .inr _=>rfl) (fun _ _=>rfl)
theorem con_qa5:SG ZP sg 218 @sem_qa5:=conD good Tryz.func218 fb_218 (by kernel_rfl) cc_qa5 (all_cons lo_qa5_9 all_nil) e_qa5
theorem fb_130:fnB ZP 130 Tryz.f130 []=true:=by kernel_rfl
theorem cc_qce:CG ZP sg @call_qce:=(cgc con_qa4 (cgc con_qcb (cgc con_qa5 cg0)))
theorem con_qce:SG ZP sg 130 @sem_qce:=conM good Tryz.func130 fb_130 (by kernel_rfl) cc_qce all_nil e_qce
theorem fb_285:fnB ZP 285 Tryz.f285 []=true:=by kernel_rfl
theorem cc_qci:CG ZP sg @call_qci:=cg0
theorem con_qci:SG ZP sg 285 @sem_qci:=conD good Tryz.func285 fb_285 (by kernel_rfl) cc_qci all_nil e_qci
theorem cc_qa_i2:CG ZP sg @call_qa_i2:=(cgc con_qci cg0)
theorem lo_qa_i2_2:LoopFor ZP sg 0 Tryz.f99 @loops_qa_i2 2:=loopC good Tryz.func99 fb_99 (by decide) cc_qa_i2 (inn:=[]) (by kernel_rfl) all_nil el_qa_i2_2 (ptC sgok (by kernel_rfl)) (outsOk (exitOk_cons (ptC sgok (by kernel_rfl)) (fun _=>rfl) exitOk_nil) (retOk_one (prC sgok (by kernel_rfl)) (fun _=>rfl)) (fun _=>rfl)) (fun b k=>match b with | .inl _=>rfl | .inr _=>rfl) (fun _ _=>rfl)
theorem con_qa_i2:SG ZP sg 99 @sem_qa_i2:=conD good Tryz.func99 fb_99 (by kernel_rfl) cc_qa_i2 (all_cons lo_qa_i2_2 all_nil) e_qa_i2
theorem fb_117:fnB ZP 117 Tryz.f117 []=true:=by kernel_rfl
theorem cc_qbg:CG ZP sg @call_qbg:=(cgc con_qa_i2 (cgc con_qci cg0))
theorem con_qbg:SG ZP sg 117 @sem_qbg:=conD good Tryz.func117 fb_117 (by kernel_rfl) cc_qbg all_nil e_qbg
theorem fb_225:fnB ZP 225 Tryz.f225 []=true:=by kernel_rfl
theorem cc_qb6:CG ZP sg @call_qb6:=cg0
theorem con_qb6:SG ZP sg 225 @sem_qb6:=conS good Tryz.func225 fb_225 (by kernel_rfl) cc_qb6 all_nil e_qb6 e_qb6_nil
theorem fb_228:fnB ZP 228 Tryz.f228 []=true:=by kernel_rfl
theorem cc_qe1:CG ZP sg @call_qe1:=(cgc con_qb6 cg0)
theorem con_qe1:SG ZP sg 228 @sem_qe1:=conD good Tryz.func228 fb_228 (by kernel_rfl) cc_qe1 all_nil e_qe1
theorem fb_205:fnB ZP 205 Tryz.f205 []=true:=by kernel_rfl
theorem cc_qae:CG ZP sg @call_qae:=(cgc con_qbg (cgc con_qaf (cgc con_qe1 (cgc con_qbz cg0))))
theorem con_qae:SG ZP sg 205 @sem_qae:=conD good Tryz.func205 fb_205 (by kernel_rfl) cc_qae all_nil e_qae
theorem fb_139:fnB ZP 139 Tryz.f139 []=true:=by kernel_rfl
theorem cc_qb2:CG ZP sg @call_qb2:=(cgc con_qa4 cg0)
theorem con_qb2:SG ZP sg 139 @sem_qb2:=conM good Tryz.func139 fb_139 (by kernel_rfl) cc_qb2 all_nil e_qb2
theorem fb_109:fnB ZP 109 Tryz.f109 []=true:=by kernel_rfl
theorem cc_qcd:CG ZP sg @call_qcd:=(cgc con_qbh (cgc con_qbx (cgc con_qce (cgc con_qb2 (cgc con_qae cg0)))))
theorem con_qcd:SG ZP sg 109 @sem_qcd:=conM good Tryz.func109 fb_109 (by kernel_rfl) cc_qcd all_nil e_qcd
theorem fb_110:fnB ZP 110 Tryz.f110 []=true:=by kernel_rfl
theorem cc_qb7:CG ZP sg @call_qb7:=(cgc con_qbh (cgc con_qcd (cgc con_qcq (cgc con_qc0 (cgc con_qb2 (cgc con_qcp (cgc con_qae cg0)))))))
theorem con_qb7:SG ZP sg 110 @sem_qb7:=conM good Tryz.func110 fb_110 (by kernel_rfl) cc_qb7 all_nil e_qb7
theorem fb_136:fnB ZP 136 Tryz.f136 []=true:=by kernel_rfl
theorem cc_qz:CG ZP sg @call_qz:=cg0
theorem con_qz:SG ZP sg 136 @sem_qz:=conM good Tryz.func136 fb_136 (by kernel_rfl) cc_qz all_nil e_qz
theorem fb_36:fnB ZP 36 Tryz.f36 []=true:=by kernel_rfl
theorem cc_qed:CG ZP sg @call_qed:=(cgc con_qby (cgc con_qb8 (cgc con_qbh (cgc con_qb7 (cgc con_qz cg0)))))
theorem con_qed:SG ZP sg 36 @sem_qed:=conD good Tryz.func36 fb_36 (by kernel_rfl) cc_qed all_nil e_qed
theorem fb_45:fnB ZP 45 Tryz.f45 [3]=true:=by kernel_rfl
theorem cc_qbe:CG ZP sg @call_qbe:=cg0
theorem lo_qbe_3:LoopFor ZP sg 0 Tryz.f45 @loops_qbe 3:=loopC good Tryz.func45 fb_45 (by decide) cc_qbe (inn:=[]) (by kernel_rfl) all_nil el_qbe_3 (ptC sgok (by kernel_rfl)) (outsOk (exitOk_cons (ptC sgok (by kernel_rfl)) (fun _=>rfl) exitOk_nil) retOk_nil (fun _=>rfl)) (fun _ _=>rfl) (fun _ _=>rfl)
theorem con_qbe:SG ZP sg 45 @sem_qbe:=conD good Tryz.func45 fb_45 (by kernel_rfl) cc_qbe (all_cons lo_qbe_3 all_nil) e_qbe
theorem fb_190:fnB ZP 190 Tryz.f190 [3]=true:=by kernel_rfl
theorem cc_qav:CG ZP sg @call_qav:=cg0
theorem lo_qav_3:LoopFor ZP sg 0 Tryz.f190 @loops_qav 3:=loopC good Tryz.func190 fb_190 (by decide) cc_qav (inn:=[]) (by kernel_rfl) all_nil el_qav_3 (ptC sgok (by kernel_rfl)) (outsOk (exitOk_cons (ptC sgok (by kernel_rfl)) (fun _=>rfl) exitOk_nil) retOk_nil (fun _=>rfl)) (fun _ _=>rfl) (fun _ _=>rfl)
theorem con_qav:SG ZP sg 190 @sem_qav:=conD good Tryz.func190 fb_190 (by kernel_rfl) cc_qav (all_cons lo_qav_3 all_nil) e_qav
theorem fb_210:fnB ZP 210 Tryz.f210 [3]=true:=by kernel_rfl
theorem cc_qbq:CG ZP sg @call_qbq:=(cgc con_qav cg0)
theorem lo_qbq_3:LoopFor ZP sg 0 Tryz.f210 @loops_qbq 3:=loopC good Tryz.func210 fb_210 (by decide) cc_qbq (inn:=[]) (by kernel_rfl) all_nil el_qbq_3 (ptC sgok (by kernel_rfl)) (outsOk (exitOk_cons (ptC sgok (by kernel_rfl)) (fun _=>rfl) exitOk_nil) retOk_nil (fun _=>rfl)) (fun _ _=>rfl) (fun _ _=>rfl)
theorem con_qbq:SG ZP sg 210 @sem_qbq:=conD good Tryz.func210 fb_210 (by kernel_rfl) cc_qbq (all_cons lo_qbq_3 all_nil) e_qbq
theorem fb_209:fnB ZP 209 Tryz.f209 [3]=true:=by kernel_rfl
theorem cc_qbl:CG ZP sg @call_qbl:=cg0
theorem lo_qbl_3:LoopFor ZP sg 0 Tryz.f209 @loops_qbl 3:=loopC good Tryz.func209 fb_209 (by decide) cc_qbl (inn:=[]) (by kernel_rfl) all_nil el_qbl_3 (ptC sgok (by kernel_rfl)) (outsOk (exitOk_cons (ptC sgok (by kernel_rfl)) (fun _=>rfl) exitOk_nil) retOk_nil (fun _=>rfl)) (fun _ _=>rfl) (fun _ _=>rfl)
theorem con_qbl:SG ZP sg 209 @sem_qbl:=conD good Tryz.func209 fb_209 (by kernel_rfl) cc_qbl (all_cons lo_qbl_3 all_nil) e_qbl
theorem fb_115:fnB ZP 115 Tryz.f115 []=true:=by kernel_rfl
theorem cc_qck:CG ZP sg @call_qck:=(cgc con_qbe (cgc con_qbl (cgc con_qbq cg0)))
theorem con_qck:SG ZP sg 115 @sem_qck:=conD good Tryz.func115 fb_115 (by kernel_rfl) cc_qck all_nil e_qck
theorem fb_270:fnB ZP 270 Tryz.f270 [2]=true:=by kernel_rfl
theorem cc_qa2:CG ZP sg @call_qa2:=(cgc con_qdc cg0)
theorem lo_qa2_2:LoopFor ZP sg 0 Tryz.f270 @loops_qa2 2:=loopC good Tryz.func270 fb_270 (by decide) cc_qa2 (inn:=[]) (by kernel_rfl) all_nil el_qa2_2 (ptC sgok (by kernel_rfl)) (outsOk (exitOk_cons (ptC sgok (by kernel_rfl)) (fun _=>rfl) exitOk_nil) (retOk_one (prC sgok (by kernel_rfl)) (fun _=>rfl)) (fun _=>rfl)) (fun b k=>match b with | .inl _=>rfl | .inr _=>rfl) (fun _ _=>rfl)
theorem con_qa2:SG ZP sg 270 @sem_qa2:=conD good Tryz.func270 fb_270 (by kernel_rfl) cc_qa2 (all_cons lo_qa2_2 all_nil) e_qa2
theorem fb_191:fnB ZP 191 Tryz.f191 []=true:=by kernel_rfl
theorem cc_qdi:CG ZP sg @call_qdi:=(cgc con_qbw (cgc con_qan (cgc con_qa2 cg0)))
theorem con_qdi:SG ZP sg 191 @sem_qdi:=conD good Tryz.func191 fb_191 (by kernel_rfl) cc_qdi all_nil e_qdi
theorem fb_92:fnB ZP 92 Tryz.f92 []=true:=by kernel_rfl
theorem cc_qec:CG ZP sg @call_qec:=(cgc con_qck (cgc con_qbx (cgc con_qcb (cgc con_qcq (cgc con_qcp (cgc con_qav (cgc con_qdi cg0)))))))
theorem con_qec:SG ZP sg 92 @sem_qec:=conD good Tryz.func92 fb_92 (by kernel_rfl) cc_qec all_nil e_qec
theorem fb_193:fnB ZP 193 Tryz.f193 []=true:=by kernel_rfl
theorem cc_qcn:CG ZP sg @call_qcn:=cg0
theorem con_qcn:SG ZP sg 193 @sem_qcn:=conD good Tryz.func193 fb_193 (by kernel_rfl) cc_qcn all_nil e_qcn
theorem cc_qm_i1:CG ZP sg @call_qm_i1:=(cgc con_qcn cg0)
theorem lo_qm_i1_2:LoopFor ZP sg 0 Tryz.f242 @loops_qm_i1 2:=loopC good Tryz.func242 fb_242 (by decide) cc_qm_i1 (inn:=[]) (by kernel_rfl) all_nil el_qm_i1_2 (ptC sgok (by kernel_rfl)) (outsOk (exitOk_cons (ptC sgok (by kernel_rfl)) (fun _=>rfl) exitOk_nil) (retOk_one (prC sgok (by kernel_rfl)) (fun _=>rfl)) (fun _=>rfl)) (fun b k=>match b with | .inl _=>rfl | .inr _=>rfl) (fun _ _=>rfl)
theorem con_qm_i1:SG ZP sg 242 @sem_qm_i1:=conD good Tryz.func242 fb_242 (by kernel_rfl) cc_qm_i1 (all_cons lo_qm_i1_2 all_nil) e_qm_i1
theorem cc_qac_i1:CG ZP sg @call_qac_i1:=(cgc con_qcn (cgc con_qm_i1 cg0))
theorem con_qac_i1:SG ZP sg 164 @sem_qac_i1:=conD good Tryz.func164 fb_164 (by kernel_rfl) cc_qac_i1 all_nil e_qac_i1
theorem fb_196:fnB ZP 196 Tryz.f196 []=true:=by kernel_rfl
theorem cc_qb5:CG ZP sg @call_qb5:=cg0
theorem con_qb5:SG ZP sg 196 @sem_qb5:=conS good Tryz.func196 fb_196 (by kernel_rfl) cc_qb5 all_nil e_qb5 e_qb5_nil
theorem fb_194:fnB ZP 194 Tryz.f194 []=true:=by kernel_rfl
theorem cc_qde:CG ZP sg @call_qde:=(cgc con_qas cg0)
theorem con_qde:SG ZP sg 194 @sem_qde:=conD good Tryz.func194 fb_194 (by kernel_rfl) cc_qde all_nil e_qde
theorem fb_95:fnB ZP 95 Tryz.f95 []=true:=by kernel_rfl
theorem cc_qal:CG ZP sg @call_qal:=(cgc (sgi con_qac (sgi con_qac_i1 sg0)) (cgc con_q8 (cgc con_qde (cgc (sgP con_qfa) (cgc con_qb5 cg0)))))
theorem con_qal:SG ZP sg 95 @sem_qal:=conD good Tryz.func95 fb_95 (by kernel_rfl) cc_qal all_nil e_qal
theorem fb_94:fnB ZP 94 Tryz.f94 []=true:=by kernel_rfl
theorem cc_qb1:CG ZP sg @call_qb1:=(cgc con_qa4 cg0)
theorem con_qb1:SG ZP sg 94 @sem_qb1:=conM good Tryz.func94 fb_94 (by kernel_rfl) cc_qb1 all_nil e_qb1
theorem fb_198:fnB ZP 198 Tryz.f198 []=true:=by kernel_rfl
theorem cc_qeg:CG ZP sg @call_qeg:=(cgc con_qaf (cgc con_qb6 (cgc (sgP con_qfd) cg0)))
theorem con_qeg:SG ZP sg 198 @sem_qeg:=conD good Tryz.func198 fb_198 (by kernel_rfl) cc_qeg all_nil e_qeg
theorem fb_97:fnB ZP 97 Tryz.f97 []=true:=by kernel_rfl
theorem cc_qcv:CG ZP sg @call_qcv:=(cgc con_qb2 (cgc con_qeg cg0))
theorem con_qcv:SG ZP sg 97 @sem_qcv:=conM good Tryz.func97 fb_97 (by kernel_rfl) cc_qcv all_nil e_qcv
theorem fb_98:fnB ZP 98 Tryz.f98 []=true:=by kernel_rfl
theorem cc_qbt:CG ZP sg @call_qbt:=cg0
theorem con_qbt:SG ZP sg 98 @sem_qbt:=conM good Tryz.func98 fb_98 (by kernel_rfl) cc_qbt all_nil e_qbt
theorem fb_101:fnB ZP 101 Tryz.f101 []=true:=by kernel_rfl
theorem cc_qca:CG ZP sg @call_qca:=cg0
theorem con_qca:SG ZP sg 101 @sem_qca:=conD good Tryz.func101 fb_101 (by kernel_rfl) cc_qca all_nil e_qca
theorem fb_100:fnB ZP 100 Tryz.f100 []=true:=by kernel_rfl
theorem cc_qdh:CG ZP sg @call_qdh:=(cgc con_qca cg0)
theorem con_qdh:SG ZP sg 100 @sem_qdh:=conD good Tryz.func100 fb_100 (by kernel_rfl) cc_qdh all_nil e_qdh
theorem cc_qa_i3:CG ZP sg @call_qa_i3:=(cgc con_qdh cg0)
theorem lo_qa_i3_2:LoopFor ZP sg 0 Tryz.f99 @loops_qa_i3 2:=loopC good Tryz.func99 fb_99 (by decide) cc_qa_i3 (inn:=[]) (by kernel_rfl) all_nil el_qa_i3_2 (ptC sgok (by kernel_rfl)) (outsOk (exitOk_cons (ptC sgok (by kernel_rfl)) (fun _=>rfl) exitOk_nil) (retOk_one (prC sgok (by kernel_rfl)) (fun _=>rfl)) (fun _=>rfl)) (fun b k=>match b with | .inl _=>rfl | .inr _=>rfl) (fun _ _=>rfl)
theorem con_qa_i3:SG ZP sg 99 @sem_qa_i3:=conD good Tryz.func99 fb_99 (by kernel_rfl) cc_qa_i3 (all_cons lo_qa_i3_2 all_nil) e_qa_i3
theorem fb_27:fnB ZP 27 Tryz.f27 []=true:=by kernel_rfl
theorem cc_qak:CG ZP sg @call_qak:=(cgc con_qby (cgc con_qb8 (cgc con_qb4 (cgc con_qa4 (cgc con_qec (cgc con_qbh (cgc con_qb1 (cgc con_qal (cgc con_qad (cgc con_qcv (cgc con_qbt (cgc con_qa_i3 cg0))))))))))))
theorem con_qak:SG ZP sg 27 @sem_qak:=conD good Tryz.func27 fb_27 (by kernel_rfl) cc_qak all_nil e_qak
theorem fb_224:fnB ZP 224 Tryz.f224 []=true:=by kernel_rfl
theorem cc_qeh:CG ZP sg @call_qeh:=cg0
theorem con_qeh:SG ZP sg 224 @sem_qeh:=conD good Tryz.func224 fb_224 (by kernel_rfl) cc_qeh all_nil e_qeh
theorem fb_223:fnB ZP 223 Tryz.f223 []=true:=by kernel_rfl
theorem cc_qc6:CG ZP sg @call_qc6:=(cgc con_qca (cgc con_qeh cg0))
theorem con_qc6:SG ZP sg 223 @sem_qc6:=conD good Tryz.func223 fb_223 (by kernel_rfl) cc_qc6 all_nil e_qc6
theorem cc_qd_i2:CG ZP sg @call_qd_i2:=(cgc con_qc6 cg0)
theorem lo_qd_i2_2:LoopFor ZP sg 0 Tryz.f80 @loops_qd_i2 2:=loopC good Tryz.func80 fb_80 (by decide) cc_qd_i2 (inn:=[]) (by kernel_rfl) all_nil el_qd_i2_2 (ptC sgok (by kernel_rfl)) (outsOk (exitOk_cons (ptC sgok (by kernel_rfl)) (fun _=>rfl) exitOk_nil) (retOk_one (prC sgok (by kernel_rfl)) (fun _=>rfl)) (fun _=>rfl)) (fun b k=>match b with | .inl _=>rfl | .inr _=>rfl) (fun _ _=>rfl)
theorem con_qd_i2:SG ZP sg 80 @sem_qd_i2:=conD good Tryz.func80 fb_80 (by kernel_rfl) cc_qd_i2 (all_cons lo_qd_i2_2 all_nil) e_qd_i2
theorem fb_138:fnB ZP 138 Tryz.f138 [9]=true:=by kernel_rfl
theorem cc_qt:CG ZP sg @call_qt:=(cgc con_qaa (cgc con_qd_i2 (cgc con_qck (cgc con_qav cg0))))
theorem lo_qt_9:LoopFor ZP sg 0 Tryz.f138 @loops_qt 9:=loopC good Tryz.func138 fb_138 (by decide) cc_qt (inn:=[]) (by kernel_rfl) all_nil el_qt_9 (ptC sgok (by kernel_rfl)) (outsOk (exitOk_cons (ptC sgok (by kernel_rfl)) (fun _=>rfl) exitOk_nil) (retOk_one (prC sgok (by kernel_rfl)) (fun _=>rfl)) (fun _=>rfl)) (fun b k=>match b with | .inl _=>rfl | .inr _=>rfl) (fun _ _=>rfl)
theorem con_qt:SG ZP sg 138 @sem_qt:=conD good Tryz.func138 fb_138 (by kernel_rfl) cc_qt (all_cons lo_qt_9 all_nil) e_qt
theorem fb_140:fnB ZP 140 Tryz.f140 []=true:=by kernel_rfl
theorem cc_qen:CG ZP sg @call_qen:=(cgc con_qf (cgc con_qb6 cg0))
theorem con_qen:SG ZP sg 140 @sem_qen:=conD good Tryz.func140 fb_140 (by kernel_rfl) cc_qen all_nil e_qen
theorem fb_141:fnB ZP 141 Tryz.f141 [1]=true:=by kernel_rfl
theorem cc_qam:CG ZP sg @call_qam:=(cgc con_qb7 (cgc con_qcp cg0))
theorem lo_qam_1:LoopFor ZP sg 1 Tryz.f141 @loops_qam 1:=loopC good Tryz.func141 fb_141 (by decide) cc_qam (inn:=[]) (by kernel_rfl) all_nil el_qam_1 (ptC sgok (by kernel_rfl)) (outsOk (exitOk_cons (ptC sgok (by kernel_rfl)) (fun _=>rfl) exitOk_nil) (retOk_one (prC sgok (by kernel_rfl)) (fun _=>rfl)) (fun _=>rfl)) (fun b k=>match b with | .inl _=>rfl | .inr _=>rfl) (fun _ _=>rfl)
theorem con_qam:SG ZP sg 141 @sem_qam:=conM good Tryz.func141 fb_141 (by kernel_rfl) cc_qam (all_cons lo_qam_1 all_nil) e_qam
theorem fb_40:fnB ZP 40 Tryz.f40 []=true:=by kernel_rfl
theorem cc_qex:CG ZP sg @call_qex:=(cgc con_qby (cgc con_qb4 (cgc con_qbt (cgc con_qbx (cgc con_qt (cgc con_qb2 (cgc con_qen (cgc con_qam cg0))))))))
theorem con_qex:SG ZP sg 40 @sem_qex:=conD good Tryz.func40 fb_40 (by kernel_rfl) cc_qex all_nil e_qex
theorem fb_116:fnB ZP 116 Tryz.f116 []=true:=by kernel_rfl
theorem cc_qcl:CG ZP sg @call_qcl:=(cgc con_qca cg0)
theorem con_qcl:SG ZP sg 116 @sem_qcl:=conD good Tryz.func116 fb_116 (by kernel_rfl) cc_qcl all_nil e_qcl
theorem cc_qa_i4:CG ZP sg @call_qa_i4:=(cgc con_qcl cg0)
theorem lo_qa_i4_2:LoopFor ZP sg 0 Tryz.f99 @loops_qa_i4 2:=loopC good Tryz.func99 fb_99 (by decide) cc_qa_i4 (inn:=[]) (by kernel_rfl) all_nil el_qa_i4_2 (ptC sgok (by kernel_rfl)) (outsOk (exitOk_cons (ptC sgok (by kernel_rfl)) (fun _=>rfl) exitOk_nil) (retOk_one (prC sgok (by kernel_rfl)) (fun _=>rfl)) (fun _=>rfl)) (fun b k=>match b with | .inl _=>rfl | .inr _=>rfl) (fun _ _=>rfl)
theorem con_qa_i4:SG ZP sg 99 @sem_qa_i4:=conD good Tryz.func99 fb_99 (by kernel_rfl) cc_qa_i4 (all_cons lo_qa_i4_2 all_nil) e_qa_i4
theorem cc_qbg_i1:CG ZP sg @call_qbg_i1:=(cgc con_qa_i4 (cgc con_qcl cg0))
theorem con_qbg_i1:SG ZP sg 117 @sem_qbg_i1:=conD good Tryz.func117 fb_117 (by kernel_rfl) cc_qbg_i1 all_nil e_qbg_i1
theorem fb_119:fnB ZP 119 Tryz.f119 []=true:=by kernel_rfl
theorem cc_qd8:CG ZP sg @call_qd8:=(cgc con_qdi cg0)
theorem con_qd8:SG ZP sg 119 @sem_qd8:=conD good Tryz.func119 fb_119 (by kernel_rfl) cc_qd8 all_nil e_qd8
theorem fb_212:fnB ZP 212 Tryz.f212 []=true:=by kernel_rfl
theorem cc_qc5:CG ZP sg @call_qc5:=(cgc con_qb5 cg0)
theorem con_qc5:SG ZP sg 212 @sem_qc5:=conD good Tryz.func212 fb_212 (by kernel_rfl) cc_qc5 all_nil e_qc5
theorem fb_121:fnB ZP 121 Tryz.f121 []=true:=by kernel_rfl
theorem cc_qel:CG ZP sg @call_qel:=(cgc con_qac (cgc con_q8 (cgc con_qde (cgc con_qc5 cg0))))
theorem con_qel:SG ZP sg 121 @sem_qel:=conD good Tryz.func121 fb_121 (by kernel_rfl) cc_qel all_nil e_qel
theorem fb_31:fnB ZP 31 Tryz.f31 []=true:=by kernel_rfl
theorem cc_qaj:CG ZP sg @call_qaj:=(cgc con_qco (cgc con_qaa (cgc con_qby (cgc con_qb4 (cgc con_qb1 (cgc con_qbt (cgc con_qck (cgc con_qbg_i1 (cgc con_qbx (cgc con_qd8 (cgc con_qcb (cgc con_qel cg0))))))))))))
theorem con_qaj:SG ZP sg 31 @sem_qaj:=conD good Tryz.func31 fb_31 (by kernel_rfl) cc_qaj all_nil e_qaj
theorem fb_129:fnB ZP 129 Tryz.f129 [2]=true:=by kernel_rfl
theorem cc_qbk:CG ZP sg @call_qbk:=(cgc con_qco (cgc con_qca cg0))
theorem lo_qbk_2:LoopFor ZP sg 0 Tryz.f129 @loops_qbk 2:=loopC good Tryz.func129 fb_129 (by decide) cc_qbk (inn:=[]) (by kernel_rfl) all_nil el_qbk_2 (ptC sgok (by kernel_rfl)) (outsOk (exitOk_cons (ptC sgok (by kernel_rfl)) (fun _=>rfl) exitOk_nil) retOk_nil (fun _=>rfl)) (fun _ _=>rfl) (fun _ _=>rfl)
theorem con_qbk:SG ZP sg 129 @sem_qbk:=conD good Tryz.func129 fb_129 (by kernel_rfl) cc_qbk (all_cons lo_qbk_2 all_nil) e_qbk
theorem fb_131:fnB ZP 131 Tryz.f131 []=true:=by kernel_rfl
theorem cc_qef:CG ZP sg @call_qef:=(cgc con_qac (cgc con_q8 (cgc con_qc5 (cgc con_qc3 cg0))))
theorem con_qef:SG ZP sg 131 @sem_qef:=conD good Tryz.func131 fb_131 (by kernel_rfl) cc_qef all_nil e_qef
theorem fb_33:fnB ZP 33 Tryz.f33 []=true:=by kernel_rfl
theorem cc_qei:CG ZP sg @call_qei:=(cgc con_qby (cgc con_qb1 (cgc con_qbt (cgc con_qbx (cgc con_qcq (cgc con_qbk (cgc con_qce (cgc con_qef cg0))))))))
theorem con_qei:SG ZP sg 33 @sem_qei:=conD good Tryz.func33 fb_33 (by kernel_rfl) cc_qei all_nil e_qei
theorem fb_234:fnB ZP 234 Tryz.f234 []=true:=by kernel_rfl
theorem cc_qdz:CG ZP sg @call_qdz:=(cgc con_qb5 (cgc (sgP con_qfc) cg0))
theorem con_qdz:SG ZP sg 234 @sem_qdz:=conD good Tryz.func234 fb_234 (by kernel_rfl) cc_qdz all_nil e_qdz
theorem fb_154:fnB ZP 154 Tryz.f154 []=true:=by kernel_rfl
theorem cc_qeu:CG ZP sg @call_qeu:=(cgc con_qac (cgc con_q8 (cgc con_qdz cg0)))
theorem con_qeu:SG ZP sg 154 @sem_qeu:=conD good Tryz.func154 fb_154 (by kernel_rfl) cc_qeu all_nil e_qeu
theorem fb_309:fnB ZP 309 Tryz.f309 []=true:=by kernel_rfl
theorem cc_qds:CG ZP sg @call_qds:=(cgc con_qcj cg0)
theorem con_qds:SG ZP sg 309 @sem_qds:=conD good Tryz.func309 fb_309 (by kernel_rfl) cc_qds all_nil e_qds
theorem fb_281:fnB ZP 281 Tryz.f281 [7,13]=true:=by kernel_rfl
theorem cc_qab:CG ZP sg @call_qab:=(cgc con_qa6 (cgc con_qds (cgc con_qcj cg0)))
theorem lo_qab_7:LoopFor ZP sg 0 Tryz.f281 @loops_qab 7:=loopC good Tryz.func281 fb_281 (by decide) cc_qab (inn:=[]) (by kernel_rfl) all_nil el_qab_7 (ptC sgok (by kernel_rfl)) (outsOk (exitOk_cons (ptC sgok (by kernel_rfl)) (fun _=>rfl) exitOk_nil) retOk_nil (fun _=>rfl)) (fun _ _=>rfl) (fun _ _=>rfl)
theorem lo_qab_13:LoopFor ZP sg 0 Tryz.f281 @loops_qab 13:=loopC good Tryz.func281 fb_281 (by decide) cc_qab (inn:=[]) (by kernel_rfl) all_nil el_qab_13 (ptC sgok (by kernel_rfl)) (outsOk (exitOk_cons (ptC sgok (by kernel_rfl)) (fun _=>rfl) exitOk_nil) retOk_nil (fun _=>rfl)) (fun _ _=>rfl) (fun _ _=>rfl)
theorem con_qab:SG ZP sg 281 @sem_qab:=conD good Tryz.func281 fb_281 (by kernel_rfl) cc_qab (all_cons lo_qab_7 (all_cons lo_qab_13 all_nil)) e_qab
theorem fb_203:fnB ZP 203 Tryz.f203 []=true:=by kernel_rfl
theorem cc_qew:CG ZP sg @call_qew:=(cgc con_qq (cgc con_qc2 (cgc con_qab cg0)))
theorem con_qew:SG ZP sg 203 @sem_qew:=conD good Tryz.func203 fb_203 (by kernel_rfl) cc_qew all_nil e_qew
theorem fb_226:fnB ZP 226 Tryz.f226 []=true:=by kernel_rfl
theorem cc_qe2:CG ZP sg @call_qe2:=(cgc con_qat cg0)
theorem con_qe2:SG ZP sg 226 @sem_qe2:=conD good Tryz.func226 fb_226 (by kernel_rfl) cc_qe2 all_nil e_qe2
theorem fb_149:fnB ZP 149 Tryz.f149 []=true:=by kernel_rfl
theorem cc_qcz:CG ZP sg @call_qcz:=(cgc con_qa4 (cgc con_qe2 cg0))
theorem con_qcz:SG ZP sg 149 @sem_qcz:=conM good Tryz.func149 fb_149 (by kernel_rfl) cc_qcz all_nil e_qcz
theorem fb_283:fnB ZP 283 Tryz.f283 []=true:=by kernel_rfl
theorem cc_qc8:CG ZP sg @call_qc8:=cg0
theorem con_qc8:SG ZP sg 283 @sem_qc8:=conD good Tryz.func283 fb_283 (by kernel_rfl) cc_qc8 all_nil e_qc8
theorem fb_282:fnB ZP 282 Tryz.f282 [2]=true:=by kernel_rfl
theorem cc_qbo:CG ZP sg @call_qbo:=(cgc con_qc8 cg0)
theorem lo_qbo_2:LoopFor ZP sg 0 Tryz.f282 @loops_qbo 2:=loopC good Tryz.func282 fb_282 (by decide) cc_qbo (inn:=[]) (by kernel_rfl) all_nil el_qbo_2 (ptC sgok (by kernel_rfl)) (outsOk (exitOk_cons (ptC sgok (by kernel_rfl)) (fun _=>rfl) exitOk_nil) retOk_nil (fun _=>rfl)) (fun _ _=>rfl) (fun _ _=>rfl)
theorem con_qbo:SG ZP sg 282 @sem_qbo:=conD good Tryz.func282 fb_282 (by kernel_rfl) cc_qbo (all_cons lo_qbo_2 all_nil) e_qbo
theorem fb_204:fnB ZP 204 Tryz.f204 []=true:=by kernel_rfl
theorem cc_qaq:CG ZP sg @call_qaq:=(cgc con_qbo cg0)
theorem con_qaq:SG ZP sg 204 @sem_qaq:=conD good Tryz.func204 fb_204 (by kernel_rfl) cc_qaq all_nil e_qaq
theorem fb_108:fnB ZP 108 Tryz.f108 []=true:=by kernel_rfl
theorem cc_qcy:CG ZP sg @call_qcy:=(cgc con_qbh (cgc con_qb1 (cgc con_qbx (cgc con_qcb (cgc con_qcz (cgc con_qeu (cgc con_qew (cgc con_qaq cg0))))))))
theorem con_qcy:SG ZP sg 108 @sem_qcy:=conM good Tryz.func108 fb_108 (by kernel_rfl) cc_qcy all_nil e_qcy
theorem fb_29:fnB ZP 29 Tryz.f29 []=true:=by kernel_rfl
theorem cc_qdv:CG ZP sg @call_qdv:=(cgc con_qby (cgc con_qb8 (cgc con_qa4 (cgc con_qbh (cgc con_qad (cgc con_qbt (cgc con_qcy (cgc con_qcd (cgc con_qb7 cg0)))))))))
theorem con_qdv:SG ZP sg 29 @sem_qdv:=conD good Tryz.func29 fb_29 (by kernel_rfl) cc_qdv all_nil e_qdv
theorem fb_15:fnB ZP 15 Tryz.f15 []=true:=by kernel_rfl
theorem cc_qdu:CG ZP sg @call_qdu:=(cgc con_qdj (cgc con_qak (cgc con_qdv (cgc con_qaj (cgc con_qei (cgc con_qed (cgc con_qex (cgc con_qbe (cgc con_qd9 cg0)))))))))
theorem con_qdu:SG ZP sg 15 @sem_qdu:=conD good Tryz.func15 fb_15 (by kernel_rfl) cc_qdu all_nil e_qdu
theorem fb_24:fnB ZP 24 Tryz.f24 [9]=true:=by kernel_rfl
theorem cc_qbm:CG ZP sg @call_qbm:=(cgc con_qs (cgc con_qag (cgc con_qdk cg0)))
theorem lo_qbm_9:LoopFor ZP sg 0 Tryz.f24 @loops_qbm 9:=loopC good Tryz.func24 fb_24 (by decide) cc_qbm (inn:=[]) (by kernel_rfl) all_nil el_qbm_9 (ptC sgok (by kernel_rfl)) (outsOk (exitOk_cons (ptC sgok (by kernel_rfl)) (fun _=>rfl) exitOk_nil) retOk_nil (fun _=>rfl)) (fun _ _=>rfl) (fun _ _=>rfl)
theorem con_qbm:SG ZP sg 24 @sem_qbm:=conD good Tryz.func24 fb_24 (by kernel_rfl) cc_qbm (all_cons lo_qbm_9 all_nil) e_qbm
theorem fb_87:fnB ZP 87 Tryz.f87 [6]=true:=by kernel_rfl
theorem cc_qbr:CG ZP sg @call_qbr:=(cgc con_qao (cgc con_qaw cg0))
theorem lo_qbr_6:LoopFor ZP sg 0 Tryz.f87 @loops_qbr 6:=loopC good Tryz.func87 fb_87 (by decide) cc_qbr (inn:=[]) (by kernel_rfl) all_nil el_qbr_6 (ptC sgok (by kernel_rfl)) (outsOk (exitOk_cons (ptC sgok (by kernel_rfl)) (fun _=>rfl) exitOk_nil) retOk_nil (fun _=>rfl)) (fun _ _=>rfl) (fun _ _=>rfl)
theorem con_qbr:SG ZP sg 87 @sem_qbr:=conD good Tryz.func87 fb_87 (by kernel_rfl) cc_qbr (all_cons lo_qbr_6 all_nil) e_qbr
theorem fb_26:fnB ZP 26 Tryz.f26 []=true:=by kernel_rfl
theorem cc_qd3:CG ZP sg @call_qd3:=(cgc con_qbr cg0)
theorem con_qd3:SG ZP sg 26 @sem_qd3:=conD good Tryz.func26 fb_26 (by kernel_rfl) cc_qd3 all_nil e_qd3
theorem fb_61:fnB ZP 61 Tryz.f61 [2,7]=true:=by kernel_rfl
theorem cc_qo:CG ZP sg @call_qo:=cg0
theorem lo_qo_7:LoopFor ZP sg 0 Tryz.f61 @loops_qo 7:=loopC good Tryz.func61 fb_61 (by decide) cc_qo (inn:=[]) (by kernel_rfl) all_nil el_qo_7 (ptC sgok (by kernel_rfl)) (outsOk (exitOk_cons (ptC sgok (by kernel_rfl)) (fun _=>rfl) exitOk_nil) (retOk_one (prC sgok (by kernel_rfl)) (fun _=>rfl)) (fun _=>rfl)) (fun b k=>match b with | .inl _=>rfl | .inr _=>rfl) (fun _ _=>rfl)
theorem lo_qo_2:LoopFor ZP sg 0 Tryz.f61 @loops_qo 2:=loopC good Tryz.func61 fb_61 (by decide) cc_qo (inn:=[7]) (by kernel_rfl) (all_cons lo_qo_7 all_nil) el_qo_2 (ptC sgok (by kernel_rfl)) (outsOk (exitOk_cons (ptC sgok (by kernel_rfl)) (fun _=>rfl) exitOk_nil) (retOk_one (prC sgok (by kernel_rfl)) (fun _=>rfl)) (fun _=>rfl)) (fun b k=>match b with | .inl _=>rfl | .inr _=>rfl) (fun _ _=>rfl)
theorem con_qo:SG ZP sg 61 @sem_qo:=conD good Tryz.func61 fb_61 (by kernel_rfl) cc_qo (all_cons lo_qo_2 (all_cons lo_qo_7 all_nil)) e_qo
theorem fb_16:fnB ZP 16 Tryz.f16 [6,11,16,21,26,31,36]=true:=by kernel_rfl
theorem cc_qb:CG ZP sg @call_qb:=(cgc con_qo cg0)
theorem lo_qb_6:LoopFor ZP sg 0 Tryz.f16 @loops_qb 6:=loopC good Tryz.func16 fb_16 (by decide) cc_qb (inn:=[]) (by kernel_rfl) all_nil el_qb_6 (ptC sgok (by kernel_rfl)) (outsOk (exitOk_cons (ptC sgok (by kernel_rfl)) (fun _=>rfl) exitOk_nil) (retOk_one (prC sgok (by kernel_rfl)) (fun _=>rfl)) (fun _=>rfl)) (fun b k=>match b with | .inl _=>rfl | .inr _=>rfl) (fun _ _=>rfl)
theorem lo_qb_11:LoopFor ZP sg 0 Tryz.f16 @loops_qb 11:=loopC good Tryz.func16 fb_16 (by decide) cc_qb (inn:=[]) (by kernel_rfl) all_nil el_qb_11 (ptC sgok (by kernel_rfl)) (outsOk (exitOk_cons (ptC sgok (by kernel_rfl)) (fun _=>rfl) exitOk_nil) (retOk_one (prC sgok (by kernel_rfl)) (fun _=>rfl)) (fun _=>rfl)) (fun b k=>match b with | .inl _=>rfl | .inr _=>rfl) (fun _ _=>rfl)
theorem lo_qb_16:LoopFor ZP sg 0 Tryz.f16 @loops_qb 16:=loopC good Tryz.func16 fb_16 (by decide) cc_qb (inn:=[]) (by kernel_rfl) all_nil el_qb_16 (ptC sgok (by kernel_rfl)) (outsOk (exitOk_cons (ptC sgok (by kernel_rfl)) (fun _=>rfl) exitOk_nil) (retOk_one (prC sgok (by kernel_rfl)) (fun _=>rfl)) (fun _=>rfl)) (fun b k=>match b with | .inl _=>rfl | .inr _=>rfl) (fun _ _=>rfl)
theorem lo_qb_21:LoopFor ZP sg 0 Tryz.f16 @loops_qb 21:=loopC good Tryz.func16 fb_16 (by decide) cc_qb (inn:=[]) (by kernel_rfl) all_nil el_qb_21 (ptC sgok (by kernel_rfl)) (outsOk (exitOk_cons (ptC sgok (by kernel_rfl)) (fun _=>rfl) exitOk_nil) (retOk_one (prC sgok (by kernel_rfl)) (fun _=>rfl)) (fun _=>rfl)) (fun b k=>match b with | .inl _=>rfl | .inr _=>rfl) (fun _ _=>rfl)
theorem lo_qb_26:LoopFor ZP sg 0 Tryz.f16 @loops_qb 26:=loopC good Tryz.func16 fb_16 (by decide) cc_qb (inn:=[]) (by kernel_rfl) all_nil el_qb_26 (ptC sgok (by kernel_rfl)) (outsOk (exitOk_cons (ptC sgok (by kernel_rfl)) (fun _=>rfl) exitOk_nil) (retOk_one (prC sgok (by kernel_rfl)) (fun _=>rfl)) (fun _=>rfl)) (fun b k=>match b with | .inl _=>rfl | .inr _=>rfl) (fun _ _=>rfl)
theorem lo_qb_31:LoopFor ZP sg 0 Tryz.f16 @loops_qb 31:=loopC good Tryz.func16 fb_16 (by decide) cc_qb (inn:=[]) (by kernel_rfl) all_nil el_qb_31 (ptC sgok (by kernel_rfl)) (outsOk (exitOk_cons (ptC sgok (by kernel_rfl)) (fun _=>rfl) exitOk_nil) (retOk_one (prC sgok (by kernel_rfl)) (fun _=>rfl)) (fun _=>rfl)) (fun b k=>match b with | .inl _=>rfl | .inr _=>rfl) (fun _ _=>rfl)
theorem lo_qb_36:LoopFor ZP sg 0 Tryz.f16 @loops_qb 36:=loopC good Tryz.func16 fb_16 (by decide) cc_qb (inn:=[]) (by kernel_rfl) all_nil el_qb_36 (ptC sgok (by kernel_rfl)) (outsOk (exitOk_cons (ptC sgok (by kernel_rfl)) (fun _=>rfl) exitOk_nil) (retOk_one (prC sgok (by kernel_rfl)) (fun _=>rfl)) (fun _=>rfl)) (fun b k=>match b with | .inl _=>rfl | .inr _=>rfl) (fun _ _=>rfl)
theorem con_qb:SG ZP sg 16 @sem_qb:=conD good Tryz.func16 fb_16 (by kernel_rfl) cc_qb (all_cons lo_qb_6 (all_cons lo_qb_11 (all_cons lo_qb_16 (all_cons lo_qb_21 (all_cons lo_qb_26 (all_cons lo_qb_31 (all_cons lo_qb_36 all_nil))))))) e_qb
theorem fb_4:fnB ZP 4 Tryz.f4 []=true:=by kernel_rfl
theorem cc_qe6:CG ZP sg @call_qe6:=(cgc con_qdu (cgc con_qb (cgc con_qev (cgc con_qai (cgc con_qbm (cgc con_qc1 (cgc con_qd3 cg0)))))))
theorem con_qe6:SG ZP sg 4 @sem_qe6:=conD good Tryz.func4 fb_4 (by kernel_rfl) cc_qe6 all_nil e_qe6
end Go.Proofs.YtdahfgialanmpaaGreatDoor
namespace Go.Proofs.YtdahfgialanmpaaGreatDoor
open Ev
open Go (IntKind)
section
variable {α β σ X:Type}
theorem iterN_mono {step:α→Option (α⊕β)}:∀{n m:Nat} {a:α} {b:β},n≤m→iterN step n a=some b→iterN step m a=some b:=by
 intro n
 induction n with
 |zero=>intro m a b _ h;cases h
 |succ n ih=>
  intro m a b hm h
  obtain ⟨m,rfl⟩:∃k,m=k+1:=⟨m-1,by omega⟩
  simp only[iterN]at h ⊢
  cases h1:step a with
  |none=>rw[h1]at h;cases h
  |some x=>
   rw[h1]at h
   cases x with
   |inl a'=>exact ih (by omega) h
   |inr b'=>exact h
theorem whileO_of {step:α→Option (α⊕β)} {a:α} {b:β} (n:Nat) (hn:n≤FUEL) (h:iterN step n a=some b):whileO step a=some b:=iterN_mono hn h
def scanT (f:Nat→X→σ→σ⊕β) (fin:σ→β):Nat→List X→σ→β
 |_,[],s=>fin s
 |i,x::l,s=>match f i x s with
  |.inl s'=>scanT f fin (i+1) l s'
  |.inr b=>b
theorem whileO_scanI {step:α→Option (α⊕β)} (Inv:Nat→σ→Prop) (enc:Nat→σ→α) (l:List X) (f:Nat→X→σ→σ⊕β) (fin:σ→β) (hl:l.length<FUEL)
 (h0:∀s,Inv l.length s→step (enc l.length s)=some (.inr (fin s)))
 (h1:∀i x s,l[i]?=some x→Inv i s→(step (enc i s)=some (match f i x s with | .inl s'=>.inl (enc (i+1) s') | .inr b=>.inr b))∧∀s',f i x s=.inl s'→Inv (i+1) s')
 (s:σ) (hs:Inv 0 s):whileO step (enc 0 s)=some (scanT f fin 0 l s):=by
 have key:∀k i s,i+k=l.length→Inv i s→iterN step (k+1) (enc i s)=some (scanT f fin i (l.drop i) s):=by
  intro k
  induction k with
  |zero=>
   intro i s hi hs
   have:i=l.length:=by omega
   subst this
   rw[List.drop_length]
   simp only[iterN,h0 s hs,scanT]
  |succ k ih=>
   intro i s hi hs
   have hlt:i<l.length:=by omega
   obtain ⟨e1,e2⟩:=h1 i l[i] s (List.getElem?_eq_getElem hlt) hs
   rw[List.drop_eq_getElem_cons hlt]
   rw[iterN,e1]
   simp only[scanT]
   cases hf:f i l[i] s with
   |inl s'=>simp only;exact ih (i+1) s' (by omega) (e2 s' hf)
   |inr b=>rfl
 have:=key l.length 0 s (by omega) hs
 exact whileO_of (l.length+1) (by omega) (by simpa using this)
theorem whileO_scan {step:α→Option (α⊕β)} (enc:Nat→σ→α) (l:List X) (f:Nat→X→σ→σ⊕β) (fin:σ→β) (hl:l.length<FUEL)
 (h0:∀s,step (enc l.length s)=some (.inr (fin s)))
 (h1:∀i x s,l[i]?=some x→step (enc i s)=some (match f i x s with | .inl s'=>.inl (enc (i+1) s') | .inr b=>.inr b))
 (s:σ):whileO step (enc 0 s)=some (scanT f fin 0 l s):=
 whileO_scanI (fun _ _=>True) enc l f fin hl (fun s _=>h0 s) (fun i x s hx _=>⟨h1 i x s hx,fun _ _=>trivial⟩) s trivial
def fIdx (p:X→Bool) (l:List X):Int:=match l.findIdx? p with|some i=>(i:Int)|none=>-1
def errAt (f:Nat→X→Int):Nat→List X→Int
 |_,[]=>0
 |i,x::l=>if f i x==0 then errAt f (i+1) l else f i x
theorem scanT_err {f:Nat→X→Int} {d:β} {g:Int→β}:∀{l:List X} {i:Nat},scanT (σ:=Unit) (fun i x _=>if f i x==0 then .inl () else .inr (g (f i x))) (fun _=>d) i l ()=if errAt f i l==0 then d else g (errAt f i l):=by
 intro l
 induction l with
 |nil=>intros;rfl
 |cons x l ih=>
  intro i
  simp only[scanT,errAt]
  by_cases h:(f i x==0)=true
  ·simp only[h,if_true];exact ih
  ·have h2:¬f i x=0:=fun e=>h (by simp[e])
   simp[h2]
theorem scanT_fold {f:X→σ→σ} {fin:σ→β}:∀{l:List X} {i:Nat} {s:σ},scanT (fun _ x s=>.inl (f x s)) fin i l s=fin (l.foldl (fun s x=>f x s) s):=by
 intro l
 induction l with
 |nil=>intros;rfl
 |cons x l ih=>intro i s;simp only[scanT,List.foldl_cons];exact ih
end
section
variable {α β σ X:Type} {step:α→Option (α⊕β)}
def errOut (a:α) (g:Int→β) (e:Int):Option (α⊕β):=if e==0 then some (.inl a) else some (.inr (g e))
theorem errOut_cond (a:α) (g:Int→β) (b:Bool) (x y:Int):errOut a g (bif b then x else y)=bif b then errOut a g x else errOut a g y:=by cases b<;>rfl
theorem whileO_err (enc:Nat→α) (l:List X) (f:Nat→X→Int) (d:β) (g:Int→β) (hl:l.length<1000000000) (h0:step (enc l.length)=some (.inr d))
 (h1:∀i x,l[i]?=some x→step (enc i)=errOut (enc (i+1)) g (f i x)):whileO step (enc 0)=some (if errAt f 0 l==0 then d else g (errAt f 0 l)):=by
 have h:=whileO_scan (step:=step) (fun i (_:Unit)=>enc i) l (fun i x _=>if f i x==0 then .inl () else .inr (g (f i x))) (fun _=>d) (by show l.length<18446744073709551616;omega) (fun _=>h0)
  (fun i x _ hx=>by rw[h1 i x hx];unfold errOut;split<;>rfl) ()
 rw[h,scanT_err]
def findG (p:X→Bool) (g:Nat→X→β) (d:β):Nat→List X→β
 |_,[]=>d
 |i,x::l=>bif p x then g i x else findG p g d (i+1) l
theorem whileO_find (enc:Nat→α) (l:List X) (p:X→Bool) (g:Nat→X→β) (d:β) (hl:l.length<1000000000) (h0:step (enc l.length)=some (.inr d))
 (h1:∀i x,l[i]?=some x→step (enc i)=bif p x then some (.inr (g i x)) else some (.inl (enc (i+1)))):whileO step (enc 0)=some (findG p g d 0 l):=by
 have h:=whileO_scan (step:=step) (fun i (_:Unit)=>enc i) l (fun i x _=>if p x then .inr (g i x) else .inl ()) (fun _=>d) (by show l.length<18446744073709551616;omega) (fun _=>h0)
  (fun i x _ hx=>by rw[h1 i x hx];cases p x<;>rfl) ()
 rw[h]
 have key:∀(l:List X) (i:Nat),scanT (σ:=Unit) (fun i x _=>if p x then .inr (g i x) else .inl ()) (fun _=>d) i l ()=findG p g d i l:=by
  intro l
  induction l with
  |nil=>intro i;rfl
  |cons x l ih=>
   intro i
   simp only[scanT,findG]
   cases p x with
   |true=>rfl
   |false=>exact ih _
 rw[key]
theorem findG_find {p:X→Bool} {g:X→β} {d:β}:∀{l:List X} {i:Nat},findG p (fun _ x=>g x) d i l=(match l.find? p with|some x=>g x|none=>d):=by
 intro l
 induction l with
 |nil=>intros;rfl
 |cons x l ih=>intro i;simp only[findG,List.find?_cons];cases p x with|true=>rfl|false=>exact ih
theorem findG_idx {p:X→Bool}:∀{l:List X} {i:Nat},findG p (fun i _=>(i:Int)) (-1) i l=(match l.findIdx? p with|some k=>((i+k:Nat):Int)|none=>-1):=by
 intro l
 induction l with
 |nil=>intros;rfl
 |cons x l ih=>
  intro i
  simp only[findG,List.findIdx?_cons]
  cases p x with
  |true=>rfl
  |false=>
   simp only[Bool.false_eq_true,if_false,cond_false]
   rw[ih]
   cases l.findIdx? p with
   |none=>rfl
   |some k=>simp only[Option.map_some];rw[show i+1+k=i+(k+1) by omega]
theorem findG_fIdx {p:X→Bool} {l:List X}:findG p (fun i _=>(i:Int)) (-1) 0 l=fIdx p l:=by
 rw[findG_idx];unfold fIdx;simp
theorem findG_map {γ:Type} {p:X→Bool} {g:Nat→X→β} {d:β} (f:β→γ):∀{l:List X} {i:Nat},f (findG p g d i l)=findG p (fun i x=>f (g i x)) (f d) i l:=by
 intro l
 induction l with
 |nil=>intros;rfl
 |cons x l ih=>intro i;simp only[findG];cases p x with|true=>rfl|false=>exact ih
def allAt (p:Nat→X→Bool):Nat→List X→Bool
 |_,[]=>true
 |i,x::l=>p i x&&allAt p (i+1) l
theorem whileO_all (enc:Nat→α) (l:List X) (p:Nat→X→Bool) (b d:β) (hl:l.length<1000000000) (h0:step (enc l.length)=some (.inr d))
 (h1:∀i x,l[i]?=some x→step (enc i)=bif p i x then some (.inl (enc (i+1))) else some (.inr b)):whileO step (enc 0)=some (bif allAt p 0 l then d else b):=by
 have h:=whileO_scan (step:=step) (fun i (_:Unit)=>enc i) l (fun i x _=>if p i x then .inl () else .inr b) (fun _=>d) (by show l.length<18446744073709551616;omega) (fun _=>h0)
  (fun i x _ hx=>by rw[h1 i x hx];cases p i x<;>rfl) ()
 rw[h]
 have key:∀(l:List X) (i:Nat),scanT (σ:=Unit) (fun i x _=>if p i x then .inl () else .inr b) (fun _=>d) i l ()=bif allAt p i l then d else b:=by
  intro l
  induction l with
  |nil=>intro i;rfl
  |cons x l ih=>
   intro i
   simp only[scanT,allAt]
   cases p i x with
   |true=>exact ih _
   |false=>rfl
 rw[key]
theorem allAt_all {p:X→Bool}:∀{l:List X} {i:Nat},allAt (fun _=>p) i l=l.all p:=by
 intro l
 induction l with
 |nil=>intros;rfl
 |cons x l ih=>intro i;simp only[allAt,List.all_cons];rw[ih]
theorem allAt_iff {p:Nat→X→Bool}:∀{l:List X} {i:Nat},allAt p i l=true↔∀k x,l[k]?=some x→p (i+k) x=true:=by
 intro l
 induction l with
 |nil=>intro i;simp[allAt]
 |cons y l ih=>
  intro i
  simp only[allAt,Bool.and_eq_true]
  rw[ih]
  constructor
  ·rintro ⟨h0,h⟩ k x hk
   cases k with
   |zero=>simp at hk;subst hk;exact h0
   |succ k=>have:=h k x (by simpa using hk);rwa [show i+(k+1)=i+1+k by omega]
  ·intro h
   exact ⟨h 0 y rfl,fun k x hk=>by have:=h (k+1) x (by simpa using hk);rwa [show i+(k+1)=i+1+k by omega]at this⟩
end
def prevB {X:Type} (l:List X) (i:Nat) (f:X→Bool):Bool:=match i with
 |0=>false
 |j+1=>match l[j]? with|some y=>f y|none=>false
theorem wr_id {n:Int} (h1 : -9223372036854775808≤n) (h2:n≤9223372036854775807):wr .i64 n=n:=by
 unfold wr;rw[IntKind.wrap_i64];omega
theorem wr_succ {n:Nat} (h:n<9223372036854775807):wr .i64 ((n:Int)+1)=((n+1:Nat):Int):=by
 rw[wr_id (by omega) (by omega)];rfl
theorem wr_pred {j:Nat} (h:j<1000000000):wr .i64 (((j+1:Nat):Int)-1)=(j:Int):=by
 rw[show ((j+1:Nat):Int)-1=(j:Int) by omega]
 exact wr_id (by omega) (by omega)
theorem dpos {j:Nat}:decide ((0:Int)<((j+1:Nat):Int))=true:=by rw[decide_eq_true_eq];omega
theorem dpos0:decide ((0:Int)<((0:Nat):Int))=false:=rfl
theorem getI_nat {α:Type} (l:List α) (i:Nat):getI l (i:Int)=l[i]?:=by
 unfold getI;simp
theorem LIM_eq:LIM=1073741824:=rfl
theorem FUEL_eq:FUEL=18446744073709551616:=rfl
end Go.Proofs.YtdahfgialanmpaaGreatDoor
namespace Go.Proofs.YtdahfgialanmpaaGreatDoor
open Ev
open Go (IntKind)
theorem dlt {i n:Nat} (h:i<n):decide ((i:Int)<(n:Int))=true:=by simpa using h
theorem dge {n:Nat}:decide ((n:Int)<(n:Int))=false:=by simp
theorem k_or {α:Type} (k:Bool→α) (a b:Bool):(bif a then k true else k b)=k (a||b):=by cases a<;>rfl
theorem k_and {α:Type} (k:Bool→α) (a b:Bool):(bif a then k b else k false)=k (a&&b):=by cases a<;>rfl
theorem k_or2 {α:Type} (k:Bool→α) (a b:Bool):(bif a then k a else k b)=k (a||b):=by cases a<;>rfl
theorem k_some {α:Type} (c:Bool) (a b:α):(bif c then some a else some b)=some (bif c then a else b):=by cases c<;>rfl
theorem wr_byte (b:UInt8):wr .i64 (b.toNat:Int)=(b.toNat:Int):=by
 have:=b.toNat_lt
 exact wr_id (by omega) (by omega)
def dcdI (r:List UInt8):Int×Int:=(((dcd r).1:Int),((dcd r).2:Int))
theorem qcm_eq {s:List UInt8} {i:Nat} (hi:i<s.length) (hs:s.length<1000000000):qcm s (i:Int)=some (dcdI (s.drop i)):=by
 obtain ⟨a,r,hr⟩:∃a r,s.drop i=a::r:=⟨s[i],s.drop (i+1),List.drop_eq_getElem_cons hi⟩
 have g:∀k,getI s ((i+k:Nat):Int)=(a::r)[k]?:=fun k=>by rw[getI_nat,←hr,List.getElem?_drop]
 have h0:getI s (i:Int)=some a:=g 0
 have w1:wr .i64 ((i:Int)+1)=((i+1:Nat):Int):=wr_succ (by omega)
 have w2:wr .i64 ((i:Int)+2)=((i+2:Nat):Int):=by rw[wr_id (by omega) (by omega)];rfl
 have hl:s.length=i+(r.length+1):=by
  have:=congrArg List.length hr
  simp only[List.length_drop,List.length_cons]at this
  omega
 have ha:=a.toNat_lt
 unfold qcm
 rw[hr]
 unfold dcdI dcd
 have t1:decide (((i+1:Nat):Int)<((i+(r.length+1):Nat):Int))=decide (0<r.length):=by congr 1;simp only[eq_iff_iff];omega
 have t2:decide (((i+2:Nat):Int)<((i+(r.length+1):Nat):Int))=decide (1<r.length):=by congr 1;simp only[eq_iff_iff];omega
 simp -zeta only[h0,w1,w2,g 1,g 2,wr_byte,k_or,k_and,hl,t1,t2]
 dsimp only
 clear hl t1 t2 g hr hi h0 w1 w2 hs
 by_cases c1:32≤a.toNat∧a.toNat<127
 ·have e1:(decide ((32:Int)≤(a.toNat:Int))&&decide ((a.toNat:Int)<127))=true:=by simp;omega
  simp only[e1,cond_true,if_pos c1];rfl
 have e1:(decide ((32:Int)≤(a.toNat:Int))&&decide ((a.toNat:Int)<127))=false:=by simp;omega
 simp only[e1,cond_false,if_neg c1]
 by_cases c2:194≤a.toNat∧a.toNat<224
 ·have e2:(decide ((194:Int)≤(a.toNat:Int))&&decide ((a.toNat:Int)<224))=true:=by simp;omega
  have e3:decide ((224:Int)≤(a.toNat:Int))=false:=by simp;omega
  simp only[e2,e3,Bool.true_and,Bool.false_and,cond_false,if_pos c2]
  rcases r with _|⟨b,r⟩
  ·rfl
  have hb:=b.toNat_lt
  have l1:decide (0<(b::r).length)=true:=by simp
  have g1:(a::b::r)[1]?=some b:=rfl
  have e4:wr .i64 ((wr .i64 ((wr .i64 ((wr .i64 ((a.toNat:Int)-192))*64))+(b.toNat:Int)))-128)=((a.toNat:Int)-192)*64+(b.toNat:Int)-128:=by
   rw[wr_id (n:=(a.toNat:Int)-192) (by omega) (by omega),wr_id (n:=((a.toNat:Int)-192)*64) (by omega) (by omega),wr_id (n:=((a.toNat:Int)-192)*64+(b.toNat:Int)) (by omega) (by omega),wr_id (by omega) (by omega)]
  simp only[l1,g1,e4,cond_true]
  by_cases cb:128≤b.toNat
  ·have b1:decide ((128:Int)≤(b.toNat:Int))=true:=by simp;omega
   simp only[b1,cond_true]
   by_cases cb2:b.toNat<192
   ·have b2:decide ((b.toNat:Int)<192)=true:=by simp;omega
    simp only[b2,g1,cond_true,Bool.cond_eq_ite,decide_eq_true_eq]
    rw[if_pos True.intro]
    split
    ·rw[if_pos (by omega)];simp only[Option.some.injEq,Prod.mk.injEq];omega
    ·rw[if_neg (by omega)];rfl
   ·have b2:decide ((b.toNat:Int)<192)=false:=by simp;omega
    simp only[b2,cond_false]
    rw[if_neg (by omega)];rfl
  ·have b1:decide ((128:Int)≤(b.toNat:Int))=false:=by simp;omega
   simp only[b1,cond_false]
   rw[if_neg (by omega)];rfl
 have e2:(decide ((194:Int)≤(a.toNat:Int))&&decide ((a.toNat:Int)<224))=false:=by simp;omega
 simp only[e2,Bool.false_and,cond_false,if_neg c2]
 by_cases c3:224≤a.toNat∧a.toNat<240
 ·have e3:(decide ((224:Int)≤(a.toNat:Int))&&decide ((a.toNat:Int)<240))=true:=by simp;omega
  simp only[e3,Bool.true_and,if_pos c3]
  rcases r with _|⟨b,_|⟨c,r⟩⟩
  ·rfl
  ·rfl
  have hb:=b.toNat_lt
  have hc:=c.toNat_lt
  have l1:decide (1<(b::c::r).length)=true:=by simp
  have g1:(a::b::c::r)[1]?=some b:=rfl
  have g2:(a::b::c::r)[2]?=some c:=rfl
  have e4:wr .i64 ((wr .i64 ((wr .i64 ((wr .i64 ((wr .i64 ((a.toNat:Int)-224))*4096))+(wr .i64 ((wr .i64 ((b.toNat:Int)-128))*64))))+(c.toNat:Int)))-128)=((a.toNat:Int)-224)*4096+((b.toNat:Int)-128)*64+(c.toNat:Int)-128:=by
   rw[wr_id (n:=(a.toNat:Int)-224) (by omega) (by omega),wr_id (n:=((a.toNat:Int)-224)*4096) (by omega) (by omega),wr_id (n:=(b.toNat:Int)-128) (by omega) (by omega),wr_id (n:=((b.toNat:Int)-128)*64) (by omega) (by omega),
    wr_id (n:=((a.toNat:Int)-224)*4096+((b.toNat:Int)-128)*64) (by omega) (by omega),wr_id (n:=((a.toNat:Int)-224)*4096+((b.toNat:Int)-128)*64+(c.toNat:Int)) (by omega) (by omega),wr_id (by omega) (by omega)]
  simp only[l1,g1,g2,e4,cond_true]
  by_cases cb:128≤b.toNat
  ·have b1:decide ((128:Int)≤(b.toNat:Int))=true:=by simp;omega
   simp only[b1,cond_true]
   by_cases cb2:b.toNat<192
   ·have b2:decide ((b.toNat:Int)<192)=true:=by simp;omega
    simp only[b2,cond_true]
    by_cases cc:128≤c.toNat
    ·have d1:decide ((128:Int)≤(c.toNat:Int))=true:=by simp;omega
     simp only[d1,cond_true]
     by_cases cc2:c.toNat<192
     ·have d2:decide ((c.toNat:Int)<192)=true:=by simp;omega
      simp only[d2,g1,g2,cond_true,Bool.cond_eq_ite,Bool.and_eq_true,Bool.or_eq_true,decide_eq_true_eq]
      rw[if_pos True.intro]
      split
      ·rw[if_pos (by omega)];simp only[Option.some.injEq,Prod.mk.injEq];omega
      ·rw[if_neg (by omega)];rfl
     ·have d2:decide ((c.toNat:Int)<192)=false:=by simp;omega
      simp only[d2,cond_false]
      rw[if_neg (by omega)];rfl
    ·have d1:decide ((128:Int)≤(c.toNat:Int))=false:=by simp;omega
     simp only[d1,cond_false]
     rw[if_neg (by omega)];rfl
   ·have b2:decide ((b.toNat:Int)<192)=false:=by simp;omega
    simp only[b2,cond_false]
    rw[if_neg (by omega)];rfl
  ·have b1:decide ((128:Int)≤(b.toNat:Int))=false:=by simp;omega
   simp only[b1,cond_false]
   rw[if_neg (by omega)];rfl
 ·have e3:(decide ((224:Int)≤(a.toNat:Int))&&decide ((a.toNat:Int)<240))=false:=by simp;omega
  simp only[e3,Bool.false_and,cond_false,if_neg c3];rfl
theorem dcd_le (l:List UInt8):(dcd l).2≤l.length:=by
 unfold dcd
 split
 ·simp
 ·rename_i a r
  split
  ·simp
  ·split
   ·split
    ·split<;>simp
    ·simp
   ·split
    ·split
     ·split<;>simp
     ·simp
    ·simp
theorem vldN_step (n:Nat) {s:List UInt8} {i:Nat} (hi:i<s.length):vldN (n+1) (s.drop i)=if (dcd (s.drop i)).2=0 then false else vldN n (s.drop (i+(dcd (s.drop i)).2)):=by
 have:s.drop i≠[]:=by simp;omega
 simp only[vldN,this,if_false,List.drop_drop]
theorem qau_eq {s:List UInt8} (hs:s.length<1000000000):qau s=some (vld s):=by
 have key:∀n i,s.length-i≤n→i≤s.length→iterN qau_L2 (n+1) (s,(i:Int),())=some (if vldN n (s.drop i) then .inl () else .inr (false,())):=by
  intro n
  induction n with
  |zero=>
   intro i h1 h2
   have:i=s.length:=by omega
   subst this
   simp only[iterN,qau_L2,dge,cond_false,vldN,if_true]
  |succ n ih=>
   intro i h1 h2
   rw[iterN]
   by_cases hi:i<s.length
   ·rw[vldN_step n hi]
    have hle:=dcd_le (s.drop i)
    rw[List.length_drop]at hle
    simp only[qau_L2,dlt hi,cond_true,qcm_eq hi hs,dcdI]
    by_cases h0:(dcd (s.drop i)).2=0
    ·simp[h0]
    ·have hb:(((dcd (s.drop i)).2:Int)==0)=false:=by simp;omega
     have hw:wr .i64 ((i:Int)+((dcd (s.drop i)).2:Int))=((i+(dcd (s.drop i)).2:Nat):Int):=by rw[wr_id (by omega) (by omega)];rfl
     simp only[hb,cond_false,hw,h0,if_false]
     exact ih _ (by omega) (by omega)
   ·have:i=s.length:=by omega
    subst this
    simp[qau_L2,vldN]
 unfold qau
 have:=key s.length 0 (by omega) (by omega)
 rw[show ((0:Int))=((0:Nat):Int) from rfl,whileO_of (s.length+1) (by rw[FUEL_eq];omega) this]
 simp only[List.drop_zero]
 unfold vld
 cases vldN s.length s<;>rfl
theorem qe0_eq {s:List UInt8} {i:Nat} (hi:i<s.length) (hs:s.length<1000000000):qe0 s (i:Int)=some ((wid (s.drop i):Nat):Int):=by
 unfold qe0 wid
 rw[qcm_eq hi hs]
 show some (if (((dcd (s.drop i)).2:Nat):Int)<1 then (1:Int) else (((dcd (s.drop i)).2:Nat):Int))=_
 rw[Option.some.injEq]
 by_cases h:(dcd (s.drop i)).2<1
 ·rw[if_pos h,if_pos (by omega)];rfl
 ·rw[if_neg h,if_neg (by omega)]
theorem wid_le {l:List UInt8} (h:l≠[]):1≤wid l∧wid l≤l.length:=by
 have:=dcd_le l
 have:0<l.length:=List.length_pos_iff.2 h
 unfold wid
 split<;>omega
theorem clnN_step (n:Nat) {s:List UInt8} {i:Nat} (hi:i<s.length) {out:List UInt8} {gap:Bool}:clnN (n+1) (s.drop i) out gap =
 if blk (dcd (s.drop i)).1 then clnN n (s.drop (i+wid (s.drop i))) out true else clnN n (s.drop (i+wid (s.drop i))) ((if gap&&!(out==[]) then out++[32] else out)++(s.drop i).take (wid (s.drop i))) false:=by
 have:s.drop i≠[]:=by simp;omega
 rw[clnN,if_neg this,List.drop_drop]
theorem qbp_eq {s:List UInt8} (hs:s.length<100000000):qbp s=some (cln s):=by
 have key:∀n i (out:List UInt8) (gap:Bool),s.length-i≤n→i≤s.length→out.length≤2*i→iterN qbp_L4 (n+1) (s,out,gap,(i:Int),())=some (clnN n (s.drop i) out gap,()):=by
  intro n
  induction n with
  |zero=>
   intro i out gap h1 h2 h3
   have:i=s.length:=by omega
   subst this
   simp only[iterN,qbp_L4,dge,cond_false,clnN]
  |succ n ih=>
   intro i out gap h1 h2 h3
   rw[iterN]
   by_cases hi:i<s.length
   ·rw[clnN_step n hi]
    have hw0:=wid_le (l:=s.drop i) (by simp;omega)
    rw[List.length_drop]at hw0
    obtain ⟨k,hk⟩:∃k,wid (s.drop i)=k:=⟨_,rfl⟩
    rw[hk]at hw0 ⊢
    have hw:wr .i64 ((i:Int)+(k:Int))=((i+k:Nat):Int):=by rw[wr_id (by omega) (by omega)];rfl
    have hb:qet ((dcd (s.drop i)).1:Int)=some (blk (dcd (s.drop i)).1):=by
     unfold qet
     simp -zeta only[k_or]
     simp only[Option.some.injEq,blk]
     rw[Bool.eq_iff_iff];simp;omega
    simp only[qbp_L4,dlt hi,cond_true,qcm_eq hi (show s.length<1000000000 by omega),qe0_eq hi (show s.length<1000000000 by omega),dcdI,hb,hk,hw]
    cases blk (dcd (s.drop i)).1 with
    |true=>simp only[cond_true,if_true];exact ih _ _ _ (by omega) (by omega) (by omega)
    |false=>
     have hc:(decide ((0:Int)≤(i:Int))&&(decide ((i:Int)≤((i+k:Nat):Int))&&decide (((i+k:Nat):Int)≤(s.length:Int))))=true:=by simp;omega
     have ht:(s.take (i+k)).drop i=(s.drop i).take k:=by rw[List.drop_take];congr 1;omega
     simp only[cond_false,hc,cond_true,Int.toNat_natCast,ht,Bool.false_eq_true,if_false]
     have hlen:∀o:List UInt8,o.length≤2*i+1→decide (o.length+((s.drop i).take k).length≤LIM)=true:=fun o ho=>by
      rw[LIM_eq];simp only[List.length_take,List.length_drop,decide_eq_true_eq];omega
     cases hg:(gap&&!(out==[])) with
     |true=>
      simp only[Bool.and_eq_true,Bool.not_eq_true']at hg
      have h32:decide (out.length+([32]:List Nat).length≤LIM)=true:=by rw[LIM_eq];simp;omega
      simp only[hg.1,hg.2,hc,ht,Int.toNat_natCast,cond_true,Bool.not_false,h32,hlen (out++[32]) (by simp;omega),if_true]
      exact ih _ _ _ (by omega) (by omega) (by simp;omega)
     |false=>
      cases gap with
      |false=>
       simp only[cond_false,hlen out (by omega),cond_true,Bool.false_eq_true,if_false]
       exact ih _ _ _ (by omega) (by omega) (by simp;omega)
      |true=>
       simp only[Bool.true_and]at hg
       simp only[cond_true,hg,cond_false,hlen out (by omega),Bool.false_eq_true,if_false]
       exact ih _ _ _ (by omega) (by omega) (by simp;omega)
   ·have:i=s.length:=by omega
    subst this
    simp[qbp_L4,clnN]
 unfold qbp
 have:=key s.length 0 [] false (by omega) (by omega) (by simp)
 rw[show ((0:Int))=((0:Nat):Int) from rfl,whileO_of (s.length+1) (by rw[FUEL_eq];omega) this]
 rfl
end Go.Proofs.YtdahfgialanmpaaGreatDoor
