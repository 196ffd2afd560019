/- InventoryKeeps: a part of the proof of the given statement, which is proved without conditions. -/
import Derived.Test.YteaknldbhmocpaaGreatDoorR4
import Derived.Lib.TrimUEq
import Derived.Lib.ValidU
import Derived.Lib.FieldsP
import Derived.Lib.Join
import Derived.Shelf.Strings.OnBuilder
import Derived.Shelf.Strings.FieldsFuncAny
import Derived.Shelf.Unicode.ValidAny
import Derived.Ground.NamesProg
import Derived.Ground.Names2Prog
import Derived.Test.YteaknldbhmocpaaGreatDoorProg
import Derived.WalkKit
import Derived.WalkMore
import Derived.Below
import Derived.Laws.RangeString
import Derived.Laws.Runes
import Derived.LoopTactic
import Derived.Deep.LoopGhost
import Derived.Shelf.Sort.Plain
import Derived.Shelf.Slices.CompactI
import Derived.Shelf.Slices.In.SortNone
import Derived.Lib.RowBridge
import Derived.Test.YteaknldbhmocpaaGreatDoorTie
import Derived.Shelf.LaysM
import Derived.Shelf.Strconv.Itoa3
import Derived.Lib.AppendIntMem
import Derived.KernelRfl
import Derived.Laws.BitsLemmas
set_option linter.all false
namespace Go.Proofs.YteaknldbhmocpaaGreatDoor.Ev
open Go
section
section
variable {κ:Type} {El:κ→Type} {S:Sg κ El} {P:Program}
theorem y7 {α:Type} {L new:List α} {off j:Nat} (h:off+new.length≤L.length):(Go.splice L off new)[j]?=if off≤j∧j<off+new.length then new[j-off]? else L[j]?:=by
 unfold Go.splice;rw[←ybl];exact b8l L new off j h
theorem a6d (sgk:SgOk S) {w w':World} {I J I':Nat→Nat→Prop} {v:Value} {d:D κ El} (h:DR S w I J v d) (hp:a6p d=true) (H:∀b o,I b o→w'.cell? ⟨b,o,none⟩=w.cell? ⟨b,o,none⟩∧I' b o):DR S w' I' I' v d:=
 (h.relendL sgk (J':=I) (a2g hp)).mono H H
theorem a3r (sgk:SgOk S) {k:κ} {x:El k} {j:Nat} {d:D κ El} (h:(S.enc k x)[j]?=some d):a6p d=true:=sgk.plain k x d (yaf h)
theorem d9i {w:World} {I J:Nat→Nat→Prop} {v:Value} {d:D κ El} (h:DR S w I J v d) (hp:a6p d=true):v.oneCell'=true:=
 (h.lone (by cases d<;>simp_all[a6p,solid])).one
structure InsOk (P:Program) (f z E:Nat):Prop where
 shift:∀{w:World} {b n c i vb vo vc:Nat} {L vs:List Value} {t:TypeId},i<n→n+1≤c→n+1≤1073741824→vb≠b→w.heap[b]?=some (.cells L.toArray t (0,0))→L.length=c*z→vs.length=z→
  (∀j v,vs[j]?=some v→w.cell? ⟨vb,vo+j,none⟩=some v)→(∀v∈(L.drop (i*z)).take ((n-i)*z),v.oneCell'=true)→(∀v∈vs,v.oneCell'=true)→
  Calls P f #[.slice (some ⟨b,0,none⟩) n c,.int .i64 i,.slice (some ⟨vb,vo,none⟩) 1 vc] w fun e w'=>
   e=.returned (.slice (some ⟨b,0,none⟩) (n+1) c)∧w'=(w.drew.setRow b (Go.splice L ((i+1)*z) ((L.drop (i*z)).take ((n-i)*z))).toArray).setRow b (Go.splice (Go.splice L ((i+1)*z) ((L.drop (i*z)).take ((n-i)*z))) (i*z) vs).toArray
 room:∀{w:World} {b n c vb vo vc:Nat} {L vs:List Value} {t:TypeId},n+1≤c→n+1≤1073741824→w.heap[b]?=some (.cells L.toArray t (0,0))→L.length=c*z→vs.length=z→
  (∀j v,vs[j]?=some v→w.cell? ⟨vb,vo+j,none⟩=some v)→(∀v∈vs,v.oneCell'=true)→
  Calls P f #[.slice (some ⟨b,0,none⟩) n c,.int .i64 n,.slice (some ⟨vb,vo,none⟩) 1 vc] w fun e w'=>
   e=.returned (.slice (some ⟨b,0,none⟩) (n+1) c)∧w'=w.setRow b (Go.splice L (n*z) vs).toArray
 new:∀{w:World} {base:Option Addr} {n c vb vo vc:Nat} {olds vs:List Value},n≤c→c<n+1→n+1≤1073741824→vs.length=z→(base=none→n=0)→olds.length=n*z→
  (∀a,base=some a→∀j v,olds[j]?=some v→w.cell? (a.add j)=some v)→(∀j v,vs[j]?=some v→w.cell? ⟨vb,vo+j,none⟩=some v)→
  Calls P f #[.slice base n c,.int .i64 n,.slice (some ⟨vb,vo,none⟩) 1 vc] w fun e w'=>
   ∃cap zs,e=.returned (.slice (some ⟨w.heap.size,0,none⟩) (n+1) cap)∧w'=w.drew.alloc (.cells (olds++(vs++zs)).toArray E)∧n+1≤cap∧zs.length=(cap-(n+1))*z
 grow:∀{w:World} {b n c i vb vo vc:Nat} {L vs:List Value} {t:TypeId},i<n→n≤c→c<n+1→n+1≤1073741824→vb≠b→w.heap[b]?=some (.cells L.toArray t (0,0))→L.length=c*z→vs.length=z→
  (∀j v,vs[j]?=some v→w.cell? ⟨vb,vo+j,none⟩=some v)→(∀v∈(L.drop (i*z)).take ((n-i)*z),v.oneCell'=true)→(∀v∈vs,v.oneCell'=true)→
  Calls P f #[.slice (some ⟨b,0,none⟩) n c,.int .i64 i,.slice (some ⟨vb,vo,none⟩) 1 vc] w fun e w'=>
   ∃cap row,e=.returned (.slice (some ⟨w.heap.size,0,none⟩) (n+1) cap)∧n+1≤cap∧row.length=cap*z∧row.take (i*z)=L.take (i*z)∧
    w'.heap=(w.heap.push (.cells (Go.splice (Go.splice row (i*z) vs) ((i+1)*z) ((L.drop (i*z)).take ((n-i)*z))).toArray E))∧w'.os=w.os∧w'.output=w.output∧w'.tape=w.tape
theorem b2c {k:κ} {xs:List (El k)} {y:El k} {i:Nat} {L vs M:List Value} {Q:Value→D κ El→Prop} (sgk:SgOk S) (hi:i≤xs.length)
 (h1:∀(i:Nat) (hi:i<xs.length) (j:Nat) (d:D κ El),(S.enc k xs[i])[j]?=some d→∃v,L[i*S.sz k+j]?=some v∧Q v d)
 (h2:∀(j:Nat) (d:D κ El),(S.enc k y)[j]?=some d→∃v,vs[j]?=some v∧Q v d)
 (m1:∀p:Nat,p<i*S.sz k→M[p]?=L[p]?) (m2:∀j:Nat,j<S.sz k→M[i*S.sz k+j]?=vs[j]?) (m3:∀p:Nat,i*S.sz k≤p→p<xs.length*S.sz k→M[p+S.sz k]?=L[p]?) :
 ∀(i':Nat) (hi':i'<(xs.take i++y::xs.drop i).length) (j:Nat) (d:D κ El),(S.enc k (xs.take i++y::xs.drop i)[i'])[j]?=some d→∃v,M[i'*S.sz k+j]?=some v∧Q v d:=by
 intro i' hi' j d hj;have hj':j<S.sz k:=by have:=(zL hj);rwa [sgk.sz]at this
 have hl:(xs.take i).length=i:=by simp;omega
 by_cases hlt:i'<i
 ·have e:(xs.take i++y::xs.drop i)[i']=xs[i']'(by omega):=by rw[ybH (by omega)];simp
  rw[e]at hj;obtain ⟨v,a,b⟩:=h1 i' (by omega) j d hj;exact ⟨v,by rw[m1 _ (a3h hj' hlt)];exact a,b⟩
 ·by_cases heq:i'=i
  ·subst heq;have e:(xs.take i'++y::xs.drop i')[i']=y:=by rw[ybE (by omega)];simp[hl]
   rw[e]at hj;obtain ⟨v,a,b⟩:=h2 j d hj;exact ⟨v,by rw[m2 j hj'];exact a,b⟩
  ·obtain ⟨p,rfl⟩:∃p,i'=p+1:=⟨i'-1,by omega⟩
   have hp:p<xs.length:=by simp at hi';omega
   have e:(xs.take i++y::xs.drop i)[p+1]=xs[p]:=by
    rw[ybE (by omega)];have e2:p+1-(xs.take i).length=(p-i)+1:=by omega
    simp only[e2,List.getElem_cons_succ,List.getElem_drop];congr 1;omega
   rw[e]at hj;obtain ⟨v,a,b⟩:=h1 p hp j d hj;refine ⟨v,?_,b⟩;have:=m3 (p*S.sz k+j) (by have:=yar (S.sz k) (show i≤p by omega);omega) (a3h hj' hp);rw[←a,←this];congr 1;rw[ya3];omega
theorem f5u (sgk:SgOk S) {f E:Nat} {fn:Func} {code:Code} (fok:FnOk P f fn code) (hmd:S.md f=.cons) {k:κ} (W:InsOk P f (S.sz k) E)
 {xs:List (El k)} {y:El k} {i:Nat} {ds:List (D κ El)} (hi:i≤xs.length) (hlim:xs.length+1≤1073741824) (hwl:WL ds [.lst k xs,.int .i64 (i:Int),.lst k [y]]) :
 Con P S f ds [] (.lst k (xs.take i++y::xs.drop i)) []:=by
 unfold Con;rw[hmd];intro _ k' xs' ds0 hds k2 xs2 hd w I J mb v0 vs hp ho ha;subst hds;cases hd
 have hw0:=hwl.2 0 _ _ rfl rfl;cases hw0 with
 |leaf _ _ hw0=>
 cases hw0
 have ha:=WL.args (cs':=[.int .i64 (i:Int),.lst k [y]]) ⟨by simpa using hwl.1,fun q d d' h1 h2=>hwl.2 (q+1) d d' (by simpa using h1) (by simpa using h2)⟩ ha;obtain ⟨base,c,rfl,hnc,hz⟩:=ho;obtain ⟨hvs,hav⟩:=ha;obtain ⟨u1,u2,rfl⟩:∃u1 u2,vs = #[u1,u2]:=by
  simp at hvs;exact ⟨vs[0],vs[1],by
   apply Array.ext
   ·simp[hvs]
   ·intro j h1 h2;simp at h2;rcases (show j=0∨j=1 by omega) with rfl|rfl<;>rfl⟩
 have hu1:u1=.int .i64 i:=(hav 0 u1 _ rfl rfl).int_inv;have hu2:=hav 1 u2 _ rfl rfl;subst hu1;obtain ⟨n,hn⟩:∃n,n=xs.length:=⟨_,rfl⟩
 have hpos:=sgk.pos k;cases hu2 with
 |lst vb vo vc _ _ cv hvcap hvc hvv=>
 obtain ⟨us,hus⟩:∃us,us=(List.range (S.sz k)).map (cv 0):=⟨_,rfl⟩
 have husl:us.length=S.sz k:=by rw[hus];simp
 have hug:∀j,j<S.sz k→us[j]?=some (cv 0 j):=fun j hj=>by rw[hus];simp[hj]
 have huc:∀j v,us[j]?=some v→w.cell? ⟨vb,vo+j,none⟩=some v:=fun j v hj=>by
  have hlt:=(zL hj)
  rw[husl]at hlt;rw[hug j hlt]at hj;cases hj
  have:=(hvc 0 j (by simp) hlt).1;simpa using this
 have huI:∀j,j<S.sz k→I vb (vo+j):=fun j hlt=>by have:=(hvc 0 j (by simp) hlt).2;simpa using this
 have hud:∀j d,(S.enc k y)[j]?=some d→∃v,us[j]?=some v∧DR S w I J v d:=fun j d hj=>by
  have hlt:=(zL hj)
  rw[sgk.sz]at hlt;exact ⟨_,hug j hlt,hvv 0 (by simp) j d hj⟩
 have hu1c:∀v∈us,v.oneCell'=true:=fun v hv=>by
  obtain ⟨j,hj⟩:=yaF hv;have hlt:=(zL hj)
  have hlt':j<(S.enc k y).length:=by rw[sgk.sz,←husl];exact hlt
  obtain ⟨v',e1,e2⟩:=hud j _ (yab hlt');rw[hj]at e1;cases e1
  exact d9i e2 (sgk.plain k y _ (ybx hlt'))
 have hIw:∀b o,I b o→b<w.heap.size:=hp.ib;have hres:(xs.take i++y::xs.drop i).length=n+1:=by simp;omega
 unfold a1v;rw[MuLone.run_callFunc_enter fok.at_ fok.name fok.body _ w];simp only;show Calls P f #[.slice base xs.length c,.int .i64 (i:Int),.slice (some ⟨vb,vo,none⟩) 1 vc] w _
 rcases hz with ⟨rfl,rfl⟩|⟨b,vals,t,rfl,rfl,hb,hvsz,hel⟩
 ·have hx0:xs=[]:=yaC (by omega);subst hx0;have hi0:i=0:=by simpa using hi
  subst hi0;have hnew:=W.new (w:=w) (base:=base) (n:=0) (c:=0) (vb:=vb) (vo:=vo) (vc:=vc) (olds:=[]) (vs:=us) (by omega) (by omega) (by omega) husl (fun _=>rfl) (by simp) (fun a _ j v hj=>by simp at hj) huc;refine hnew.mono (fun e w' he=>?_);obtain ⟨cap,zs,rfl,rfl,hcap,hzl⟩:=he;refine ⟨I,⟨by rw[World.size_alloc];show w.heap.size≤w.heap.size+1;omega,rfl,rfl,rfl,fun q hq _=>?_,fun _ _ h=>h,fun _ _ h=>.inl h,fun q o h=>by have:=hIw q o h;rw[World.size_alloc];show q<w.heap.size+1;omega⟩,
   some ⟨w.heap.size,0,none⟩,cap,by simp,by simp;omega,.inr ⟨w.heap.size,_,E,rfl,a3m w.drew _,?_,.inl (yau _),fun o h=>absurd (hIw _ _ h) (by omega),?_⟩⟩
  ·simp only[World.alloc];rw[ybT,yas (by show ¬q=w.heap.size;omega)];rfl
  ·simp[husl,hzl];obtain ⟨q,rfl⟩:∃q,cap=q+1:=⟨cap-1,by omega⟩
   rw[Nat.add_sub_cancel,ya3];omega
  ·intro i' hi' j d hj;have:=b2c (L:=[]) (vs:=us) (M:=us++zs) (Q:=fun v d=>DR S (w.drew.alloc (.cells ([]++(us++zs)).toArray E)) I I v d) sgk (i:=0) (xs:=[]) (y:=y) (by simp) (fun i hi=>absurd hi (by simp))
    (fun j d hj=>by
     obtain ⟨v,a,b⟩:=hud j d hj;exact ⟨v,a,a6d sgk b (a3r sgk hj) (fun q o h=>⟨by
      have:=hIw q o h;simp only[World.cell?,World.alloc];rw[ybT,yas (by show ¬q=w.heap.size;omega)];rfl,h⟩)⟩)
    (fun p hp=>absurd hp (by omega)) (fun j hj=>by rw[Nat.zero_mul,yaH,yaz (by omega)]) (fun p _ hp=>by simp at hp) i' hi' j d hj
   simpa using this
 ·have hbw:b<w.heap.size:=(yah.1 hb).1;have hbI:∀o,¬I b o:=fun o h=>(hp.jb b o (hp.ij b o h)).2 (by simp)
  have hne:vb≠b:=fun e=>by subst e;exact hbI _ (huI 0 hpos)
  obtain ⟨L,hL⟩:∃L,L=vals.toList:=⟨_,rfl⟩
  have hLa:vals=L.toArray:=by rw[hL]
  have hLl:L.length=c*S.sz k:=by rw[hL];simpa using hvsz
  rw[hLa]at hb;have hel':∀i (hi:i<xs.length) j d,(S.enc k xs[i])[j]?=some d→∃v,L[i*S.sz k+j]?=some v∧DR S w I J v d:=fun i hi j d hj=>by
   obtain ⟨v,a,e⟩:=hel i hi j d hj;exact ⟨v,by rw[hL];simpa using a,e⟩
  have hnL:n*S.sz k≤L.length:=by rw[hLl];exact yar _ (by omega)
  have hone:∀v∈L.take (n*S.sz k),v.oneCell'=true:=fun v hv=>by
   obtain ⟨p,hp'⟩:=yaF hv;have hlt:=(zL hp')
   simp only[yaW]at hlt;have h1:p / S.sz k<n:=(Nat.div_lt_iff_lt_mul hpos).2 (by omega);have h2:=Nat.mod_lt p hpos;have h3:p % S.sz k<(S.enc k (xs[p / S.sz k]'(by omega))).length:=by rw[sgk.sz];exact h2
   obtain ⟨v',a,e⟩:=hel' (p / S.sz k) (by omega) _ _ (yab h3);rw[Nat.div_add_mod']at a;rw[yaB,yaK (by omega),a]at hp';cases hp'
   exact d9i e (sgk.plain k _ _ (ybx h3))
  have hC1:(L.drop (i*S.sz k)).take ((n-i)*S.sz k)=(L.take (n*S.sz k)).drop (i*S.sz k):=by
   rw[List.drop_take];congr 1;rw[Nat.sub_mul]
  have hone1:∀v∈(L.drop (i*S.sz k)).take ((n-i)*S.sz k),v.oneCell'=true:=fun v hv=>hone v (by rw[hC1]at hv;exact List.mem_of_mem_drop hv)
  have hin:i*S.sz k≤n*S.sz k:=yar _ (by omega);have hi1:(i+1)*S.sz k=i*S.sz k+S.sz k:=by rw[ya3,yb3]
  have hn1:(n+1)*S.sz k=n*S.sz k+S.sz k:=by rw[ya3,yb3]
  obtain ⟨C1,hC⟩:∃C1,C1=(L.drop (i*S.sz k)).take ((n-i)*S.sz k):=⟨_,rfl⟩
  have hC1l:C1.length=n*S.sz k-i*S.sz k:=by rw[hC,hC1];simp;omega
  have hC1g:∀q,q<n*S.sz k-i*S.sz k→C1[q]?=L[i*S.sz k+q]?:=fun q hq=>by rw[hC,hC1,ybM,yaB,yaK (by omega)]
  have inpl:∀(M:List Value) (w':World),M.length=L.length→(w'=w.setRow b M.toArray∨∃M0:Array Value,w'=(w.drew.setRow b M0).setRow b M.toArray)→n+1≤c→
   (∀p:Nat,p<i*S.sz k→M[p]?=L[p]?)→(∀j:Nat,j<S.sz k→M[i*S.sz k+j]?=us[j]?)→(∀p:Nat,i*S.sz k≤p→p<xs.length*S.sz k→M[p+S.sz k]?=L[p]?)→
   ∃I',GrowM [b] w w' I I'∧h1g S w' I' w.heap.size [b] k (xs.take i++y::xs.drop i) (.slice (some ⟨b,0,none⟩) (n+1) c):=by
   intro M w' hMl hw' hroom m1 m2 m3;have hheap:w'.heap[b]?=some (.cells M.toArray t (0,0)):=by
    rcases hw' with rfl|⟨M0,rfl⟩
    ·exact setRow_heap _ _ _ _ _ _ hb
    ·exact setRow_heap _ _ _ _ _ _ (setRow_heap w.drew _ _ _ _ _ hb)
   have hoth:∀q,q≠b→w'.heap[q]?=w.heap[q]?:=fun q hq=>by
    rcases hw' with rfl|⟨M0,rfl⟩
    ·exact setRow_other _ _ _ _ hq
    ·rw[setRow_other _ _ _ _ hq,setRow_other _ _ _ _ hq];rfl
   have hsz:w'.heap.size=w.heap.size:=by
    rcases hw' with rfl|⟨M0,rfl⟩<;>simp only[setRow_size]<;>rfl
   refine ⟨I,⟨by omega,by rcases hw' with rfl|⟨M0,rfl⟩<;>rfl,by rcases hw' with rfl|⟨M0,rfl⟩<;>rfl,by rcases hw' with rfl|⟨M0,rfl⟩<;>rfl,fun q hq hm=>hoth q (by simpa using hm),fun _ _ h=>h,fun _ _ h=>.inl h,fun q o h=>by have:=hIw q o h;omega⟩,
    some ⟨b,0,none⟩,c,by rw[hres],by omega,.inr ⟨b,_,t,rfl,hheap,by simp[hMl,hLl],.inr (by simp),hbI,?_⟩⟩
   intro i' hi' j d hj;have:=b2c (L:=L) (vs:=us) (M:=M) (Q:=fun v d=>DR S w' I I v d) sgk (by omega)
    (fun i hi j d hj=>by
     obtain ⟨v,a,e⟩:=hel' i hi j d hj;exact ⟨v,a,a6d sgk e (a3r sgk hj) (fun q o h=>⟨by simp only[World.cell?];rw[hoth q (fun e=>by subst e;exact hbI o h)],h⟩)⟩)
    (fun j d hj=>by
     obtain ⟨v,a,e⟩:=hud j d hj;exact ⟨v,a,a6d sgk e (a3r sgk hj) (fun q o h=>⟨by simp only[World.cell?];rw[hoth q (fun e=>by subst e;exact hbI o h)],h⟩)⟩) m1 m2 m3 i' hi' j d hj
   simpa using this
  have newb:∀(M:List Value) (cap:Nat) (w':World),M.length=cap*S.sz k→w'.heap=w.heap.push (.cells M.toArray E)→w'.os=w.os→w'.output=w.output→w'.tape=w.tape→n+1≤cap→
   (∀p:Nat,p<i*S.sz k→M[p]?=L[p]?)→(∀j:Nat,j<S.sz k→M[i*S.sz k+j]?=us[j]?)→(∀p:Nat,i*S.sz k≤p→p<xs.length*S.sz k→M[p+S.sz k]?=L[p]?)→
   ∃I',GrowM [b] w w' I I'∧h1g S w' I' w.heap.size [b] k (xs.take i++y::xs.drop i) (.slice (some ⟨w.heap.size,0,none⟩) (n+1) cap):=by
   intro M cap w' hMl hheap h1 h2 h3 hcap m1 m2 m3;have hoth:∀q,q<w.heap.size→w'.heap[q]?=w.heap[q]?:=fun q hq=>by rw[hheap,ybT,yas (by omega)]
   refine ⟨I,⟨by rw[hheap];simp,h1,h2,h3,fun q hq _=>hoth q hq,fun _ _ h=>h,fun _ _ h=>.inl h,fun q o h=>by have:=hIw q o h;rw[hheap];simp;omega⟩,
    some ⟨w.heap.size,0,none⟩,cap,by rw[hres],by omega,.inr ⟨w.heap.size,_,E,rfl,by rw[hheap];exact Array.getElem?_push_size,by simp[hMl],.inl (yau _),fun o h=>absurd (hIw _ _ h) (by omega),?_⟩⟩
   intro i' hi' j d hj;have:=b2c (L:=L) (vs:=us) (M:=M) (Q:=fun v d=>DR S w' I I v d) sgk (by omega)
    (fun i hi j d hj=>by
     obtain ⟨v,a,e⟩:=hel' i hi j d hj;exact ⟨v,a,a6d sgk e (a3r sgk hj) (fun q o h=>⟨by simp only[World.cell?];rw[hoth q (hIw q o h)],h⟩)⟩)
    (fun j d hj=>by
     obtain ⟨v,a,e⟩:=hud j d hj;exact ⟨v,a,a6d sgk e (a3r sgk hj) (fun q o h=>⟨by simp only[World.cell?];rw[hoth q (hIw q o h)],h⟩)⟩) m1 m2 m3 i' hi' j d hj
   simpa using this
  rw[←hn]at hi hlim hnc ⊢;by_cases hroom:n+1≤c
  ·have hn1c:(n+1)*S.sz k≤L.length:=by rw[hLl];exact yar _ hroom
   by_cases hlt:i<n
   ·refine (W.shift (vc:=vc) hlt hroom hlim hne hb hLl husl huc hone1 hu1c).mono (fun e w' he=>?_);obtain ⟨rfl,rfl⟩:=he;rw[←hC];have l1:(Go.splice L ((i+1)*S.sz k) C1).length=L.length:=length_splice _ _ _ (by omega);refine inpl _ _ ?_ (.inr ⟨_,rfl⟩) hroom ?_ ?_ ?_
    ·rw[length_splice _ _ _ (by omega),l1]
    ·intro p hp';rw[y7 (by omega),yas (by omega),y7 (by omega),yas (by omega)]
    ·intro j hj;rw[y7 (by omega),yaK (by omega)];congr 1;omega
    ·intro p h1 h2;rw[←hn]at h2;rw[y7 (by omega),yas (by omega),y7 (by omega),yaK (by omega),hC1g _ (by omega)];congr 1;omega
   ·have hie:i=n:=by omega
    subst hie;refine (W.room (vc:=vc) hroom hlim hb hLl husl huc hu1c).mono (fun e w' he=>?_);obtain ⟨rfl,rfl⟩:=he;refine inpl _ _ (length_splice _ _ _ (by omega)) (.inl rfl) hroom ?_ ?_ ?_
    ·intro p hp';rw[y7 (by omega),yas (by omega)]
    ·intro j hj;rw[y7 (by omega),yaK (by omega)];congr 1;omega
    ·intro p h1 h2;rw[←hn]at h2;omega
  ·by_cases hlt:i<n
   ·refine (W.grow (vc:=vc) hlt hnc (by omega) hlim hne hb hLl husl huc hone1 hu1c).mono (fun e w' he=>?_);obtain ⟨cap,row,rfl,hcap,hrl,hrt,hheap,q1,q2,q3⟩:=he;rw[←hC]at hheap;have hrl':(n+1)*S.sz k≤row.length:=by rw[hrl];exact yar _ hcap
    have l1:(Go.splice row (i*S.sz k) us).length=row.length:=length_splice _ _ _ (by omega);refine newb _ cap w' ?_ hheap q1 q2 q3 hcap ?_ ?_ ?_
    ·rw[length_splice _ _ _ (by omega),l1,hrl]
    ·intro p hp';rw[y7 (by omega),yas (by omega),y7 (by omega),yas (by omega)];have e1:(row.take (i*S.sz k))[p]?=row[p]?:=by rw[yaB,yaK hp']
     have e2:(L.take (i*S.sz k))[p]?=L[p]?:=by rw[yaB,yaK hp']
     rw[←e1,hrt,e2]
    ·intro j hj;rw[y7 (by omega),yas (by omega),y7 (by omega),yaK (by omega)];congr 1;omega
    ·intro p h1 h2;rw[←hn]at h2;rw[y7 (by omega),yaK (by omega),hC1g _ (by omega)];congr 1;omega
   ·have hie:i=n:=by omega
    subst hie;refine (W.new (base:=some ⟨b,0,none⟩) (vc:=vc) (olds:=L.take (i*S.sz k)) hnc (by omega) hlim husl (fun h=>by cases h) (by simp;omega) (fun a ha j v hj=>?_) huc).mono (fun e w' he=>?_)
    ·cases ha
     rw[yaB]at hj;split at hj
     ·rw[a0v,yaH];simp only[World.cell?,hb];simpa using hj
     ·cases hj
    ·obtain ⟨cap,zs,rfl,rfl,hcap,hzl⟩:=he;obtain ⟨q,rfl⟩:∃q,cap=q+(i+1):=⟨cap-(i+1),by omega⟩
     rw[Nat.add_sub_cancel]at hzl;have hTl:(L.take (i*S.sz k)).length=i*S.sz k:=by simp;omega
     refine newb _ (q+(i+1)) _ ?_ rfl rfl rfl rfl hcap ?_ ?_ ?_
     ·simp only[yaP,hTl,husl,hzl];rw[ya3,hi1];omega
     ·intro p hp';rw[yaz (by omega),yaB,yaK hp']
     ·intro j hj;rw[yaA (by omega),yaz (by omega)];congr 1;omega
     ·intro p h1 h2;rw[←hn]at h2;omega
theorem b7d (sgk:SgOk S) {f E:Nat} {fn:Func} {code:Code} (fok:FnOk P f fn code) (hmd:S.md f=.cons) {k:κ} (W:InsOk P f (S.sz k) E)
 {xs vs r:List (El k)} {i:Int} {ds:List (D κ El)} (hwl:WL ds [.lst k xs,.int .i64 i,.lst k vs]) (hr:b2d xs i vs=some r):Con P S f ds [] (.lst k r) []:=by
 unfold b2d at hr;split at hr
 ·rename_i y;rw[c4]at hr;split at hr
  ·rename_i h;simp only[yad,yae]at h;cases hr
   obtain ⟨n,rfl⟩:=Int.eq_ofNat_of_zero_le h.1.1;exact f5u sgk fok hmd W (i:=n) (by omega) h.2 hwl
  ·cases hr
 ·cases hr
end
end
section
section
variable {κ:Type} {El:κ→Type} {S:Sg κ El} {P:Program}
structure DelOk (P:Program) (f z:Nat):Prop where
 non:∀{w:World} {base:Option Addr} {n c i:Nat},n≤c→i≤n→Calls P f #[.slice base n c,.int .i64 i,.int .i64 i] w fun e w'=>e=.returned (.slice base n c)∧w'=w
 som:∀{w:World} {b n c i j:Nat} {L:List Value} {t:TypeId},i<j→j≤n→n≤c→w.heap[b]?=some (.cells L.toArray t (0,0))→L.length=c*z→(∀v∈(L.drop (j*z)).take ((n-j)*z),v.oneCell'=true)→
  Calls P f #[.slice (some ⟨b,0,none⟩) n c,.int .i64 i,.int .i64 j] w fun e w'=>
   e=.returned (.slice (some ⟨b,0,none⟩) (i+(n-j)) c)∧∃(M0:Array Value) (zs:List Value),zs.length=(j-i)*z∧w'=(w.drew.setRow b M0).setRow b (Go.splice (Go.splice L (i*z) ((L.drop (j*z)).take ((n-j)*z))) ((i+(n-j))*z) zs).toArray
theorem f5t (sgk:SgOk S) {f:Nat} {fn:Func} {code:Code} (fok:FnOk P f fn code) (hmd:S.md f=.cons) {k:κ} (W:DelOk P f (S.sz k))
 {xs:List (El k)} {i j:Nat} {ds:List (D κ El)} (hij:i≤j) (hj:j≤xs.length) (hwl:WL ds [.lst k xs,.int .i64 (i:Int),.int .i64 (j:Int)]) :
 Con P S f ds [] (.lst k (xs.take i++xs.drop j)) []:=by
 unfold Con;rw[hmd];intro _ k' xs' ds0 hds k2 xs2 hd w I J mb v0 vs hp ho ha;subst hds;cases hd
 have hw0:=hwl.2 0 _ _ rfl rfl;cases hw0 with
 |leaf _ _ hw0=>
 cases hw0
 have ha:=WL.args (cs':=[.int .i64 (i:Int),.int .i64 (j:Int)]) ⟨by simpa using hwl.1,fun q d d' h1 h2=>hwl.2 (q+1) d d' (by simpa using h1) (by simpa using h2)⟩ ha;obtain ⟨base,c,rfl,hnc,hz⟩:=ho;obtain ⟨hvs,hav⟩:=ha;obtain ⟨u1,u2,rfl⟩:∃u1 u2,vs = #[u1,u2]:=by
  simp at hvs;exact ⟨vs[0],vs[1],by
   apply Array.ext
   ·simp[hvs]
   ·intro j h1 h2;simp at h2;rcases (show j=0∨j=1 by omega) with rfl|rfl<;>rfl⟩
 have hu1:u1=.int .i64 i:=(hav 0 u1 _ rfl rfl).int_inv;have hu2:u2=.int .i64 j:=(hav 1 u2 _ rfl rfl).int_inv;subst hu1 hu2;obtain ⟨n,hn⟩:∃n,n=xs.length:=⟨_,rfl⟩
 have hpos:=sgk.pos k;have hIw:∀b o,I b o→b<w.heap.size:=hp.ib;have hres:(xs.take i++xs.drop j).length=i+(n-j):=by simp;omega
 unfold a1v;rw[MuLone.run_callFunc_enter fok.at_ fok.name fok.body _ w];simp only;show Calls P f #[.slice base xs.length c,.int .i64 (i:Int),.int .i64 (j:Int)] w _
 by_cases heq:i=j
 ·subst heq;refine (W.non hnc hj).mono (fun e w' he=>?_);obtain ⟨rfl,rfl⟩:=he;have e:xs.take i++xs.drop i=xs:=by simp
  rw[e];refine ⟨I,⟨yau _,rfl,rfl,rfl,fun _ _ _=>rfl,fun _ _ h=>h,fun _ _ h=>.inl h,hIw⟩,base,c,rfl,hnc,?_⟩;rcases hz with ⟨h,_⟩|⟨b,vals,t,rfl,rfl,hb,hvsz,hel⟩
  ·exact .inl h
  ·have hbI:∀o,¬I b o:=fun o h=>(hp.jb b o (hp.ij b o h)).2 (by simp)
   refine .inr ⟨b,vals,t,rfl,hb,hvsz,.inr (by simp),hbI,fun q hq j d hj=>?_⟩;obtain ⟨v,a,e⟩:=hel q hq j d hj;exact ⟨v,a,a6d sgk e (a3r sgk hj) (fun _ _ h=>⟨rfl,h⟩)⟩
 ·have hlt:i<j:=by omega
  rcases hz with ⟨rfl,rfl⟩|⟨b,vals,t,rfl,rfl,hb,hvsz,hel⟩
  ·exfalso;omega
  ·have hbw:b<w.heap.size:=(yah.1 hb).1;have hbI:∀o,¬I b o:=fun o h=>(hp.jb b o (hp.ij b o h)).2 (by simp)
   obtain ⟨L,hL⟩:∃L,L=vals.toList:=⟨_,rfl⟩
   have hLa:vals=L.toArray:=by rw[hL]
   have hLl:L.length=c*S.sz k:=by rw[hL];simpa using hvsz
   rw[hLa]at hb;have hel':∀i (hi:i<xs.length) j d,(S.enc k xs[i])[j]?=some d→∃v,L[i*S.sz k+j]?=some v∧DR S w I J v d:=fun i hi j d hj=>by
    obtain ⟨v,a,e⟩:=hel i hi j d hj;exact ⟨v,by rw[hL];simpa using a,e⟩
   have hnL:n*S.sz k≤L.length:=by rw[hLl];exact yar _ (by omega)
   have hone:∀v∈L.take (n*S.sz k),v.oneCell'=true:=fun v hv=>by
    obtain ⟨p,hp'⟩:=yaF hv;have hlt:=(zL hp')
    simp only[yaW]at hlt;have h1:p / S.sz k<n:=(Nat.div_lt_iff_lt_mul hpos).2 (by omega);have h2:=Nat.mod_lt p hpos;have h3:p % S.sz k<(S.enc k (xs[p / S.sz k]'(by omega))).length:=by rw[sgk.sz];exact h2
    obtain ⟨v',a,e⟩:=hel' (p / S.sz k) (by omega) _ _ (yab h3);rw[Nat.div_add_mod']at a;rw[yaB,yaK (by omega),a]at hp';cases hp'
    exact d9i e (sgk.plain k _ _ (ybx h3))
   have hjn:j*S.sz k≤n*S.sz k:=yar _ (by omega);have hC1:(L.drop (j*S.sz k)).take ((n-j)*S.sz k)=(L.take (n*S.sz k)).drop (j*S.sz k):=by
    rw[List.drop_take];congr 1;rw[Nat.sub_mul]
   have hone1:∀v∈(L.drop (j*S.sz k)).take ((n-j)*S.sz k),v.oneCell'=true:=fun v hv=>hone v (by rw[hC1]at hv;exact List.mem_of_mem_drop hv)
   obtain ⟨C1,hC⟩:∃C1,C1=(L.drop (j*S.sz k)).take ((n-j)*S.sz k):=⟨_,rfl⟩
   have hC1l:C1.length=n*S.sz k-j*S.sz k:=by rw[hC,hC1];simp;omega
   have hC1g:∀q,q<n*S.sz k-j*S.sz k→C1[q]?=L[j*S.sz k+q]?:=fun q hq=>by rw[hC,hC1,ybM,yaB,yaK (by omega)]
   have hij':i*S.sz k≤j*S.sz k:=yar _ (by omega);have hm:(i+(n-j))*S.sz k=i*S.sz k+(n*S.sz k-j*S.sz k):=by rw[ya3,Nat.sub_mul]
   have hz2:(j-i)*S.sz k=j*S.sz k-i*S.sz k:=by rw[Nat.sub_mul]
   refine (W.som hlt hj hnc hb hLl (by rw[←hn];exact hone1)).mono (fun e w' he=>?_);obtain ⟨rfl,M0,zs,hzl,rfl⟩:=he;rw[←hn,←hC];have l1:(Go.splice L (i*S.sz k) C1).length=L.length:=length_splice _ _ _ (by omega);have l2:(Go.splice (Go.splice L (i*S.sz k) C1) ((i+(n-j))*S.sz k) zs).length=L.length:=by rw[length_splice _ _ _ (by omega),l1]
   generalize hM:Go.splice (Go.splice L (i*S.sz k) C1) ((i+(n-j))*S.sz k) zs=M at l2 ⊢;have hMg:∀p,p<(i+(n-j))*S.sz k→M[p]?=if p<i*S.sz k then L[p]? else L[p+(j*S.sz k-i*S.sz k)]?:=fun p hp=>by
    rw[←hM,y7 (by omega),yas (by omega),y7 (by omega)];by_cases h:p<i*S.sz k
    ·rw[yas (by omega),yaK h]
    ·rw[yaK (by omega),yas h,hC1g _ (by omega)];congr 1;omega
   have hheap:((w.drew.setRow b M0).setRow b M.toArray).heap[b]?=some (.cells M.toArray t (0,0)):=setRow_heap _ _ _ _ _ _ (setRow_heap w.drew _ _ _ _ _ hb);have hoth:∀q,q≠b→((w.drew.setRow b M0).setRow b M.toArray).heap[q]?=w.heap[q]?:=fun q hq=>by rw[setRow_other _ _ _ _ hq,setRow_other _ _ _ _ hq];rfl
   have hsz:((w.drew.setRow b M0).setRow b M.toArray).heap.size=w.heap.size:=by simp only[setRow_size];rfl
   refine ⟨I,⟨by omega,rfl,rfl,rfl,fun q hq hm=>hoth q (by simpa using hm),fun _ _ h=>h,fun _ _ h=>.inl h,fun q o h=>by have:=hIw q o h;omega⟩,
    some ⟨b,0,none⟩,c,by rw[hres],by omega,.inr ⟨b,_,t,rfl,hheap,by simp[l2,hLl],.inr (by simp),hbI,?_⟩⟩
   intro q hq s d hs;have hs':s<S.sz k:=by have:=(zL hs);rwa [sgk.sz]at this
   rw[hres]at hq;have hlt2:=a3h hs' hq;by_cases hqi:q<i
   ·have e:(xs.take i++xs.drop j)[q]'(by omega)=xs[q]'(by omega):=by rw[ybH (by simp;omega)];simp
    rw[e]at hs;obtain ⟨v,a,e2⟩:=hel' q (by omega) s d hs;refine ⟨v,?_,a6d sgk e2 (a3r sgk hs) (fun q o h=>⟨by simp only[World.cell?];rw[hoth q (fun e=>by subst e;exact hbI o h)],h⟩)⟩;rw[←a,ybu,hMg _ hlt2,yaK (a3h hs' hqi)]
   ·have e:(xs.take i++xs.drop j)[q]'(by omega)=xs[q+(j-i)]'(by omega):=by
     have hl:(xs.take i).length=i:=by simp;omega
     rw[ybE (by omega)];simp only[hl,List.getElem_drop];congr 1;omega
    rw[e]at hs;obtain ⟨v,a,e2⟩:=hel' (q+(j-i)) (by omega) s d hs;refine ⟨v,?_,a6d sgk e2 (a3r sgk hs) (fun q o h=>⟨by simp only[World.cell?];rw[hoth q (fun e=>by subst e;exact hbI o h)],h⟩)⟩;have hqz:i*S.sz k≤q*S.sz k:=yar _ (by omega);rw[←a,ybu,hMg _ hlt2,yas (by omega)];congr 1;rw[ya3,hz2];omega
theorem e56 (sgk:SgOk S) {f:Nat} {fn:Func} {code:Code} (fok:FnOk P f fn code) (hmd:S.md f=.cons) {k:κ} (W:DelOk P f (S.sz k))
 {xs r:List (El k)} {i j:Int} {ds:List (D κ El)} (hwl:WL ds [.lst k xs,.int .i64 i,.int .i64 j]) (hr:b1v xs i j=some r):Con P S f ds [] (.lst k r) []:=by
 unfold b1v at hr;rw[c4]at hr;split at hr
 ·rename_i h;simp only[yad,yae]at h;cases hr
  obtain ⟨n,rfl⟩:=Int.eq_ofNat_of_zero_le h.1.1.1;obtain ⟨m,rfl⟩:=Int.eq_ofNat_of_zero_le (Int.le_trans h.1.1.1 h.1.1.2);exact f5t sgk fok hmd W (i:=n) (j:=m) (by omega) (by omega) hwl
 ·cases hr
end
end
section
def d41 (c:Nat):Bool:=decide (c<32)||(decide (127≤c)&&decide (c≤159))||decide (65535<c)
theorem a6t {c:Nat}:d41 c=true↔c<32∨(127≤c∧c≤159)∨65535<c:=by
 unfold d41;simp only[ybk,yad,yae];omega
set_option maxHeartbeats 2000000 in
theorem b4y {l:List UInt8} (hl:l≠[]):dcd l=if ((Lib.decodeL l).1=65533∧(Lib.decodeL l).2=1)∨d41 (Lib.decodeL l).1=true then (0,0) else Lib.decodeL l:=by
 cases l with
 |nil=>exact absurd rfl hl
 |cons a r=>
  rw[Lib.decodeL_N];have ha:=a.toNat_lt;simp only[a6t];rcases r with _|⟨b,_|⟨c,_|⟨d,r⟩⟩⟩
  ·simp only[List.getD_cons_zero,List.getD_cons_succ,List.getD_nil,yaD,yaU];obtain ⟨X,hX⟩:∃X,Lib.decodeN (0+1) a.toNat (0:UInt8).toNat (0:UInt8).toNat (0:UInt8).toNat=X:=⟨_,rfl⟩
   rw[hX];unfold Lib.decodeN at hX;unfold dcd;dsimp only;split at hX
   ·subst hX
    repeat' split
    all_goals first|with_reducible rfl|(exfalso;omega)
   ·rw[yas (by omega),yas (by omega),yas (by omega)]at hX;subst hX
    repeat' split
    all_goals first|with_reducible rfl|(exfalso;omega)
  ·simp only[List.getD_cons_zero,List.getD_cons_succ,List.getD_nil,yaD,yaU];have hb:=b.toNat_lt;obtain ⟨X,hX⟩:∃X,Lib.decodeN (0+1+1) a.toNat b.toNat (0:UInt8).toNat (0:UInt8).toNat=X:=⟨_,rfl⟩
   rw[hX];unfold Lib.decodeN at hX;unfold dcd;dsimp only
   repeat' split at hX
   all_goals subst hX
   all_goals dsimp only
   all_goals repeat' split
   all_goals first|with_reducible rfl|(exfalso;omega)|(simp only[ya4,and_true];omega)
  ·simp only[List.getD_cons_zero,List.getD_cons_succ,List.getD_nil,yaD,yaU];have hb:=b.toNat_lt;have hc:=c.toNat_lt;obtain ⟨X,hX⟩:∃X,Lib.decodeN (0+1+1+1) a.toNat b.toNat c.toNat (0:UInt8).toNat=X:=⟨_,rfl⟩
   rw[hX];unfold Lib.decodeN at hX;unfold dcd;dsimp only
   repeat' split at hX
   all_goals subst hX
   all_goals dsimp only
   all_goals repeat' split
   all_goals first|with_reducible rfl|(exfalso;omega)|(simp only[ya4,and_true];omega)
  ·simp only[List.getD_cons_zero,List.getD_cons_succ,List.getD_nil,yaD,yaU];have hb:=b.toNat_lt;have hc:=c.toNat_lt;have hd:=d.toNat_lt;obtain ⟨X,hX⟩:∃X,Lib.decodeN (r.length+1+1+1+1) a.toNat b.toNat c.toNat d.toNat=X:=⟨_,rfl⟩
   rw[hX];unfold Lib.decodeN at hX;unfold dcd;dsimp only
   repeat' split at hX
   all_goals subst hX
   all_goals dsimp only
   all_goals repeat' split
   all_goals first|with_reducible rfl|(exfalso;omega)|(simp only[ya4,and_true];omega)
def okN:Nat→List UInt8→Bool
 |0,_=>true
 |n+1,l=>if l=[] then true else if d41 (Lib.decodeL l).1 then false else okN n (l.drop (Lib.decodeL l).2)
theorem a5p {l:List UInt8} (hl:l≠[]):1≤(Lib.decodeL l).2∧(Lib.decodeL l).2≤l.length:=by
 cases l with
 |nil=>exact absurd rfl hl
 |cons a r=>
  rw[Lib.decodeL_N];unfold Lib.decodeN;have:1≤(a::r).length:=by simp
  repeat' split
  all_goals simp only
  all_goals omega
theorem g4o:∀(n:Nat) (l:List UInt8),d3s n l=(Lib.validGoD n l&&okN n l):=by
 intro n
 induction n with
 |zero=>intro l;rfl
 |succ n ih=>
  intro l;simp only[d3s,Lib.validGoD,okN];by_cases hl:l=[]
  ·simp[hl]
  ·simp only[hl,ybf];rw[b4y hl];by_cases h1:(Lib.decodeL l).1=65533∧(Lib.decodeL l).2=1
   ·simp[h1]
   ·by_cases h2:d41 (Lib.decodeL l).1=true
    ·simp[h2]
    ·have:=a5p hl;have hne:¬(((Lib.decodeL l).1=65533∧(Lib.decodeL l).2=1)∨d41 (Lib.decodeL l).1=true):=fun h=>h.elim h1 h2
     rw[yas hne,yas (show ¬(Lib.decodeL l).2=0 by omega),yas h1,yas h2];exact ih _
theorem e8s:∀(n m:Nat) (l:List UInt8),l.length≤n→l.length≤m→okN n l=okN m l:=by
 intro n
 induction n with
 |zero=>intro m l h1 h2;have:l=[]:=ybr.1 (by omega);subst this;cases m<;>simp[okN]
 |succ n ih=>
  intro m l h1 h2;by_cases hl:l=[]
  ·subst hl;cases m<;>simp[okN]
  ·have hp:=a5p hl;have:0<l.length:=List.length_pos_iff.2 hl;obtain ⟨m,rfl⟩:∃k,m=k+1:=⟨m-1,by omega⟩
   simp only[okN,hl,ybf];split
   ·rfl
   ·exact ih m _ (by rw[ybc];omega) (by rw[ybc];omega)
theorem d7u (xs:List (List UInt8)) (y sep:List UInt8):Lib.join (xs++[y]) sep=if xs=[] then y else Lib.join xs sep++(sep++y):=by
 cases xs with
 |nil=>simp[Lib.join_one]
 |cons x xs=>
  rw[List.cons_append,Lib.join_cons,Lib.join_cons];simp[Lib.joinTail]
def pcs (l:List UInt8) (acc:List (Nat×Nat)):List (List UInt8):=acc.map fun x=>(l.take x.2).drop x.1
def J (l:List UInt8) (acc:List (Nat×Nat)):List UInt8:=Lib.join (pcs l acc) [32]
theorem g44 (l:List UInt8):J l []=[]:=rfl
theorem d32 (l:List UInt8) (acc:List (Nat×Nat)) (a b:Nat):J l (acc++[(a,b)])=if acc=[] then (l.take b).drop a else J l acc++([32]++(l.take b).drop a):=by
 unfold J pcs;rw[List.map_append,List.map_singleton,d7u];simp only[List.map_eq_nil_iff]
theorem h21 {l:List UInt8}:∀{acc:List (Nat×Nat)},(∀x∈acc,x.1<x.2∧x.2≤l.length)→acc≠[]→J l acc≠[]:=by
 intro acc h hne;obtain ⟨x,r,rfl⟩:=List.exists_cons_of_ne_nil hne;have hx:=h x (by simp);unfold J pcs;rw[ybq,Lib.join_cons];intro e;have:=congrArg List.length e;simp only[yaP,ybc,yaW,yaU]at this;omega
theorem d5m {s:ByteArray} {l:List UInt8} (hl:s.data.toList=l) (p:Nat→Bool) (hp:∀c,p c=blk c):∀(f pos:Nat) (st:Option Nat) (acc:List (Nat×Nat)) (gap:Bool),
 s.size≤pos+f→pos≤s.size→d3s f (l.drop pos)=true→(∀a,st=some a→a<pos∧gap=false)→(st=none→gap=true∨acc=[])→(∀x∈acc,x.1<x.2∧x.2≤l.length)→
 J l (Lib.closeSpans s (Lib.spansFromP p s f pos st acc))=b8v f (l.drop pos) (match st with|some a=>J l (acc++[(a,pos)])|none=>J l acc) gap:=by
 have hsz:s.size=l.length:=by rw[Lib.size_eq,hl]
 intro f
 induction f with
 |zero=>
  intro pos st acc gap h1 h2 hv hs hn hacc;have:pos=s.size:=by omega
  subst this;simp only[Lib.spansFromP,b8v];cases st with
  |none=>rfl
  |some a=>rfl
 |succ f ih=>
  intro pos st acc gap h1 h2 hv hs hn hacc;by_cases hlt:pos<s.size
  ·have hne:l.drop pos≠[]:=by simp;omega
   have hdec:Lib.decodeL (l.drop pos)=Utf8.decode s pos:=by rw[←hl];exact Lib.decodeL_drop s pos
   have hpos:=a5p hne;rw[ybc]at hpos;have hv2:=hv;simp only[d3s,hne,ybf]at hv2;have hd:=b4y hne;split at hd
   ·rw[hd]at hv2;simp at hv2
   ·rename_i hnb;have hz:¬(dcd (l.drop pos)).2=0:=by rw[hd];omega
    rw[yas hz,List.drop_drop,hd,hdec]at hv2;have hw:wid (l.drop pos)=(Utf8.decode s pos).2:=by unfold wid;rw[hd,hdec,yas (by rw[←hdec];omega)]
    rw[hdec]at hpos;obtain ⟨k,hk⟩:∃k,(Utf8.decode s pos).2=k:=⟨_,rfl⟩
    rw[b8v,yas hne,List.drop_drop,hw,hd,hdec];simp only[Lib.spansFromP,hlt,yby,hp];rw[hk]at hpos hv2 ⊢;have htk:∀a,a≤pos→(l.take pos).drop a++(l.drop pos).take k=(l.take (pos+k)).drop a:=by
     intro a ha;rw[List.take_add,List.drop_append_of_le_length (by simp;omega)]
    cases hb:blk (Utf8.decode s pos).1 with
    |true=>
     simp only[yby];cases st with
     |none=>exact ih (pos+k) none acc true (by omega) (by omega) hv2 (fun a h=>by cases h) (fun _=>.inl rfl) hacc
     |some a=>
      have:=(hs a rfl).1;exact ih (pos+k) none (acc++[(a,pos)]) true (by omega) (by omega) hv2 (fun a h=>by cases h) (fun _=>.inl rfl) (fun x hx=>by
       rcases yat.1 hx with h|h
       ·exact hacc x h
       ·simp only[ybI]at h;subst h;exact ⟨this,by simp only;omega⟩)
    |false=>
     simp only[yay,ybf];cases st with
     |some a=>
      obtain ⟨ha,hg⟩:=hs a rfl;subst hg;rw[ih (pos+k) (some a) acc false (by omega) (by omega) hv2 (fun b h=>by cases h;exact ⟨by omega,rfl⟩) (fun h=>by cases h) hacc];simp only[ya9,yay,ybf];congr 1;rw[d32,d32];split
      ·exact (htk a (by omega)).symm
      ·rw[←htk a (by omega)];simp
     |none=>
      rw[ih (pos+k) (some pos) acc false (by omega) (by omega) hv2 (fun b h=>by cases h;exact ⟨by omega,rfl⟩) (fun h=>by cases h) hacc];congr 1;dsimp only;rw[d32];have e:=htk pos (yau _);rw[@List.drop_eq_nil_of_le _ (l.take pos) _ (by simp;omega),ya7]at e;rcases hn rfl with hg|hacc0
      ·subst hg;by_cases h0:acc=[]
       ·subst h0;simp[g44,e]
       ·have:=h21 hacc h0;have hb2:(J l acc==[])=false:=by simpa using this
        simp[h0,hb2,e]
      ·subst hacc0;simp[g44,e]
  ·have:pos=s.size:=by omega
   subst this;have hnil:l.drop s.size=[]:=by rw[hsz];simp
   rw[Lib.spansFromP_end _ _ _ _ _ _ hlt,b8v,yaK hnil];cases st with
   |none=>rfl
   |some a=>rfl
theorem d1b {s:ByteArray} {p:Nat→Bool} (hp:∀c,p c=blk c) (hv:vld s.data.toList=true):Lib.join ((Lib.goFieldsP p s).map (·.data.toList)) [32]=cln s.data.toList:=by
 have h:=d5m (s:=s) rfl p hp s.size 0 none [] false (by omega) (by omega) (by rw[List.drop_zero,Lib.size_eq];exact hv) (fun a h=>by cases h) (fun _=>.inr rfl) (fun x h=>by cases h);rw[List.drop_zero]at h;have hc:cln s.data.toList=b8v s.size s.data.toList [] false:=by unfold cln;rw[Lib.size_eq]
 rw[hc];refine Eq.trans ?_ h;unfold J pcs Lib.goFieldsP Lib.spansOfP;rw[List.map_map];congr 1;refine List.map_congr_left (fun x _=>?_);show (s.extract x.1 x.2).data.toList=(s.data.toList.take x.2).drop x.1
 rw[Lib.extract_data,List.drop_take]
theorem e3i (p:Nat→Bool) (s:ByteArray):∀(f pos:Nat) (st:Option Nat) (acc:List (Nat×Nat)),(Lib.spansFromP p s f pos st acc).1.length≤acc.length+f:=by
 intro f
 induction f with
 |zero=>intro pos st acc;exact yau _
 |succ f ih=>
  intro pos st acc;unfold Lib.spansFromP;split
  ·split
   ·cases st with
    |none=>exact yba (ih _ _ _) (by omega)
    |some a=>exact yba (ih _ _ _) (by simp;omega)
   ·cases st with
    |none=>exact yba (ih _ _ _) (by omega)
    |some a=>exact yba (ih _ _ _) (by omega)
  ·simp
theorem d1j (p:Nat→Bool) (s:ByteArray):(Lib.goFieldsP p s).length≤s.size+1:=by
 have:=e3i p s s.size 0 none [];unfold Lib.goFieldsP Lib.spansOfP Lib.closeSpans;rw[ya1];split
 ·rw[yaP];simp at this ⊢;omega
 ·simp at this;omega
theorem e53:∀(n:Nat) (l out:List UInt8) (gap:Bool),(b8v n l out gap).length≤out.length+2*l.length:=by
 intro n
 induction n with
 |zero=>intro l out gap;simp[b8v]
 |succ n ih=>
  intro l out gap;rw[b8v];split
  ·omega
  ·have hw:1≤wid l:=by unfold wid;split<;>omega
   have hl:0<l.length:=List.length_pos_iff.2 (by assumption);split
   ·have:=ih (l.drop (wid l)) out true;rw[ybc]at this;omega
   ·have:=ih (l.drop (wid l)) ((if gap&&!(out==[]) then out++[32] else out)++l.take (wid l)) false;rw[ybc]at this;have h2:(if gap&&!(out==[]) then out++[32] else out).length≤out.length+1:=by split<;>simp
    simp only[yaP,yaW]at this;omega
theorem f5s (s:ByteArray):(cln s.data.toList).length≤2*s.size:=by
 have:=e53 s.data.toList.length s.data.toList [] false;rw[Lib.size_eq];simpa[cln]using this
end
end Go.Proofs.YteaknldbhmocpaaGreatDoor.Ev
namespace Go.Proofs
open Go.Shelf
def Tryz.laysValid_ren:Go.Shelf.Ren:=⟨fun|196=>231|259=>280|n=>n,fun|9=>9|4=>4|3=>3|5=>5|12=>12|119=>257|0=>0|46=>110|139=>260|138=>259|53=>166|n=>n,fun|3=>1|4=>2|n=>n⟩
theorem Tryz.laysValid:Go.Proofs.Lays.n196 Tryz.prog Tryz.laysValid_ren:={
 mixed:=by kernel_rfl
 f196:=Tryz.func231.trans (congrArg some (by kernel_rfl))
 f259:=Tryz.func280.trans (congrArg some (by kernel_rfl))
 t0:=Tryz.underlying0
 a0:=Tryz.isAgg0
 z0:=Tryz.sizeOf0
 v0:=Tryz.zeroValue0
 t3:=Tryz.underlying3
 a3:=Tryz.isAgg3
 z3:=Tryz.sizeOf3
 v3:=Tryz.zeroValue3
 t4:=Tryz.underlying4
 a4:=Tryz.isAgg4
 z4:=Tryz.sizeOf4
 v4:=Tryz.zeroValue4
 t5:=Tryz.underlying5
 a5:=Tryz.isAgg5
 z5:=Tryz.sizeOf5
 v5:=Tryz.zeroValue5
 t9:=Tryz.underlying9
 a9:=Tryz.isAgg9
 z9:=Tryz.sizeOf9
 v9:=Tryz.zeroValue9
 t12:=Tryz.underlying12
 a12:=Tryz.isAgg12
 z12:=Tryz.sizeOf12
 v12:=Tryz.zeroValue12
 t46:=Tryz.underlying110
 a46:=Tryz.isAgg110
 z46:=Tryz.sizeOf110
 v46:=Tryz.zeroValue110
 t53:=Tryz.underlying166
 a53:=Tryz.isAgg166
 z53:=Tryz.sizeOf166
 v53:=Tryz.zeroValue166
 t119:=Tryz.underlying257
 a119:=Tryz.isAgg257
 z119:=Tryz.sizeOf257
 t138:=Tryz.underlying259
 a138:=Tryz.isAgg259
 z138:=Tryz.sizeOf259
 v138:=Tryz.zeroValue259
 t139:=Tryz.underlying260
 a139:=Tryz.isAgg260
 z139:=Tryz.sizeOf260
 v139:=Tryz.zeroValue260
 g3:=by kernel_rfl
 g4:=by kernel_rfl}
def Tryz.lays156_ren:Go.Shelf.Ren:=⟨fun|156=>281|165=>302|166=>303|169=>304|240=>318|241=>319|276=>327|277=>328|n=>n,fun|31=>46|9=>9|3=>3|4=>4|0=>0|20=>20|72=>279|76=>282|70=>277|37=>226|75=>281|127=>298|164=>302|5=>5|80=>284|n=>n,fun|n=>n⟩
theorem Tryz.lays156:Go.Proofs.Lays.n156 Tryz.prog Tryz.lays156_ren:={
 mixed:=by kernel_rfl
 f156:=Tryz.func281.trans (congrArg some (by kernel_rfl))
 f165:=Tryz.func302.trans (congrArg some (by kernel_rfl))
 f166:=Tryz.func303.trans (congrArg some (by kernel_rfl))
 f169:=Tryz.func304.trans (congrArg some (by kernel_rfl))
 f240:=Tryz.func318.trans (congrArg some (by kernel_rfl))
 f241:=Tryz.func319.trans (congrArg some (by kernel_rfl))
 f276:=Tryz.func327.trans (congrArg some (by kernel_rfl))
 f277:=Tryz.func328.trans (congrArg some (by kernel_rfl))
 t0:=Tryz.underlying0
 a0:=Tryz.isAgg0
 z0:=Tryz.sizeOf0
 v0:=Tryz.zeroValue0
 t3:=Tryz.underlying3
 a3:=Tryz.isAgg3
 z3:=Tryz.sizeOf3
 v3:=Tryz.zeroValue3
 t4:=Tryz.underlying4
 a4:=Tryz.isAgg4
 z4:=Tryz.sizeOf4
 v4:=Tryz.zeroValue4
 t9:=Tryz.underlying9
 a9:=Tryz.isAgg9
 z9:=Tryz.sizeOf9
 v9:=Tryz.zeroValue9
 t20:=Tryz.underlying20
 a20:=Tryz.isAgg20
 z20:=Tryz.sizeOf20
 v20:=Tryz.zeroValue20
 t31:=Tryz.underlying46
 a31:=Tryz.isAgg46
 z31:=Tryz.sizeOf46
 v31:=Tryz.zeroValue46
 t37:=Tryz.underlying226
 a37:=Tryz.isAgg226
 z37:=Tryz.sizeOf226
 v37:=Tryz.zeroValue226
 t70:=Tryz.underlying277
 a70:=Tryz.isAgg277
 z70:=Tryz.sizeOf277
 v70:=Tryz.zeroValue277
 t72:=Tryz.underlying279
 a72:=Tryz.isAgg279
 z72:=Tryz.sizeOf279
 v72:=Tryz.zeroValue279
 t75:=Tryz.underlying281
 a75:=Tryz.isAgg281
 z75:=Tryz.sizeOf281
 v75:=Tryz.zeroValue281
 t76:=Tryz.underlying282
 a76:=Tryz.isAgg282
 z76:=Tryz.sizeOf282
 v76:=Tryz.zeroValue282
 t127:=Tryz.underlying298
 a127:=Tryz.isAgg298
 z127:=Tryz.sizeOf298
 v127:=Tryz.zeroValue298
 t164:=Tryz.underlying302
 a164:=Tryz.isAgg302
 z164:=Tryz.sizeOf302
 v164:=Tryz.zeroValue302}
theorem Tryz.Builder_Extra_156:Builder.Extra Tryz.prog Tryz.lays156_ren:={
 sizeBuilder:=by kernel_rfl
 liesBuilder:=by kernel_rfl
 t5:=Tryz.underlying5
 a5:=Tryz.isAgg5
 z5:=Tryz.sizeOf5
 v5:=Tryz.zeroValue5
 infoByte:=by kernel_rfl
 cellsByte:=by kernel_rfl
 sizeByte:=by kernel_rfl
 neB5:=by decide}
open Go.RowKit in
theorem Tryz.strings_Join (bk o c:Nat) (xs:List ByteArray) (sep:ByteArray) (w:World) (hcells:∀(j:Nat) x,xs[j]?=some x→w.cell? ⟨bk,o+j,none⟩=some (.string x)) (hbk:bk<w.heap.size) (hN:xs.length≤140737488355328) (hcap:xs.length≤c) (hlen:(Lib.join (xs.map (·.data.toList)) sep.data.toList).length≤140737488355328) :
 Calls Tryz.prog 281 #[.slice (some ⟨bk,o,none⟩) xs.length c,.string sep] w fun e w'=>e=.returned (.string ⟨(Lib.join (xs.map (·.data.toList)) sep.data.toList).toArray⟩)∧Below w.heap.size w w':=Any.strings_Join Tryz.lays156 Tryz.Builder_Extra_156 bk o c xs sep w hcells hbk hN hcap hlen
def Tryz.lays229_ren:Go.Shelf.Ren:=⟨fun|229=>282|n=>n,fun|9=>9|40=>265|31=>46|152=>285|3=>3|0=>0|4=>4|21=>21|154=>287|n=>n,fun|n=>n⟩
theorem Tryz.lays229:Go.Proofs.Lays.n229 Tryz.prog Tryz.lays229_ren:={
 mixed:=by kernel_rfl
 f229:=Tryz.func282.trans (congrArg some (by kernel_rfl))
 t0:=Tryz.underlying0
 a0:=Tryz.isAgg0
 z0:=Tryz.sizeOf0
 v0:=Tryz.zeroValue0
 t3:=Tryz.underlying3
 a3:=Tryz.isAgg3
 z3:=Tryz.sizeOf3
 v3:=Tryz.zeroValue3
 t4:=Tryz.underlying4
 a4:=Tryz.isAgg4
 z4:=Tryz.sizeOf4
 v4:=Tryz.zeroValue4
 t9:=Tryz.underlying9
 a9:=Tryz.isAgg9
 z9:=Tryz.sizeOf9
 v9:=Tryz.zeroValue9
 t21:=Tryz.underlying21
 a21:=Tryz.isAgg21
 z21:=Tryz.sizeOf21
 v21:=Tryz.zeroValue21
 t31:=Tryz.underlying46
 a31:=Tryz.isAgg46
 z31:=Tryz.sizeOf46
 v31:=Tryz.zeroValue46
 t40:=Tryz.underlying265
 a40:=Tryz.isAgg265
 z40:=Tryz.sizeOf265
 v40:=Tryz.zeroValue265
 t152:=Tryz.underlying285
 a152:=Tryz.isAgg285
 z152:=Tryz.sizeOf285
 v152:=Tryz.zeroValue285
 t154:=Tryz.underlying287
 a154:=Tryz.isAgg287
 z154:=Tryz.sizeOf287
 v154:=Tryz.zeroValue287}
open Go.RowKit Go.Lib in
theorem Tryz.strings_FieldsFunc_runes (g:Nat) (lb:Array Value) (eg:∀args w,(callFunc g args).run Tryz.prog w=.ok (.enter g args) w) (p:Nat→Bool) (s:ByteArray) (w:World) (hs:s.size≤4294967296) (hp:PredAtRunes Tryz.prog g lb p w) :
 Calls Tryz.prog 282 #[.string s,.func (.func g) #[] lb] w fun e w'=>∃A,e=.returned (.slice (some ⟨A,0,none⟩) (Lib.goFieldsP p s).length (Lib.goFieldsP p s).length)∧w.heap.size≤A∧
  w'.ownsRow w.heap.size 9 1 (.slice (some ⟨A,0,none⟩) (Lib.goFieldsP p s).length (Lib.goFieldsP p s).length) (Lib.goFieldsP p s).length ((Lib.goFieldsP p s).map Value.string)∧Below w.heap.size w w':=Any.strings_FieldsFunc_runes Tryz.lays229 g lb eg p s w hs hp (by kernel_rfl) (by kernel_rfl)
open Go.RowKit in
theorem Tryz.strings_Join_none (a:Option Addr) (c:Nat) (sep:ByteArray) (w:World) :
 Calls Tryz.prog 281 #[.slice a 0 c,.string sep] w fun e w'=>e=.returned (.string ⟨#[]⟩)∧w'=w:=Any.strings_Join_none Tryz.lays156 Tryz.Builder_Extra_156 a c sep w
end Go.Proofs
namespace Go.Proofs.YteaknldbhmocpaaGreatDoor
open Go Ev
open Go.Lib Go.RowKit
theorem e00 {X:Ending} (b:Bool) {b':Bool} (h:X=.returned (.bool b)) (e:b=b'):X=.returned (.bool b'):=e▸h
set_option maxHeartbeats 4000000 in
set_option maxRecDepth 1000000 in
theorem d3r (s:ByteArray) (w:World) (hs:s.size≤1073741824) (hT:Lib.Utf8Tabs 1 2 w) :
 Calls Tryz.prog 159 #[.string s] w fun e w'=>e=.returned (.bool (vld s.data.toList))∧Below w.heap.size w w':=by
 have cV:Calls Tryz.prog 231 #[.string s] w _:=Any.utf8_ValidString Tryz.laysValid s w (by omega) hT;have hvl:vld s.data.toList=(Lib.validD s.data.toList&&okN s.size s.data.toList):=by rw[Lib.size_eq];exact g4o _ _
 rw[hvl];clear hvl;generalize Lib.validD s.data.toList=V at cV ⊢;cases V with
 |false=>
  rw[ya9]
  go_enter Tryz.func159,Tryz.ntmps159
  go_wp2_with (go_at_call 231;refine cV.mono ?_;rintro e w' ⟨rfl,hb⟩)
  go_ret
  exact ⟨rfl,hb⟩
 |true=>
  rw[yaQ]
  go_enter Tryz.func159,Tryz.ntmps159
  go_wp2_with (go_at_call 231;refine cV.mono ?_;rintro e w' ⟨rfl,hb⟩)
  go_loopg [4] (s.size+1) (fun gk s4 wx=>∃pos:Nat,wx.heap[w'.heap.size]?=some (.stringIter s pos)∧Below w.heap.size w wx∧
   okN gk (s.data.toList.drop pos)=okN s.size s.data.toList∧s.size≤pos+gk∧pos≤s.size)
  case atStart=>
   refine ⟨0,World.iter_heap w' s 0,hb.alloc hb.size _,?_,by omega,by omega⟩;rw[List.drop_zero];exact e8s _ _ _ (by rw[←Lib.size_eq];omega) (by rw[←Lib.size_eq];omega)
  case round=>
   obtain ⟨pos,hit,hbw,hok,hfu,hps⟩:=hrel;have hdec:Lib.decodeL (s.data.toList.drop pos)=Utf8.decode s pos:=Lib.decodeL_drop s pos;by_cases hlt:pos<s.size
   ·obtain ⟨g',rfl⟩:∃g',gk=g'+1:=⟨gk-1,by omega⟩
    have hnx:∀ty,(Instr.next (.pointer (some ⟨w'.heap.size,0,none⟩)) true ty).run Tryz.prog wr=_:=fun ty=>Lib.run_next_any_at wr w'.heap.size s pos ty hit hlt
    have hne:s.data.toList.drop pos≠[]:=by rw[Ne,List.drop_eq_nil_iff,←Lib.size_eq];omega
    have hwd:=a5p hne;rw[hdec,ybc,←Lib.size_eq]at hwd;simp only[okN,hne,ybf,hdec,List.drop_drop]at hok;obtain ⟨R,hR⟩:∃R,(Utf8.decode s pos).1=R:=⟨_,rfl⟩
    obtain ⟨K,hK⟩:∃K,(Utf8.decode s pos).2=K:=⟨_,rfl⟩
    rw[hR,hK]at hnx hok;rw[hK]at hwd;have hit2:=Lib.iterAt_heap wr w'.heap.size s pos (pos+K) hit;have hbw2:=Lib.below_iterAt hbw (k:=w'.heap.size) hb.size s (pos+K);by_cases h1:R<32
    ·have hz:(R:Int)<32:=by omega
     have hb1:d41 R=true:=a6t.2 (.inl h1);rw[yaK hb1]at hok
     go_wp2
     go_ret
     first|exact ⟨rfl,hbw2⟩|exact ⟨e00 false rfl hok,hbw2⟩
    ·have hz:¬(R:Int)<32:=by omega
     by_cases h2:127≤R
     ·have hz2:(127:Int)≤(R:Int):=by omega
      by_cases h3:R≤159
      ·have hz3:(R:Int)≤159:=by omega
       have hb1:d41 R=true:=a6t.2 (.inr (.inl ⟨h2,h3⟩));rw[yaK hb1]at hok
       go_wp2
       go_ret
       first|exact ⟨rfl,hbw2⟩|exact ⟨e00 false rfl hok,hbw2⟩
      ·have hz3:¬(R:Int)≤159:=by omega
       by_cases h4:65535<R
       ·have hz4:(65535:Int)<(R:Int):=by omega
        have hb1:d41 R=true:=a6t.2 (.inr (.inr h4));rw[yaK hb1]at hok
        go_wp2
        go_ret
        first|exact ⟨rfl,hbw2⟩|exact ⟨e00 false rfl hok,hbw2⟩
       ·have hz4:¬(65535:Int)<(R:Int):=by omega
        have hb1:¬d41 R=true:=fun h=>by rw[a6t]at h;omega
        rw[yas hb1]at hok
        go_wp2
        go_roundg g'
        case measure=>omega
        case rel=>exact ⟨pos+K,hit2,hbw2,hok,by omega,by omega⟩
     ·have hz2:¬(127:Int)≤(R:Int):=by omega
      have hz4:¬(65535:Int)<(R:Int):=by omega
      have hb1:¬d41 R=true:=fun h=>by rw[a6t]at h;omega
      rw[yas hb1]at hok
      go_wp2
      go_roundg g'
      case measure=>omega
      case rel=>exact ⟨pos+K,hit2,hbw2,hok,by omega,by omega⟩
   ·have:pos=s.size:=by omega
    subst this;have hnx:∀ty,(Instr.next (.pointer (some ⟨w'.heap.size,0,none⟩)) true ty).run Tryz.prog wr=_:=fun ty=>Lib.run_next_end_at wr w'.heap.size s s.size ty hit hlt
    have hnil:s.data.toList.drop s.size=[]:=by rw[Lib.size_eq];simp
    have hok2:okN s.size s.data.toList=true:=by rw[←hok,hnil];cases gk<;>simp[okN]
    go_wp2
    go_ret
    first|exact ⟨rfl,hbw⟩|exact ⟨e00 true rfl hok2.symm,hbw⟩
set_option maxRecDepth 1000000 in
theorem d0x (R:Nat) (hR:R≤1114111) (w:World):Calls Tryz.prog 283 #[.int .i32 (R:Int)] w fun e w'=>e=.returned (.bool (blk R))∧∃q,w'=w.drewN q:=by
 by_cases h1:R=32
 ·subst h1
  go_enter Tryz.func283,Tryz.ntmps283
  go_wp2
  go_ret
  exact ⟨rfl,0,rfl⟩
 ·have z1:¬(R:Int)=32:=by omega
  by_cases h2:R=160
  ·subst h2
   go_enter Tryz.func283,Tryz.ntmps283
   go_wp2
   go_ret
   exact ⟨rfl,0,rfl⟩
  ·have z2:¬(R:Int)=160:=by omega
   have hb:blk R=false:=by unfold blk;simp[h1,h2]
   go_enter Tryz.func283,Tryz.ntmps283
   go_wp2
   go_ret
   exact ⟨e00 ((R:Int)==32||(R:Int)==160) rfl (by rw[hb,yai];exact ⟨by simp;omega,by simp;omega⟩),0,rfl⟩
set_option maxHeartbeats 4000000 in
set_option maxRecDepth 1000000 in
theorem d1a (s:ByteArray) (w:World) (hs:s.size≤1073741824) (hv:vld s.data.toList=true) :
 Calls Tryz.prog 236 #[.string s] w fun e w'=>e=.returned (.string ⟨(cln s.data.toList).toArray⟩)∧Below w.heap.size w w':=by
 have eg:∀args w,(callFunc 283 args).run Tryz.prog w=.ok (.enter 283 args) w:=enters_of Tryz.func283 kr rfl;have hp:PredAtRunes Tryz.prog 283 #[] blk w:=fun W x hx hb=>by
  exact d0x x hx W
 have cF:=Tryz.strings_FieldsFunc_runes 283 #[] eg blk s w (by omega) hp;have hj:=d1b (s:=s) (p:=blk) (fun _=>rfl) hv;have hlen:(cln s.data.toList).length≤2*s.size:=f5s s;obtain ⟨Fs,hFs⟩:∃Fs,Lib.goFieldsP blk s=Fs:=⟨_,rfl⟩
 have hfl:=d1j blk s;rw[hFs]at hj cF hfl;have cJ:∀A W,Below w.heap.size w W→W.ownsRow w.heap.size 9 1 (.slice (some ⟨A,0,none⟩) Fs.length Fs.length) Fs.length (Fs.map Value.string)→
  Calls Tryz.prog 281 #[.slice (some ⟨A,0,none⟩) Fs.length Fs.length,.string ⟨#[32]⟩] W fun e w'=>e=.returned (.string ⟨(cln s.data.toList).toArray⟩)∧Below w.heap.size w w':=by
  intro A W hb hrow;by_cases h0:Fs=[]
  ·subst h0;have:=Tryz.strings_Join_none (some ⟨A,0,none⟩) 0 ⟨#[32]⟩ W;refine this.mono ?_;rintro e w' ⟨rfl,rfl⟩;rw[←hj];exact ⟨rfl,hb⟩
  ·obtain ⟨-,h|⟨g,cap,cur,hv2,hbg,hh,hn,hmx,hcs,hct⟩⟩:=hrow
   ·exact absurd (ybr.1 h.2) h0
   ·injection hv2 with e1 e2 e3;injection e1 with e1;injection e1 with e1;subst e1;have hj2:(Lib.join (Fs.map (·.data.toList)) (⟨#[32]⟩:ByteArray).data.toList)=cln s.data.toList:=hj;have:=Tryz.strings_Join A 0 Fs.length Fs ⟨#[32]⟩ W (fun j x hx=>by
     rw[yb4]at hct;have hj3:j<Fs.length:=(zL hx)
     have e4:cur.toList[j]?=some (Value.string x):=by
      rw[←ybO hj3,hct,yaM,hx];rfl
     rw[yav]at e4;rw[yaH];simp only[World.cell?,hh];exact e4) (yah.1 hh).1 (by omega) (yau _) (by rw[hj2];omega)
    refine this.mono ?_;rintro e w' ⟨rfl,hb2⟩;rw[hj2];exact ⟨rfl,hb.trans (hb2.mono hb.size)⟩
 clear hj hlen hFs hfl
 go_enter Tryz.func236,Tryz.ntmps236
 go_wp2_with (first|(go_at_call 282;refine cF.mono ?_;rintro e w' ⟨A,rfl,hA,hrow,hb⟩)|(go_at_call 281;refine (cJ A _ hb hrow).mono ?_;rintro e w'' ⟨rfl,hb2⟩))
 go_ret
 exact ⟨rfl,hb2⟩
end Go.Proofs.YteaknldbhmocpaaGreatDoor
namespace Go.Proofs
open Go.Shelf
def Tryz.lays189_ren:Go.Shelf.Ren:=⟨fun|189=>34|125=>74|257=>73|128=>143|129=>144|294=>134|295=>135|296=>136|297=>137|298=>138|299=>139|216=>140|300=>141|301=>142|328=>204|329=>205|330=>206|331=>207|332=>208|215=>209|343=>265|n=>n,fun|28=>28|3=>3|46=>110|0=>0|51=>164|53=>166|4=>4|183=>156|182=>155|131=>161|5=>5|9=>9|218=>208|222=>212|228=>248|229=>185|n=>n,fun|n=>n⟩
theorem Tryz.lays189:Go.Proofs.Lays.n189 Tryz.prog Tryz.lays189_ren:={
 mixed:=by kernel_rfl
 f125:=Tryz.func74.trans (congrArg some (by kernel_rfl))
 f128:=Tryz.func143.trans (congrArg some (by kernel_rfl))
 f129:=Tryz.func144.trans (congrArg some (by kernel_rfl))
 f189:=Tryz.func34.trans (congrArg some (by kernel_rfl))
 f215:=Tryz.func209.trans (congrArg some (by kernel_rfl))
 f216:=Tryz.func140.trans (congrArg some (by kernel_rfl))
 f257:=Tryz.func73.trans (congrArg some (by kernel_rfl))
 f294:=Tryz.func134.trans (congrArg some (by kernel_rfl))
 f295:=Tryz.func135.trans (congrArg some (by kernel_rfl))
 f296:=Tryz.func136.trans (congrArg some (by kernel_rfl))
 f297:=Tryz.func137.trans (congrArg some (by kernel_rfl))
 f298:=Tryz.func138.trans (congrArg some (by kernel_rfl))
 f299:=Tryz.func139.trans (congrArg some (by kernel_rfl))
 f300:=Tryz.func141.trans (congrArg some (by kernel_rfl))
 f301:=Tryz.func142.trans (congrArg some (by kernel_rfl))
 f328:=Tryz.func204.trans (congrArg some (by kernel_rfl))
 f329:=Tryz.func205.trans (congrArg some (by kernel_rfl))
 f330:=Tryz.func206.trans (congrArg some (by kernel_rfl))
 f331:=Tryz.func207.trans (congrArg some (by kernel_rfl))
 f332:=Tryz.func208.trans (congrArg some (by kernel_rfl))
 f343:=Tryz.func265.trans (congrArg some (by kernel_rfl))
 t0:=Tryz.underlying0
 a0:=Tryz.isAgg0
 z0:=Tryz.sizeOf0
 v0:=Tryz.zeroValue0
 t3:=Tryz.underlying3
 a3:=Tryz.isAgg3
 z3:=Tryz.sizeOf3
 v3:=Tryz.zeroValue3
 t4:=Tryz.underlying4
 a4:=Tryz.isAgg4
 z4:=Tryz.sizeOf4
 v4:=Tryz.zeroValue4
 t5:=Tryz.underlying5
 a5:=Tryz.isAgg5
 z5:=Tryz.sizeOf5
 v5:=Tryz.zeroValue5
 t9:=Tryz.underlying9
 a9:=Tryz.isAgg9
 z9:=Tryz.sizeOf9
 v9:=Tryz.zeroValue9
 t28:=Tryz.underlying28
 a28:=Tryz.isAgg28
 z28:=Tryz.sizeOf28
 v28:=Tryz.zeroValue28
 t46:=Tryz.underlying110
 a46:=Tryz.isAgg110
 z46:=Tryz.sizeOf110
 v46:=Tryz.zeroValue110
 t51:=Tryz.underlying164
 a51:=Tryz.isAgg164
 z51:=Tryz.sizeOf164
 v51:=Tryz.zeroValue164
 t53:=Tryz.underlying166
 a53:=Tryz.isAgg166
 z53:=Tryz.sizeOf166
 v53:=Tryz.zeroValue166
 t131:=Tryz.underlying161
 a131:=Tryz.isAgg161
 z131:=Tryz.sizeOf161
 v131:=Tryz.zeroValue161
 t182:=Tryz.underlying155
 a182:=Tryz.isAgg155
 z182:=Tryz.sizeOf155
 v182:=Tryz.zeroValue155
 t183:=Tryz.underlying156
 a183:=Tryz.isAgg156
 z183:=Tryz.sizeOf156
 v183:=Tryz.zeroValue156
 t218:=Tryz.underlying208
 a218:=Tryz.isAgg208
 z218:=Tryz.sizeOf208
 v218:=Tryz.zeroValue208
 t222:=Tryz.underlying212
 a222:=Tryz.isAgg212
 z222:=Tryz.sizeOf212
 v222:=Tryz.zeroValue212
 t228:=Tryz.underlying248
 a228:=Tryz.isAgg248
 z228:=Tryz.sizeOf248
 v228:=Tryz.zeroValue248
 t229:=Tryz.underlying185
 a229:=Tryz.isAgg185
 z229:=Tryz.sizeOf185
 v229:=Tryz.zeroValue185}
def Tryz.laysNm220_ren:Go.Shelf.Ren:=⟨fun|20=>35|n=>n,fun|22=>28|3=>3|4=>4|0=>0|n=>n,fun|n=>n⟩
theorem Tryz.laysNm220:Go.Proofs.Lays2.n20 Tryz.prog Tryz.laysNm220_ren:={
 mixed:=by kernel_rfl
 f20:=Tryz.func35.trans (congrArg some (by kernel_rfl))
 t0:=Tryz.underlying0
 a0:=Tryz.isAgg0
 z0:=Tryz.sizeOf0
 v0:=Tryz.zeroValue0
 t3:=Tryz.underlying3
 a3:=Tryz.isAgg3
 z3:=Tryz.sizeOf3
 v3:=Tryz.zeroValue3
 t4:=Tryz.underlying4
 a4:=Tryz.isAgg4
 z4:=Tryz.sizeOf4
 v4:=Tryz.zeroValue4
 t22:=Tryz.underlying28
 a22:=Tryz.isAgg28
 z22:=Tryz.sizeOf28
 v22:=Tryz.zeroValue28
 i3:=by kernel_rfl}
end Go.Proofs
namespace Go.Proofs.YteaknldbhmocpaaGreatDoor
open Go Ev
section
open Go.Sort
set_option maxRecDepth 100000
theorem c26 {w:World} {I J:Nat→Nat→Prop} {xs:List Int} {blk:Nat} {vals:Array Value} {t:TypeId} (hb:w.heap[blk]?=some (.cells vals t (0,0)))
 (hc:∀i (hi:i<xs.length) j d,(sg.enc Kd.ki64 xs[i])[j]?=some d→∃v,vals[i*sg.sz Kd.ki64+j]?=some v∧DR sg w I J v d):∀i (hi:i<xs.length),vals[i]?=some (.int .i64 xs[i]):=by
 intro i hi;obtain ⟨v,h1,h2⟩:=hc i hi 0 (.int .i64 xs[i]) rfl;rw[h2.int_inv]at h1;have h1:vals[i*1+0]?=_:=h1;rw[yb4,ybe]at h1;exact h1
theorem c23 {w:World} {xs:List Int} {blk:Nat} {vals:Array Value} {t:TypeId} (hb:w.heap[blk]?=some (.cells vals t (0,0))) (hc:∀i (hi:i<xs.length),vals[i]?=some (.int .i64 xs[i])) :
 Holds (Value.int .i64) w blk 0 xs.toArray:=by
 intro j hj;have hj:j<xs.length:=by simpa using hj
 refine ⟨?_,?_⟩
 ·simp only[World.cell?,hb,yaH,hc j hj];simp[hj]
 ·simp[World.frozen?,hb]
theorem e02 {w:World} {I J:Nat→Nat→Prop} {ys:List Int} {blk q:Nat} {vals:Array Value} {t:TypeId} {os:Array Obj} (hp:Pre sg w I J [blk]) (hb:w.heap[blk]?=some (.cells vals t (0,0))) (hy:ys.length≤vals.size) :
 GrowM [blk] w (grow (putRow (Value.int .i64) (Sort.ahead w q) blk 0 ys.toArray) os) I I∧
 ∃vals',(grow (putRow (Value.int .i64) (Sort.ahead w q) blk 0 ys.toArray) os).heap[blk]?=some (.cells vals' t (0,0))∧vals'.size=vals.size∧∀i (hi:i<ys.length),vals'[i]?=some (.int .i64 ys[i]):=by
 have hlt:blk<w.heap.size:=(yah.1 hb).1;have hh:(grow (putRow (Value.int .i64) (Sort.ahead w q) blk 0 ys.toArray) os).heap=w.heap.modify blk (onCells (putCells (Value.int .i64) 0 ys.toArray))++os:=rfl;have hsz:(w.heap.modify blk (onCells (putCells (Value.int .i64) 0 ys.toArray))).size=w.heap.size:=by simp
 have hget:∀b,b<w.heap.size→(grow (putRow (Value.int .i64) (Sort.ahead w q) blk 0 ys.toArray) os).heap[b]?=if blk=b then (w.heap[b]?).map (onCells (putCells (Value.int .i64) 0 ys.toArray)) else w.heap[b]?:=by
  intro b hb;rw[hh,ybz (by rw[hsz];exact hb),Array.getElem?_modify]
 refine ⟨⟨?_,rfl,rfl,rfl,fun b h1 h2=>?_,fun _ _ h=>h,fun _ _ h=>.inl h,fun b o h=>?_⟩,putCells (Value.int .i64) 0 ys.toArray vals,?_,?_,?_⟩
 ·rw[hh,Array.size_append,hsz];omega
 ·rw[hget b h1,yas (fun e=>h2 (by simp[e]))]
 ·have:=hp.ib b o h;rw[hh,Array.size_append,hsz];omega
 ·rw[hget blk hlt,yaK rfl,hb];rfl
 ·simp[putCells]
 ·intro i hi;unfold putCells;rw[Array.getElem?_mapIdx,yao (by omega)];simp[hi]
theorem c0k {mb:List Nat} {w:World} {I:Nat→Nat→Prop} (h:∀b o,I b o→b<w.heap.size):GrowM mb w w I I:=⟨yau _,rfl,rfl,rfl,fun _ _ _=>rfl,fun _ _ h=>h,fun _ _ h=>.inl h,h⟩
theorem c66 {w:World} {I J:Nat→Nat→Prop} {vs:Array Value} (h:b6v sg w I J vs []):vs = #[]:=by
 have h1:vs.size=0:=h.1;exact Array.eq_empty_of_size_eq_zero h1
theorem h1p:fnB Tryz.prog 34 Tryz.f34 []=true:=kr
theorem d51:∀ds a r,d39.dec ds=some a→f1y a=some r→Con Tryz.prog sg 34 ds [] (f3g.enc r) []:=by
 intro ds a r hd hf;obtain ⟨code,fok,-,-⟩:=y3 Tryz.func34 h1p;have hac:j8 d39:=j8.cons (f8.lst _) j8.nil;have hds:=hac ds a hd;have hmd:sg.md 34=.inpl:=kr;unfold Con;rw[hmd];obtain ⟨zs,u⟩:=a;have hds:WL ds [.lst .ki64 zs]:=hds;have hf:(bif decide (zs.length≤LIM) then some (zs.mergeSort fun x y=>decide (x≤y)) else none)=some r:=hf;intro _ k xs ds0 he xs' hr w I J mb v0 vs hp ho hargs;subst he;have hr:(D.lst Kd.ki64 r:DD)=D.lst k xs':=hr;cases hr
 have hw0:=hds.2 0 _ _ rfl rfl;cases hw0 with
 |leaf _ _ hw0=>
 cases hw0
 have hargs:=WL.args (cs':=[]) ⟨by simpa using hds.1,fun q d d' h1 h2=>by simp at h2⟩ hargs;have:=c66 hargs;subst this;cases hlim:decide (zs.length≤LIM) with
 |false=>rw[hlim]at hf;cases hf
 |true=>
  rw[hlim]at hf;have hl:=yaO hlim;unfold LIM at hl;have hf:some (zs.mergeSort fun x y=>decide (x≤y))=some r:=hf;cases hf
  have hlen:=List.length_mergeSort (le:=fun x y:Int=>decide (x≤y)) zs;unfold a1v;rw[show (#[v0]++(#[]:Array Value)) = #[v0] from rfl,MuLone.run_callFunc_enter fok.at_ fok.name fok.body _ w];simp only;obtain ⟨base,cap,rfl,hcap,ho⟩:=ho;rcases ho with ⟨rfl,rfl⟩|⟨blk,vals,t,rfl,rfl,hb,hv,hc⟩
  ·have hz:zs=[]:=ybr.1 (by omega);subst hz;have h:=Any.slices_Sort_int_none Tryz.lays189 base 0 w;refine h.mono (fun e w' he=>?_);obtain ⟨rfl,rfl⟩:=he;exact ⟨rfl,hlen,I,c0k hp.ib,base,0,by rw[List.mergeSort_nil],by simp,.inl ⟨rfl,rfl⟩⟩
  ·have hc2:=c26 hb hc;have hv:vals.size=cap*1:=hv;have h:=Any.slices_Sort_int Tryz.lays189 blk 0 cap zs w (c23 hb hc2) (yah.1 hb).1 (by omega);refine h.mono (fun e w' he=>?_);obtain ⟨rfl,n,os,rfl⟩:=he;obtain ⟨g,vals',h1,h2,h3⟩:=e02 (q:=n) (os:=os) (ys:=zs.mergeSort fun x y=>decide (x≤y)) hp hb (by omega);refine ⟨rfl,hlen,I,g,some ⟨blk,0,none⟩,cap,by rw[hlen],by omega,.inr ⟨blk,vals',t,rfl,rfl,h1,by rw[h2];exact hv,?_⟩⟩;intro i hi j d hd;cases j with
   |zero=>
    have hd:some (D.int .i64 (zs.mergeSort fun x y=>decide (x≤y))[i]:DD)=some d:=hd;cases hd
    refine ⟨.int .i64 (zs.mergeSort fun x y=>decide (x≤y))[i],?_,.int _ _⟩;show vals'[i*1+0]?=_
    rw[yb4,ybe];exact h3 i hi
   |succ j=>
    have hd:(none:Option DD)=some d:=hd;cases hd
theorem h1q:fnB Tryz.prog 35 Tryz.f35 [4,9]=true:=kr
theorem c4d:∀ds a r,d38.dec ds=some a→f1x a=some r→Con Tryz.prog sg 35 ds [] (f3f.enc r) []:=by
 intro ds a r hd hf;obtain ⟨code,fok,-,-⟩:=y3 Tryz.func35 h1q;have hac:j8 d38:=j8.cons (f8.lst _) j8.nil;have hds:=hac ds a hd;have hmd:sg.md 35=.cons:=kr;unfold Con;rw[hmd];obtain ⟨zs,u⟩:=a;have hds:WL ds [.lst .ki64 zs]:=hds;have hf:(bif decide (zs.length≤LIM) then some (Go.Lib.compact zs) else none)=some r:=hf;intro _ k xs ds0 he k' xs' hr w I J mb v0 vs hp ho hargs;subst he;have hr:(D.lst Kd.ki64 r:DD)=D.lst k' xs':=hr;cases hr
 have hw0:=hds.2 0 _ _ rfl rfl;cases hw0 with
 |leaf _ _ hw0=>
 cases hw0
 have hargs:=WL.args (cs':=[]) ⟨by simpa using hds.1,fun q d d' h1 h2=>by simp at h2⟩ hargs;have:=c66 hargs;subst this;cases hlim:decide (zs.length≤LIM) with
 |false=>rw[hlim]at hf;cases hf
 |true=>
  rw[hlim]at hf;have hl:=yaO hlim;unfold LIM at hl;have hf:some (Go.Lib.compact zs)=some r:=hf;cases hf
  have hlen:=Go.Lib.compact_length_le zs;unfold a1v;rw[show (#[v0]++(#[]:Array Value)) = #[v0] from rfl,MuLone.run_callFunc_enter fok.at_ fok.name fok.body _ w];simp only;obtain ⟨base,cap,rfl,hcap,ho⟩:=ho;rcases ho with ⟨rfl,rfl⟩|⟨blk,vals,t,rfl,rfl,hb,hv,hc⟩
  ·have hz:zs=[]:=ybr.1 (by omega);subst hz;have h:=Any.slices_Compact_int_empty Tryz.laysNm220 base 0 w;refine h.mono (fun e w' he=>?_);obtain ⟨rfl,rfl⟩:=he;exact ⟨I,c0k hp.ib,base,0,rfl,by simp[Go.Lib.compact,Go.Lib.compactUpTo],.inl rfl⟩
  ·have hc2:=c26 hb hc;have hv:vals.size=cap*1:=hv;have h:=Any.slices_Compact_int Tryz.laysNm220 blk 0 cap zs w (c23 hb hc2) (by omega) hcap;refine h.mono (fun e w' he=>?_);obtain ⟨rfl,n,rfl⟩:=he;have e0:∀W:World,W=grow W #[]:=fun W=>by unfold grow;simp
   rw[e0 (putRow _ _ _ _ _)];obtain ⟨g,vals',h1,h2,h3⟩:=e02 (q:=n) (os:=#[]) (ys:=Go.Lib.compact zs++List.replicate (zs.length-(Go.Lib.compact zs).length) 0) hp hb (by simp;omega);refine ⟨I,g,some ⟨blk,0,none⟩,cap,rfl,by omega,.inr ⟨blk,vals',t,rfl,h1,by rw[h2];exact hv,.inr (by simp),fun o hI=>?_,?_⟩⟩
   ·exact absurd (by simp) (hp.jb blk o (hp.ij blk o hI)).2
   ·intro i hi j d hd;cases j with
    |zero=>
     have hd:some (D.int .i64 (Go.Lib.compact zs)[i]:DD)=some d:=hd;cases hd
     refine ⟨.int .i64 (Go.Lib.compact zs)[i],?_,.int _ _⟩;show vals'[i*1+0]?=_
     rw[yb4,ybe];have:=h3 i (by simp;omega);rw[ybH hi]at this;exact this
    |succ j=>
     have hd:(none:Option DD)=some d:=hd;cases hd
end
section
theorem a8m:∃i0 z,Tryz.prog.info? 61=some i0∧i0.zero=some z∧z.cells.size=10∧i0.size=10∧i0.bytes≤128:=by
 have h:(match Tryz.prog.info? 61 with|some i=>(match i.zero with|some z=>Nat.beq z.cells.size 10&&Nat.beq i.size 10&&Nat.ble i.bytes 128|none=>false)|none=>false)=true:=kr;split at h
 ·rename_i i hi;split at h
  ·rename_i z hz;simp only[yad]at h;exact ⟨i,z,hi,hz,ybo h.1.1,ybo h.1.2,yaY h.2⟩
  ·cases h
 ·cases h
set_option maxHeartbeats 4000000 in
set_option maxRecDepth 100000 in
theorem b4b {w:World} {b n c i vb vo vc:Nat} {L vs:List Value} {t:TypeId} (hi:i<n) (hroom:n+1≤c) (hlim:n+1≤1073741824) (hvb:vb≠b)
 (hb:w.heap[b]?=some (.cells L.toArray t (0,0))) (hL:L.length=c*10) (hvl:vs.length=10)
 (hvs:∀j v,vs[j]?=some v→w.cell? ⟨vb,vo+j,none⟩=some v) (h1:∀v∈(L.drop (i*10)).take ((n-i)*10),v.oneCell'=true) (h2:∀v∈vs,v.oneCell'=true) :
 Calls Tryz.prog 121 #[.slice (some ⟨b,0,none⟩) n c,.int .i64 i,.slice (some ⟨vb,vo,none⟩) 1 vc] w fun e w'=>
  e=.returned (.slice (some ⟨b,0,none⟩) (n+1) c)∧w'=(w.drew.setRow b (Go.splice L ((i+1)*10) ((L.drop (i*10)).take ((n-i)*10))).toArray).setRow b (Go.splice (Go.splice L ((i+1)*10) ((L.drop (i*10)).take ((n-i)*10))) (i*10) vs).toArray:=by
 obtain ⟨i0,z0,hi0,hz0,hzs,hsz,hby⟩:=a8m;have hz2:¬((i:Int)=(n:Int)):=by omega
 have hva:∃va ta fa,w.heap[vb]?=some (.cells va ta fa)∧0<va.size:=by
  have h:=hvs 0 _ (yab (by omega));unfold World.cell? at h;split at h
  ·rename_i c0 t0 f0 hc0;exact ⟨c0,t0,f0,hc0,by have:=(yah.1 h).1;omega⟩
  ·cases h
 obtain ⟨va,ta,fa,hva,hva0⟩:=hva;have hov:∀lb cb,(callFunc 188 #[.slice (some ⟨vb,vo,none⟩) 1 vc,.slice (some ⟨b,(i+1)*10,none⟩) lb cb]).run Tryz.prog w=.ok (.value (.bool false)) w:=fun lb cb=>by
  rw[run_callFunc_extern Tryz.func188 kr kr kr (e:=Extern.SlicesOverlaps.overlaps #[22,22] #[4]) kr,
   a3y Tryz.underlying22 hi0 (a:=⟨vb,vo,none⟩) (b:=⟨b,(i+1)*10,none⟩) hvb hva hva0 hb (by simp only[ybC];omega)]
  rfl
 have hLn:(n+1)*10≤L.length:=by rw[hL];exact yar _ hroom
 obtain ⟨C1,hC1⟩:∃C1,C1=(L.drop (i*10)).take ((n-i)*10):=⟨_,rfl⟩
 have hC1l:C1.length=(n-i)*10:=by rw[hC1];simp;omega
 obtain ⟨M1,hM1⟩:∃M1,M1=Go.splice L ((i+1)*10) C1:=⟨_,rfl⟩
 have hM1l:M1.length=L.length:=by rw[hM1];exact length_splice _ _ _ (by omega)
 rw[←hC1,←hM1];have hcp1:∀ty dc sc,(Builtin.copy_ #[22,22] ty #[.slice (some ⟨b,(i+1)*10,none⟩) (n-i) dc,.slice (some ⟨b,i*10,none⟩) (n+1-i) sc]).run Tryz.prog w.drew=.ok (goInt ((n-i:Nat):Int)) (w.drew.setRow b M1.toArray):=fun ty dc sc=>by
  have hmin:Nat.min (n+1-i) (n-i)=n-i:=by show min _ _=_;omega
  have:=a0p (P:=Tryz.prog) (w:=w.drew) (sT:=22) (ty:=ty) (dCap:=dc) (sCap:=sc) (dLen:=n-i) (sLen:=n+1-i) (o:=(i+1)*10) (a:=⟨b,i*10,none⟩) Tryz.underlying22 hi0 hsz hb (cs:=C1) (by rw[hmin];exact hC1l)
   (fun j v hj=>by
    rw[Addr.add_lit];show w.cell? _=_
    simp only[World.cell?,hb];rw[hC1,yaB]at hj;split at hj
    ·simpa using hj
    ·cases hj) (by omega) (by rw[hC1];exact h1)
  rw[hmin,←hM1]at this;exact this
 have hcp2:∀(W:World),W=(w.drew.setRow b M1.toArray)→∀ty dc,(Builtin.copy_ #[22,22] ty #[.slice (some ⟨b,i*10,none⟩) (n+1-i) dc,.slice (some ⟨vb,vo,none⟩) 1 vc]).run Tryz.prog W=.ok (goInt 1) (W.setRow b (Go.splice M1 (i*10) vs).toArray):=fun W hW ty dc=>by
  have hmin:Nat.min 1 (n+1-i)=1:=by show min _ _=_;omega
  have:=a0p (P:=Tryz.prog) (w:=W) (sT:=22) (ty:=ty) (dCap:=dc) (sCap:=vc) (dLen:=n+1-i) (sLen:=1) (o:=i*10) (a:=⟨vb,vo,none⟩) Tryz.underlying22 hi0 hsz (g:=b) (t:=t) (L:=M1) (by rw[hW];exact setRow_heap _ _ _ _ _ _ hb) (cs:=vs) (by rw[hmin];omega)
   (fun j v hj=>by
    rw[Addr.add_lit,hW,cell_setRow_other _ _ _ _ hvb];exact hvs j v hj) (by omega) h2
  rw[hmin]at this;exact this
 have hw1:IntKind.i64.wrap ((i:Int)+1)=(i:Int)+1:=by rw[IntKind.wrap_i64];omega
 have hb1:(0:Int)≤(i:Int)+1:=by omega
 have hin:i≤n:=by omega
 have htn:((i:Int)+1).toNat=i+1:=by omega
 have hb2:¬(c=i+1):=by omega
 have hb3:(i:Int)≤(n:Int)+1:=by omega
 have hb4:¬(c=i):=by omega
 have mixed:Tryz.prog.follows .mixedOrders=true:=kr;clear hC1 hM1 hC1l hM1l h1 h2 hvs hL
 go_enter Tryz.func121,Tryz.ntmps121
 go_wp2_with (simp only[hov])
 go_region_law_o (refine a3f rfl _ _ 22 22 rfl _ _ (by simp[Act.eval,Act.put]) (by simp[Act.eval,Act.put]) (hcp1 _ _ _) ?_)
 go_wp2_with (at_builtin;refine b3x rfl _ _ 22 22 rfl _ _ rfl rfl (hcp2 _ rfl _ _) ?_)
 go_ret
 exact ⟨rfl,rfl⟩
theorem b4p {i0:TypeInfo} {k c:Nat} (h:c<k) (hk:k≤1073741824) (hby:i0.bytes≤128):Builtin.nextslicecap k c*i0.bytes≤281474976710656:=
 growslice_fits h (yba (ybX hk hby) (by decide))
set_option maxHeartbeats 4000000 in
set_option maxRecDepth 100000 in
theorem b7v {w:World} {b n c vb vo vc:Nat} {L vs:List Value} {t:TypeId} (hroom:n+1≤c) (hlim:n+1≤1073741824)
 (hb:w.heap[b]?=some (.cells L.toArray t (0,0))) (hL:L.length=c*10) (hvl:vs.length=10)
 (hvs:∀j v,vs[j]?=some v→w.cell? ⟨vb,vo+j,none⟩=some v) (h2:∀v∈vs,v.oneCell'=true) :
 Calls Tryz.prog 121 #[.slice (some ⟨b,0,none⟩) n c,.int .i64 n,.slice (some ⟨vb,vo,none⟩) 1 vc] w fun e w'=>
  e=.returned (.slice (some ⟨b,0,none⟩) (n+1) c)∧w'=w.setRow b (Go.splice L (n*10) vs).toArray:=by
 obtain ⟨i0,z0,hi0,hz0,hzs,hsz,hby⟩:=a8m;have hLn:(n+1)*10≤L.length:=by rw[hL];exact yar _ hroom
 have hf:=run_firstCells_some (P:=Tryz.prog) w i0.size 1 ⟨vb,vo,none⟩ 1 vc vs (by omega) (fun j v hj=>by rw[Addr.add_lit];exact hvs j v hj);have hap:∀ty,(Builtin.append_ #[22,22] ty #[.slice (some ⟨b,0,none⟩) n c,.slice (some ⟨vb,vo,none⟩) 1 vc]).run Tryz.prog w=.ok (.slice (some ⟨b,0,none⟩) (n+1) c) (w.setRow b (Go.splice L (n*10) vs).toArray):=fun ty=>by
  have:=a16 (P:=Tryz.prog) (w:=w) (ty:=ty) (ts:=#[22,22]) rfl rfl Tryz.underlying22 Tryz.underlying22 hi0 hf hroom hb (by simp only[ybC];rw[hsz];omega) h2;rw[hsz]at this;simpa[Go.splice]using this
 go_enter Tryz.func121,Tryz.ntmps121
 go_wp2_with (at_builtin;refine a0q rfl _ _ _ _ rfl _ _ rfl rfl (hap _) ?_)
 all_goals (go_ret;exact ⟨rfl,rfl⟩)
set_option maxHeartbeats 4000000 in
set_option maxRecDepth 100000 in
theorem c0r {w:World} {base:Option Addr} {n c vb vo vc:Nat} {olds vs:List Value} (hnc:n≤c) (hroom:c<n+1) (hlim:n+1≤1073741824) (hvl:vs.length=10)
 (hnil:base=none→n=0) (hol:olds.length=n*10) (hos:∀a,base=some a→∀j v,olds[j]?=some v→w.cell? (a.add j)=some v)
 (hvs:∀j v,vs[j]?=some v→w.cell? ⟨vb,vo+j,none⟩=some v) :
 Calls Tryz.prog 121 #[.slice base n c,.int .i64 n,.slice (some ⟨vb,vo,none⟩) 1 vc] w fun e w'=>
  ∃cap zs,e=.returned (.slice (some ⟨w.heap.size,0,none⟩) (n+1) cap)∧w'=w.drew.alloc (.cells (olds++(vs++zs)).toArray 61)∧n+1≤cap∧zs.length=(cap-(n+1))*10:=by
 obtain ⟨i0,z0,hi0,hz0,hzs,hsz,hby⟩:=a8m;have hf:=run_firstCells_some (P:=Tryz.prog) w.drew i0.size 1 ⟨vb,vo,none⟩ 1 vc vs (by omega) (fun j v hj=>by rw[Addr.add_lit];exact hvs j v hj);have hold:(Builtin.firstCells i0.size n (.slice base n c)).run Tryz.prog w.drew=.ok olds.toArray w.drew:=by
  cases base with
  |none=>
   have h0:=hnil rfl;subst h0;rw[ybr.1 (by omega:olds.length=0)];exact run_firstCells_none w.drew _ 0 0 c
  |some a=>exact run_firstCells_some w.drew _ n a n c olds (by rw[hsz];omega) (fun j v hj=>hos a rfl j v hj)
 have hap:∀ty,(Builtin.append_ #[22,22] ty #[.slice base n c,.slice (some ⟨vb,vo,none⟩) 1 vc]).run Tryz.prog w=_:=fun ty=>
  a17 (P:=Tryz.prog) (w:=w) (ty:=ty) (ts:=#[22,22]) rfl rfl Tryz.underlying22 Tryz.underlying22 hi0 hz0 hf hold hroom (by omega) (b4p hroom hlim hby)
 have hge:=a1m w (n+1) c 61;obtain ⟨G,hG⟩:∃G,G=grownCap w (n+1) c 61:=⟨_,rfl⟩
 obtain ⟨zs,hzs'⟩:∃zs,zs=(Builtin.zeroCells z0.cells (G-(n+1))).toList:=⟨_,rfl⟩
 rw[←hG]at hap hge;rw[←hzs']at hap;have hzl:zs.length=(G-(n+1))*10:=by rw[hzs',ya6,size_zeroCells,hzs]
 clear hG hzs'
 go_enter Tryz.func121,Tryz.ntmps121
 cases base with
 |none=>
  have h0:=hnil rfl;subst h0
  go_wp2_with (at_builtin;refine a0q rfl _ _ _ _ rfl _ _ rfl rfl (hap _) ?_)
  all_goals (go_ret;first|exact ⟨_,_,rfl,rfl,hge,hzl⟩|exact ⟨_,rfl,_,rfl,hge,hzl⟩)
 |some a=>
  obtain ⟨ab,ao,asp⟩:=a
  go_wp2_with (at_builtin;refine a0q rfl _ _ _ _ rfl _ _ rfl rfl (hap _) ?_)
  all_goals (go_ret;first|exact ⟨_,_,rfl,rfl,hge,hzl⟩|exact ⟨_,rfl,_,rfl,hge,hzl⟩)
set_option maxHeartbeats 4000000 in
set_option maxRecDepth 100000 in
theorem b7u {w:World} {b n c i vb vo vc:Nat} {L vs:List Value} {t:TypeId} (hi:i<n) (hnc:n≤c) (hroom:c<n+1) (hlim:n+1≤1073741824) (hvb:vb≠b)
 (hb:w.heap[b]?=some (.cells L.toArray t (0,0))) (hL:L.length=c*10) (hvl:vs.length=10)
 (hvs:∀j v,vs[j]?=some v→w.cell? ⟨vb,vo+j,none⟩=some v) (h1:∀v∈(L.drop (i*10)).take ((n-i)*10),v.oneCell'=true) (h2:∀v∈vs,v.oneCell'=true) :
 Calls Tryz.prog 121 #[.slice (some ⟨b,0,none⟩) n c,.int .i64 i,.slice (some ⟨vb,vo,none⟩) 1 vc] w fun e w'=>
  ∃cap row,e=.returned (.slice (some ⟨w.heap.size,0,none⟩) (n+1) cap)∧n+1≤cap∧row.length=cap*10∧row.take (i*10)=L.take (i*10)∧
   w'.heap=(w.heap.push (.cells (Go.splice (Go.splice row (i*10) vs) ((i+1)*10) ((L.drop (i*10)).take ((n-i)*10))).toArray 61))∧w'.os=w.os∧w'.output=w.output∧w'.tape=w.tape:=by
 obtain ⟨i0,z0,hi0,hz0,hzs,hsz,hby⟩:=a8m;have hz2:¬((i:Int)=(n:Int)):=by omega
 have hz3:(c:Int)<(n:Int)+1:=by omega
 have hLn:n*10≤L.length:=by rw[hL];exact yar _ hnc
 have hbw:b<w.heap.size:=(yah.1 hb).1;have hvw:vb<w.heap.size:=by
  have h:=hvs 0 _ (yab (by omega));unfold World.cell? at h;split at h
  ·rename_i c0 t0 f0 hc0;exact (yah.1 hc0).1
  ·cases h
 have hkk:(n:Int)+1-(i:Int)=((n+1-i:Nat):Int):=by omega
 have hik:i+(n+1-i)=n+1:=by omega
 have hTl:(L.take (i*10)).length=i*10:=by simp;omega
 have hold:(Builtin.firstCells i0.size i (.slice (some ⟨b,0,none⟩) i c)).run Tryz.prog w.drew=.ok (L.take (i*10)).toArray w.drew:=by
  refine run_firstCells_some w.drew _ i ⟨b,0,none⟩ i c (L.take (i*10)) (by rw[hsz];exact hTl) (fun j v hj=>?_);rw[Addr.add_lit,yaH];show w.cell? _=_
  simp only[World.cell?,hb];rw[yaB]at hj;split at hj
  ·simpa using hj
  ·cases hj
 have hrz:∀ty,(Builtin.append_ #[22,3] ty #[.slice (some ⟨b,0,none⟩) i c,.int .i64 ((n:Int)+1-(i:Int))]).run Tryz.prog w =
  .ok (.slice (some ⟨w.heap.size,0,none⟩) (n+1) (grownCap w (n+1) c 61)) (w.drew.alloc (.cells ((L.take (i*10)).toArray++Builtin.zeroCells z0.cells (n+1-i)++Builtin.zeroCells z0.cells (grownCap w (n+1) c 61-(n+1))) 61)):=fun ty=>by
  have h:=Lib.run_append_grow_zeros w 22 3 ty 61 i0 _ .i64 .i64 Tryz.underlying22 Tryz.underlying3 hi0 hz0 (some ⟨b,0,none⟩) i c _ hold (n+1-i) (by omega) (by omega) (by omega) (by omega)
   (yba (ybX (show n+1-i≤1073741824 by omega) hby) (by decide)) (by rw[hik];exact b4p hroom hlim hby)
  rw[hik]at h;rw[hkk];exact h
 have hge:=a1m w (n+1) c 61;obtain ⟨G,hG⟩:∃G,G=grownCap w (n+1) c 61:=⟨_,rfl⟩
 rw[←hG]at hrz hge;have hG63:G≤9223372036854775807:=by
  have:=grownCap_le_maxLen w (n+1) c 61 (by unfold maxLen;omega);rw[←hG]at this;unfold maxLen at this;omega
 obtain ⟨R,hR⟩:∃R:List Value,R=L.take (i*10)++((Builtin.zeroCells z0.cells (n+1-i)).toList++(Builtin.zeroCells z0.cells (G-(n+1))).toList):=⟨_,rfl⟩
 have hRl:R.length=G*10:=by
  rw[hR];simp only[yaP,ya6,size_zeroCells,hzs,hTl];rw[←ya3,←ya3];congr 1;omega
 have hRt:R.take (i*10)=L.take (i*10):=by rw[hR,List.take_append_of_le_length (by omega),ybY (by omega)]
 have hRe:(L.take (i*10)).toArray++Builtin.zeroCells z0.cells (n+1-i)++Builtin.zeroCells z0.cells (G-(n+1))=R.toArray:=by
  rw[hR];apply Array.ext';simp
 rw[hRe]at hrz;obtain ⟨C1,hC1⟩:∃C1,C1=(L.drop (i*10)).take ((n-i)*10):=⟨_,rfl⟩
 have hC1l:C1.length=(n-i)*10:=by rw[hC1];simp;omega
 have hGn:(n+1)*10≤R.length:=by rw[hRl];exact yar _ hge
 obtain ⟨M1,hM1⟩:∃M1,M1=Go.splice R (i*10) vs:=⟨_,rfl⟩
 have hM1l:M1.length=R.length:=by rw[hM1];exact length_splice _ _ _ (by omega)
 rw[←hC1];obtain ⟨gb,hgb⟩:∃gb,gb=w.heap.size:=⟨_,rfl⟩
 have hnew:∀W:World,W.heap=w.heap.push (.cells R.toArray 61)→W.heap[gb]?=some (.cells R.toArray 61 (0,0)):=fun W hW=>by rw[hW,hgb];simp
 have hpast:∀W:World,W.heap=w.heap.push (.cells R.toArray 61)→∀k,k<w.heap.size→W.heap[k]?=w.heap[k]?:=fun W hW k hk=>by rw[hW,ybB hk];simp[hk]
 have hcpA:∀(W:World),W.heap=w.heap.push (.cells R.toArray 61)→∀ty dc,(Builtin.copy_ #[22,22] ty #[.slice (some ⟨gb,i*10,none⟩) (n+1-i) dc,.slice (some ⟨vb,vo,none⟩) 1 vc]).run Tryz.prog W=.ok (goInt 1) (W.setRow gb M1.toArray):=fun W hW ty dc=>by
  have hmin:Nat.min 1 (n+1-i)=1:=by show min _ _=_;omega
  have:=a0p (P:=Tryz.prog) (w:=W) (sT:=22) (ty:=ty) (dCap:=dc) (sCap:=vc) (dLen:=n+1-i) (sLen:=1) (o:=i*10) (a:=⟨vb,vo,none⟩) Tryz.underlying22 hi0 hsz (g:=gb) (t:=61) (L:=R) (hnew W hW) (cs:=vs) (by rw[hmin];omega)
   (fun j v hj=>by
    rw[Addr.add_lit];unfold World.cell?;rw[show W.heap[(⟨vb,vo+j,none⟩:Addr).block]?=w.heap[vb]? from hpast W hW vb hvw];exact hvs j v hj) (by omega) h2
  rw[hmin,←hM1]at this;exact this
 have hcpB:∀(W W0:World),W0.heap=w.heap.push (.cells R.toArray 61)→W.heap=(W0.setRow gb M1.toArray).heap→∀ty dc sc,(Builtin.copy_ #[22,22] ty #[.slice (some ⟨gb,(i+1)*10,none⟩) (n-i) dc,.slice (some ⟨b,i*10,none⟩) (n-i) sc]).run Tryz.prog W=.ok (goInt ((n-i:Nat):Int)) (W.setRow gb (Go.splice M1 ((i+1)*10) C1).toArray):=fun W W0 hW0 hW ty dc sc=>by
  have hmin:Nat.min (n-i) (n-i)=n-i:=by show min _ _=_;omega
  have:=a0p (P:=Tryz.prog) (w:=W) (sT:=22) (ty:=ty) (dCap:=dc) (sCap:=sc) (dLen:=n-i) (sLen:=n-i) (o:=(i+1)*10) (a:=⟨b,i*10,none⟩) Tryz.underlying22 hi0 hsz (g:=gb) (t:=61) (L:=M1) (by rw[hW];exact setRow_heap _ _ _ _ _ _ (hnew W0 hW0)) (cs:=C1) (by rw[hmin];exact hC1l)
   (fun j v hj=>by
    rw[Addr.add_lit];unfold World.cell?;have e:W.heap[(⟨b,i*10+j,none⟩:Addr).block]?=w.heap[b]?:=by
     show W.heap[b]?=_
     rw[hW,setRow_other _ _ _ _ (by omega),hpast W0 hW0 b hbw]
    rw[e,hb];rw[hC1,yaB]at hj;split at hj
    ·simpa using hj
    ·cases hj) (by omega) (by rw[hC1];exact h1)
  rw[hmin]at this;exact this
 have hw1:IntKind.i64.wrap ((i:Int)+1)=(i:Int)+1:=by rw[IntKind.wrap_i64];omega
 have hb1:(0:Int)≤(i:Int)+1:=by omega
 have hin:i≤n:=by omega
 have htn:((i:Int)+1).toNat=i+1:=by omega
 have hb3:(i:Int)≤(n:Int):=by omega
 have hGi:¬(G=i):=by omega
 have hGim:¬(G=i+1):=by omega
 have hci:¬(c=i):=by omega
 have hmixed:Tryz.prog.follows .mixedOrders=true:=kr;have mixed:=hmixed;have hfin:∀W W0:World,W0.heap=w.heap.push (.cells R.toArray 61)→W.heap=(W0.setRow gb M1.toArray).heap→(W.setRow gb (Go.splice M1 ((i+1)*10) C1).toArray).heap=w.heap.push (.cells (Go.splice M1 ((i+1)*10) C1).toArray 61):=fun W W0 hW0 hW=>by
  have h1:W.heap[gb]?=some (.cells M1.toArray 61 (0,0)):=by rw[hW];exact setRow_heap _ _ _ _ _ _ (hnew W0 hW0)
  have hsz0:W.heap.size=w.heap.size+1:=by rw[hW,setRow_size,hW0];simp
  apply Array.ext_getElem?;intro k;by_cases hk:k=gb
  ·subst hk;rw[setRow_heap _ _ _ _ _ _ h1,hgb];simp
  ·rw[setRow_other _ _ _ _ hk];by_cases hk2:k<w.heap.size
   ·rw[hW,setRow_other _ _ _ _ hk,hpast W0 hW0 k hk2,ybB hk2];simp[hk2]
   ·rw[ybm (by omega),ybm (by simp;omega)]
 have hMM:Go.splice (Go.splice R (i*10) vs) ((i+1)*10) C1=Go.splice M1 ((i+1)*10) C1:=by rw[hM1]
 subst hgb;have hcpA':=hcpA ((w.alloc (.cells R.toArray 61)).drew) rfl;clear hkk hcpA hik hold hG hR hRe hC1 hM1 hC1l hM1l h1 h2 hvs hL hTl
 go_enter Tryz.func121,Tryz.ntmps121
 go_wp2_with (at_builtin;refine a0q rfl _ _ _ _ rfl _ _ rfl rfl (hrz _) ?_)
 go_region_law_o (refine a3f rfl _ _ 22 22 rfl (.slice (some ⟨w.heap.size,(i+1)*10,none⟩) (n-i) (G-(i+1))) (.slice (some ⟨b,i*10,none⟩) (n-i) (c-i)) (by simp[Act.eval,Act.put]) (by simp[Act.eval,Act.put]) (hcpB (((w.alloc (.cells R.toArray 61)).drew.setRow w.heap.size M1.toArray).drew) (w.drew.alloc (.cells R.toArray 61)) rfl rfl 3 (G-(i+1)) (c-i)) ?_)
 go_wp2
 go_ret
 refine ⟨G,R,rfl,hge,hRl,hRt,?_,rfl,rfl,rfl⟩;rw[hMM];exact hfin _ (w.drew.alloc (.cells R.toArray 61)) rfl rfl
end
section
theorem a8n:∃i0 z,Tryz.prog.info? 79=some i0∧i0.zero=some z∧z.cells.size=6∧i0.size=6∧i0.bytes≤128:=by
 have h:(match Tryz.prog.info? 79 with|some i=>(match i.zero with|some z=>Nat.beq z.cells.size 6&&Nat.beq i.size 6&&Nat.ble i.bytes 128|none=>false)|none=>false)=true:=kr;split at h
 ·rename_i i hi;split at h
  ·rename_i z hz;simp only[yad]at h;exact ⟨i,z,hi,hz,ybo h.1.1,ybo h.1.2,yaY h.2⟩
  ·cases h
 ·cases h
set_option maxHeartbeats 4000000 in
set_option maxRecDepth 100000 in
theorem b4c {w:World} {b n c i vb vo vc:Nat} {L vs:List Value} {t:TypeId} (hi:i<n) (hroom:n+1≤c) (hlim:n+1≤1073741824) (hvb:vb≠b)
 (hb:w.heap[b]?=some (.cells L.toArray t (0,0))) (hL:L.length=c*6) (hvl:vs.length=6)
 (hvs:∀j v,vs[j]?=some v→w.cell? ⟨vb,vo+j,none⟩=some v) (h1:∀v∈(L.drop (i*6)).take ((n-i)*6),v.oneCell'=true) (h2:∀v∈vs,v.oneCell'=true) :
 Calls Tryz.prog 201 #[.slice (some ⟨b,0,none⟩) n c,.int .i64 i,.slice (some ⟨vb,vo,none⟩) 1 vc] w fun e w'=>
  e=.returned (.slice (some ⟨b,0,none⟩) (n+1) c)∧w'=(w.drew.setRow b (Go.splice L ((i+1)*6) ((L.drop (i*6)).take ((n-i)*6))).toArray).setRow b (Go.splice (Go.splice L ((i+1)*6) ((L.drop (i*6)).take ((n-i)*6))) (i*6) vs).toArray:=by
 obtain ⟨i0,z0,hi0,hz0,hzs,hsz,hby⟩:=a8n;have hz2:¬((i:Int)=(n:Int)):=by omega
 have hva:∃va ta fa,w.heap[vb]?=some (.cells va ta fa)∧0<va.size:=by
  have h:=hvs 0 _ (yab (by omega));unfold World.cell? at h;split at h
  ·rename_i c0 t0 f0 hc0;exact ⟨c0,t0,f0,hc0,by have:=(yah.1 h).1;omega⟩
  ·cases h
 obtain ⟨va,ta,fa,hva,hva0⟩:=hva;have hov:∀lb cb,(callFunc 262 #[.slice (some ⟨vb,vo,none⟩) 1 vc,.slice (some ⟨b,(i+1)*6,none⟩) lb cb]).run Tryz.prog w=.ok (.value (.bool false)) w:=fun lb cb=>by
  rw[run_callFunc_extern Tryz.func262 kr kr kr (e:=Extern.SlicesOverlaps.overlaps #[24,24] #[4]) kr,
   a3y Tryz.underlying24 hi0 (a:=⟨vb,vo,none⟩) (b:=⟨b,(i+1)*6,none⟩) hvb hva hva0 hb (by simp only[ybC];omega)]
  rfl
 have hLn:(n+1)*6≤L.length:=by rw[hL];exact yar _ hroom
 obtain ⟨C1,hC1⟩:∃C1,C1=(L.drop (i*6)).take ((n-i)*6):=⟨_,rfl⟩
 have hC1l:C1.length=(n-i)*6:=by rw[hC1];simp;omega
 obtain ⟨M1,hM1⟩:∃M1,M1=Go.splice L ((i+1)*6) C1:=⟨_,rfl⟩
 have hM1l:M1.length=L.length:=by rw[hM1];exact length_splice _ _ _ (by omega)
 rw[←hC1,←hM1];have hcp1:∀ty dc sc,(Builtin.copy_ #[24,24] ty #[.slice (some ⟨b,(i+1)*6,none⟩) (n-i) dc,.slice (some ⟨b,i*6,none⟩) (n+1-i) sc]).run Tryz.prog w.drew=.ok (goInt ((n-i:Nat):Int)) (w.drew.setRow b M1.toArray):=fun ty dc sc=>by
  have hmin:Nat.min (n+1-i) (n-i)=n-i:=by show min _ _=_;omega
  have:=a0p (P:=Tryz.prog) (w:=w.drew) (sT:=24) (ty:=ty) (dCap:=dc) (sCap:=sc) (dLen:=n-i) (sLen:=n+1-i) (o:=(i+1)*6) (a:=⟨b,i*6,none⟩) Tryz.underlying24 hi0 hsz hb (cs:=C1) (by rw[hmin];exact hC1l)
   (fun j v hj=>by
    rw[Addr.add_lit];show w.cell? _=_
    simp only[World.cell?,hb];rw[hC1,yaB]at hj;split at hj
    ·simpa using hj
    ·cases hj) (by omega) (by rw[hC1];exact h1)
  rw[hmin,←hM1]at this;exact this
 have hcp2:∀(W:World),W=(w.drew.setRow b M1.toArray)→∀ty dc,(Builtin.copy_ #[24,24] ty #[.slice (some ⟨b,i*6,none⟩) (n+1-i) dc,.slice (some ⟨vb,vo,none⟩) 1 vc]).run Tryz.prog W=.ok (goInt 1) (W.setRow b (Go.splice M1 (i*6) vs).toArray):=fun W hW ty dc=>by
  have hmin:Nat.min 1 (n+1-i)=1:=by show min _ _=_;omega
  have:=a0p (P:=Tryz.prog) (w:=W) (sT:=24) (ty:=ty) (dCap:=dc) (sCap:=vc) (dLen:=n+1-i) (sLen:=1) (o:=i*6) (a:=⟨vb,vo,none⟩) Tryz.underlying24 hi0 hsz (g:=b) (t:=t) (L:=M1) (by rw[hW];exact setRow_heap _ _ _ _ _ _ hb) (cs:=vs) (by rw[hmin];omega)
   (fun j v hj=>by
    rw[Addr.add_lit,hW,cell_setRow_other _ _ _ _ hvb];exact hvs j v hj) (by omega) h2
  rw[hmin]at this;exact this
 have hw1:IntKind.i64.wrap ((i:Int)+1)=(i:Int)+1:=by rw[IntKind.wrap_i64];omega
 have hb1:(0:Int)≤(i:Int)+1:=by omega
 have hin:i≤n:=by omega
 have htn:((i:Int)+1).toNat=i+1:=by omega
 have hb2:¬(c=i+1):=by omega
 have hb3:(i:Int)≤(n:Int)+1:=by omega
 have hb4:¬(c=i):=by omega
 have mixed:Tryz.prog.follows .mixedOrders=true:=kr;clear hC1 hM1 hC1l hM1l h1 h2 hvs hL
 go_enter Tryz.func201,Tryz.ntmps201
 go_wp2_with (simp only[hov])
 go_region_law_o (refine a3f rfl _ _ 24 24 rfl _ _ (by simp[Act.eval,Act.put]) (by simp[Act.eval,Act.put]) (hcp1 _ _ _) ?_)
 go_wp2_with (at_builtin;refine b3x rfl _ _ 24 24 rfl _ _ rfl rfl (hcp2 _ rfl _ _) ?_)
 go_ret
 exact ⟨rfl,rfl⟩
theorem b4q {i0:TypeInfo} {k c:Nat} (h:c<k) (hk:k≤1073741824) (hby:i0.bytes≤128):Builtin.nextslicecap k c*i0.bytes≤281474976710656:=
 growslice_fits h (yba (ybX hk hby) (by decide))
set_option maxHeartbeats 4000000 in
set_option maxRecDepth 100000 in
theorem b7x {w:World} {b n c vb vo vc:Nat} {L vs:List Value} {t:TypeId} (hroom:n+1≤c) (hlim:n+1≤1073741824)
 (hb:w.heap[b]?=some (.cells L.toArray t (0,0))) (hL:L.length=c*6) (hvl:vs.length=6)
 (hvs:∀j v,vs[j]?=some v→w.cell? ⟨vb,vo+j,none⟩=some v) (h2:∀v∈vs,v.oneCell'=true) :
 Calls Tryz.prog 201 #[.slice (some ⟨b,0,none⟩) n c,.int .i64 n,.slice (some ⟨vb,vo,none⟩) 1 vc] w fun e w'=>
  e=.returned (.slice (some ⟨b,0,none⟩) (n+1) c)∧w'=w.setRow b (Go.splice L (n*6) vs).toArray:=by
 obtain ⟨i0,z0,hi0,hz0,hzs,hsz,hby⟩:=a8n;have hLn:(n+1)*6≤L.length:=by rw[hL];exact yar _ hroom
 have hf:=run_firstCells_some (P:=Tryz.prog) w i0.size 1 ⟨vb,vo,none⟩ 1 vc vs (by omega) (fun j v hj=>by rw[Addr.add_lit];exact hvs j v hj);have hap:∀ty,(Builtin.append_ #[24,24] ty #[.slice (some ⟨b,0,none⟩) n c,.slice (some ⟨vb,vo,none⟩) 1 vc]).run Tryz.prog w=.ok (.slice (some ⟨b,0,none⟩) (n+1) c) (w.setRow b (Go.splice L (n*6) vs).toArray):=fun ty=>by
  have:=a16 (P:=Tryz.prog) (w:=w) (ty:=ty) (ts:=#[24,24]) rfl rfl Tryz.underlying24 Tryz.underlying24 hi0 hf hroom hb (by simp only[ybC];rw[hsz];omega) h2;rw[hsz]at this;simpa[Go.splice]using this
 go_enter Tryz.func201,Tryz.ntmps201
 go_wp2_with (at_builtin;refine a0q rfl _ _ _ _ rfl _ _ rfl rfl (hap _) ?_)
 all_goals (go_ret;exact ⟨rfl,rfl⟩)
set_option maxHeartbeats 4000000 in
set_option maxRecDepth 100000 in
theorem c0s {w:World} {base:Option Addr} {n c vb vo vc:Nat} {olds vs:List Value} (hnc:n≤c) (hroom:c<n+1) (hlim:n+1≤1073741824) (hvl:vs.length=6)
 (hnil:base=none→n=0) (hol:olds.length=n*6) (hos:∀a,base=some a→∀j v,olds[j]?=some v→w.cell? (a.add j)=some v)
 (hvs:∀j v,vs[j]?=some v→w.cell? ⟨vb,vo+j,none⟩=some v) :
 Calls Tryz.prog 201 #[.slice base n c,.int .i64 n,.slice (some ⟨vb,vo,none⟩) 1 vc] w fun e w'=>
  ∃cap zs,e=.returned (.slice (some ⟨w.heap.size,0,none⟩) (n+1) cap)∧w'=w.drew.alloc (.cells (olds++(vs++zs)).toArray 79)∧n+1≤cap∧zs.length=(cap-(n+1))*6:=by
 obtain ⟨i0,z0,hi0,hz0,hzs,hsz,hby⟩:=a8n;have hf:=run_firstCells_some (P:=Tryz.prog) w.drew i0.size 1 ⟨vb,vo,none⟩ 1 vc vs (by omega) (fun j v hj=>by rw[Addr.add_lit];exact hvs j v hj);have hold:(Builtin.firstCells i0.size n (.slice base n c)).run Tryz.prog w.drew=.ok olds.toArray w.drew:=by
  cases base with
  |none=>
   have h0:=hnil rfl;subst h0;rw[ybr.1 (by omega:olds.length=0)];exact run_firstCells_none w.drew _ 0 0 c
  |some a=>exact run_firstCells_some w.drew _ n a n c olds (by rw[hsz];omega) (fun j v hj=>hos a rfl j v hj)
 have hap:∀ty,(Builtin.append_ #[24,24] ty #[.slice base n c,.slice (some ⟨vb,vo,none⟩) 1 vc]).run Tryz.prog w=_:=fun ty=>
  a17 (P:=Tryz.prog) (w:=w) (ty:=ty) (ts:=#[24,24]) rfl rfl Tryz.underlying24 Tryz.underlying24 hi0 hz0 hf hold hroom (by omega) (b4q hroom hlim hby)
 have hge:=a1m w (n+1) c 79;obtain ⟨G,hG⟩:∃G,G=grownCap w (n+1) c 79:=⟨_,rfl⟩
 obtain ⟨zs,hzs'⟩:∃zs,zs=(Builtin.zeroCells z0.cells (G-(n+1))).toList:=⟨_,rfl⟩
 rw[←hG]at hap hge;rw[←hzs']at hap;have hzl:zs.length=(G-(n+1))*6:=by rw[hzs',ya6,size_zeroCells,hzs]
 clear hG hzs'
 go_enter Tryz.func201,Tryz.ntmps201
 cases base with
 |none=>
  have h0:=hnil rfl;subst h0
  go_wp2_with (at_builtin;refine a0q rfl _ _ _ _ rfl _ _ rfl rfl (hap _) ?_)
  all_goals (go_ret;first|exact ⟨_,_,rfl,rfl,hge,hzl⟩|exact ⟨_,rfl,_,rfl,hge,hzl⟩)
 |some a=>
  obtain ⟨ab,ao,asp⟩:=a
  go_wp2_with (at_builtin;refine a0q rfl _ _ _ _ rfl _ _ rfl rfl (hap _) ?_)
  all_goals (go_ret;first|exact ⟨_,_,rfl,rfl,hge,hzl⟩|exact ⟨_,rfl,_,rfl,hge,hzl⟩)
set_option maxHeartbeats 4000000 in
set_option maxRecDepth 100000 in
theorem b7w {w:World} {b n c i vb vo vc:Nat} {L vs:List Value} {t:TypeId} (hi:i<n) (hnc:n≤c) (hroom:c<n+1) (hlim:n+1≤1073741824) (hvb:vb≠b)
 (hb:w.heap[b]?=some (.cells L.toArray t (0,0))) (hL:L.length=c*6) (hvl:vs.length=6)
 (hvs:∀j v,vs[j]?=some v→w.cell? ⟨vb,vo+j,none⟩=some v) (h1:∀v∈(L.drop (i*6)).take ((n-i)*6),v.oneCell'=true) (h2:∀v∈vs,v.oneCell'=true) :
 Calls Tryz.prog 201 #[.slice (some ⟨b,0,none⟩) n c,.int .i64 i,.slice (some ⟨vb,vo,none⟩) 1 vc] w fun e w'=>
  ∃cap row,e=.returned (.slice (some ⟨w.heap.size,0,none⟩) (n+1) cap)∧n+1≤cap∧row.length=cap*6∧row.take (i*6)=L.take (i*6)∧
   w'.heap=(w.heap.push (.cells (Go.splice (Go.splice row (i*6) vs) ((i+1)*6) ((L.drop (i*6)).take ((n-i)*6))).toArray 79))∧w'.os=w.os∧w'.output=w.output∧w'.tape=w.tape:=by
 obtain ⟨i0,z0,hi0,hz0,hzs,hsz,hby⟩:=a8n;have hz2:¬((i:Int)=(n:Int)):=by omega
 have hz3:(c:Int)<(n:Int)+1:=by omega
 have hLn:n*6≤L.length:=by rw[hL];exact yar _ hnc
 have hbw:b<w.heap.size:=(yah.1 hb).1;have hvw:vb<w.heap.size:=by
  have h:=hvs 0 _ (yab (by omega));unfold World.cell? at h;split at h
  ·rename_i c0 t0 f0 hc0;exact (yah.1 hc0).1
  ·cases h
 have hkk:(n:Int)+1-(i:Int)=((n+1-i:Nat):Int):=by omega
 have hik:i+(n+1-i)=n+1:=by omega
 have hTl:(L.take (i*6)).length=i*6:=by simp;omega
 have hold:(Builtin.firstCells i0.size i (.slice (some ⟨b,0,none⟩) i c)).run Tryz.prog w.drew=.ok (L.take (i*6)).toArray w.drew:=by
  refine run_firstCells_some w.drew _ i ⟨b,0,none⟩ i c (L.take (i*6)) (by rw[hsz];exact hTl) (fun j v hj=>?_);rw[Addr.add_lit,yaH];show w.cell? _=_
  simp only[World.cell?,hb];rw[yaB]at hj;split at hj
  ·simpa using hj
  ·cases hj
 have hrz:∀ty,(Builtin.append_ #[24,3] ty #[.slice (some ⟨b,0,none⟩) i c,.int .i64 ((n:Int)+1-(i:Int))]).run Tryz.prog w =
  .ok (.slice (some ⟨w.heap.size,0,none⟩) (n+1) (grownCap w (n+1) c 79)) (w.drew.alloc (.cells ((L.take (i*6)).toArray++Builtin.zeroCells z0.cells (n+1-i)++Builtin.zeroCells z0.cells (grownCap w (n+1) c 79-(n+1))) 79)):=fun ty=>by
  have h:=Lib.run_append_grow_zeros w 24 3 ty 79 i0 _ .i64 .i64 Tryz.underlying24 Tryz.underlying3 hi0 hz0 (some ⟨b,0,none⟩) i c _ hold (n+1-i) (by omega) (by omega) (by omega) (by omega)
   (yba (ybX (show n+1-i≤1073741824 by omega) hby) (by decide)) (by rw[hik];exact b4q hroom hlim hby)
  rw[hik]at h;rw[hkk];exact h
 have hge:=a1m w (n+1) c 79;obtain ⟨G,hG⟩:∃G,G=grownCap w (n+1) c 79:=⟨_,rfl⟩
 rw[←hG]at hrz hge;have hG63:G≤9223372036854775807:=by
  have:=grownCap_le_maxLen w (n+1) c 79 (by unfold maxLen;omega);rw[←hG]at this;unfold maxLen at this;omega
 obtain ⟨R,hR⟩:∃R:List Value,R=L.take (i*6)++((Builtin.zeroCells z0.cells (n+1-i)).toList++(Builtin.zeroCells z0.cells (G-(n+1))).toList):=⟨_,rfl⟩
 have hRl:R.length=G*6:=by
  rw[hR];simp only[yaP,ya6,size_zeroCells,hzs,hTl];rw[←ya3,←ya3];congr 1;omega
 have hRt:R.take (i*6)=L.take (i*6):=by rw[hR,List.take_append_of_le_length (by omega),ybY (by omega)]
 have hRe:(L.take (i*6)).toArray++Builtin.zeroCells z0.cells (n+1-i)++Builtin.zeroCells z0.cells (G-(n+1))=R.toArray:=by
  rw[hR];apply Array.ext';simp
 rw[hRe]at hrz;obtain ⟨C1,hC1⟩:∃C1,C1=(L.drop (i*6)).take ((n-i)*6):=⟨_,rfl⟩
 have hC1l:C1.length=(n-i)*6:=by rw[hC1];simp;omega
 have hGn:(n+1)*6≤R.length:=by rw[hRl];exact yar _ hge
 obtain ⟨M1,hM1⟩:∃M1,M1=Go.splice R (i*6) vs:=⟨_,rfl⟩
 have hM1l:M1.length=R.length:=by rw[hM1];exact length_splice _ _ _ (by omega)
 rw[←hC1];obtain ⟨gb,hgb⟩:∃gb,gb=w.heap.size:=⟨_,rfl⟩
 have hnew:∀W:World,W.heap=w.heap.push (.cells R.toArray 79)→W.heap[gb]?=some (.cells R.toArray 79 (0,0)):=fun W hW=>by rw[hW,hgb];simp
 have hpast:∀W:World,W.heap=w.heap.push (.cells R.toArray 79)→∀k,k<w.heap.size→W.heap[k]?=w.heap[k]?:=fun W hW k hk=>by rw[hW,ybB hk];simp[hk]
 have hcpA:∀(W:World),W.heap=w.heap.push (.cells R.toArray 79)→∀ty dc,(Builtin.copy_ #[24,24] ty #[.slice (some ⟨gb,i*6,none⟩) (n+1-i) dc,.slice (some ⟨vb,vo,none⟩) 1 vc]).run Tryz.prog W=.ok (goInt 1) (W.setRow gb M1.toArray):=fun W hW ty dc=>by
  have hmin:Nat.min 1 (n+1-i)=1:=by show min _ _=_;omega
  have:=a0p (P:=Tryz.prog) (w:=W) (sT:=24) (ty:=ty) (dCap:=dc) (sCap:=vc) (dLen:=n+1-i) (sLen:=1) (o:=i*6) (a:=⟨vb,vo,none⟩) Tryz.underlying24 hi0 hsz (g:=gb) (t:=79) (L:=R) (hnew W hW) (cs:=vs) (by rw[hmin];omega)
   (fun j v hj=>by
    rw[Addr.add_lit];unfold World.cell?;rw[show W.heap[(⟨vb,vo+j,none⟩:Addr).block]?=w.heap[vb]? from hpast W hW vb hvw];exact hvs j v hj) (by omega) h2
  rw[hmin,←hM1]at this;exact this
 have hcpB:∀(W W0:World),W0.heap=w.heap.push (.cells R.toArray 79)→W.heap=(W0.setRow gb M1.toArray).heap→∀ty dc sc,(Builtin.copy_ #[24,24] ty #[.slice (some ⟨gb,(i+1)*6,none⟩) (n-i) dc,.slice (some ⟨b,i*6,none⟩) (n-i) sc]).run Tryz.prog W=.ok (goInt ((n-i:Nat):Int)) (W.setRow gb (Go.splice M1 ((i+1)*6) C1).toArray):=fun W W0 hW0 hW ty dc sc=>by
  have hmin:Nat.min (n-i) (n-i)=n-i:=by show min _ _=_;omega
  have:=a0p (P:=Tryz.prog) (w:=W) (sT:=24) (ty:=ty) (dCap:=dc) (sCap:=sc) (dLen:=n-i) (sLen:=n-i) (o:=(i+1)*6) (a:=⟨b,i*6,none⟩) Tryz.underlying24 hi0 hsz (g:=gb) (t:=79) (L:=M1) (by rw[hW];exact setRow_heap _ _ _ _ _ _ (hnew W0 hW0)) (cs:=C1) (by rw[hmin];exact hC1l)
   (fun j v hj=>by
    rw[Addr.add_lit];unfold World.cell?;have e:W.heap[(⟨b,i*6+j,none⟩:Addr).block]?=w.heap[b]?:=by
     show W.heap[b]?=_
     rw[hW,setRow_other _ _ _ _ (by omega),hpast W0 hW0 b hbw]
    rw[e,hb];rw[hC1,yaB]at hj;split at hj
    ·simpa using hj
    ·cases hj) (by omega) (by rw[hC1];exact h1)
  rw[hmin]at this;exact this
 have hw1:IntKind.i64.wrap ((i:Int)+1)=(i:Int)+1:=by rw[IntKind.wrap_i64];omega
 have hb1:(0:Int)≤(i:Int)+1:=by omega
 have hin:i≤n:=by omega
 have htn:((i:Int)+1).toNat=i+1:=by omega
 have hb3:(i:Int)≤(n:Int):=by omega
 have hGi:¬(G=i):=by omega
 have hGim:¬(G=i+1):=by omega
 have hci:¬(c=i):=by omega
 have hmixed:Tryz.prog.follows .mixedOrders=true:=kr;have mixed:=hmixed;have hfin:∀W W0:World,W0.heap=w.heap.push (.cells R.toArray 79)→W.heap=(W0.setRow gb M1.toArray).heap→(W.setRow gb (Go.splice M1 ((i+1)*6) C1).toArray).heap=w.heap.push (.cells (Go.splice M1 ((i+1)*6) C1).toArray 79):=fun W W0 hW0 hW=>by
  have h1:W.heap[gb]?=some (.cells M1.toArray 79 (0,0)):=by rw[hW];exact setRow_heap _ _ _ _ _ _ (hnew W0 hW0)
  have hsz0:W.heap.size=w.heap.size+1:=by rw[hW,setRow_size,hW0];simp
  apply Array.ext_getElem?;intro k;by_cases hk:k=gb
  ·subst hk;rw[setRow_heap _ _ _ _ _ _ h1,hgb];simp
  ·rw[setRow_other _ _ _ _ hk];by_cases hk2:k<w.heap.size
   ·rw[hW,setRow_other _ _ _ _ hk,hpast W0 hW0 k hk2,ybB hk2];simp[hk2]
   ·rw[ybm (by omega),ybm (by simp;omega)]
 have hMM:Go.splice (Go.splice R (i*6) vs) ((i+1)*6) C1=Go.splice M1 ((i+1)*6) C1:=by rw[hM1]
 subst hgb;have hcpA':=hcpA ((w.alloc (.cells R.toArray 79)).drew) rfl;clear hkk hcpA hik hold hG hR hRe hC1 hM1 hC1l hM1l h1 h2 hvs hL hTl
 go_enter Tryz.func201,Tryz.ntmps201
 go_wp2_with (at_builtin;refine a0q rfl _ _ _ _ rfl _ _ rfl rfl (hrz _) ?_)
 go_region_law_o (refine a3f rfl _ _ 24 24 rfl (.slice (some ⟨w.heap.size,(i+1)*6,none⟩) (n-i) (G-(i+1))) (.slice (some ⟨b,i*6,none⟩) (n-i) (c-i)) (by simp[Act.eval,Act.put]) (by simp[Act.eval,Act.put]) (hcpB (((w.alloc (.cells R.toArray 79)).drew.setRow w.heap.size M1.toArray).drew) (w.drew.alloc (.cells R.toArray 79)) rfl rfl 3 (G-(i+1)) (c-i)) ?_)
 go_wp2
 go_ret
 refine ⟨G,R,rfl,hge,hRl,hRt,?_,rfl,rfl,rfl⟩;rw[hMM];exact hfin _ (w.drew.alloc (.cells R.toArray 79)) rfl rfl
end
section
theorem a5s:∃i0 z,Tryz.prog.info? 77=some i0∧i0.zero=some z∧z.cells.size=6∧i0.size=6∧i0.bytes≤128:=by
 have h:(match Tryz.prog.info? 77 with|some i=>(match i.zero with|some z=>Nat.beq z.cells.size 6&&Nat.beq i.size 6&&Nat.ble i.bytes 128|none=>false)|none=>false)=true:=kr;split at h
 ·rename_i i hi;split at h
  ·rename_i z hz;simp only[yad]at h;exact ⟨i,z,hi,hz,ybo h.1.1,ybo h.1.2,yaY h.2⟩
  ·cases h
 ·cases h
set_option maxHeartbeats 4000000 in
set_option maxRecDepth 100000 in
theorem b0d {w:World} {b n c i vb vo vc:Nat} {L vs:List Value} {t:TypeId} (hi:i<n) (hroom:n+1≤c) (hlim:n+1≤1073741824) (hvb:vb≠b)
 (hb:w.heap[b]?=some (.cells L.toArray t (0,0))) (hL:L.length=c*6) (hvl:vs.length=6)
 (hvs:∀j v,vs[j]?=some v→w.cell? ⟨vb,vo+j,none⟩=some v) (h1:∀v∈(L.drop (i*6)).take ((n-i)*6),v.oneCell'=true) (h2:∀v∈vs,v.oneCell'=true) :
 Calls Tryz.prog 249 #[.slice (some ⟨b,0,none⟩) n c,.int .i64 i,.slice (some ⟨vb,vo,none⟩) 1 vc] w fun e w'=>
  e=.returned (.slice (some ⟨b,0,none⟩) (n+1) c)∧w'=(w.drew.setRow b (Go.splice L ((i+1)*6) ((L.drop (i*6)).take ((n-i)*6))).toArray).setRow b (Go.splice (Go.splice L ((i+1)*6) ((L.drop (i*6)).take ((n-i)*6))) (i*6) vs).toArray:=by
 obtain ⟨i0,z0,hi0,hz0,hzs,hsz,hby⟩:=a5s;have hz2:¬((i:Int)=(n:Int)):=by omega
 have hva:∃va ta fa,w.heap[vb]?=some (.cells va ta fa)∧0<va.size:=by
  have h:=hvs 0 _ (yab (by omega));unfold World.cell? at h;split at h
  ·rename_i c0 t0 f0 hc0;exact ⟨c0,t0,f0,hc0,by have:=(yah.1 h).1;omega⟩
  ·cases h
 obtain ⟨va,ta,fa,hva,hva0⟩:=hva;have hov:∀lb cb,(callFunc 284 #[.slice (some ⟨vb,vo,none⟩) 1 vc,.slice (some ⟨b,(i+1)*6,none⟩) lb cb]).run Tryz.prog w=.ok (.value (.bool false)) w:=fun lb cb=>by
  rw[run_callFunc_extern Tryz.func284 kr kr kr (e:=Extern.SlicesOverlaps.overlaps #[23,23] #[4]) kr,
   a3y Tryz.underlying23 hi0 (a:=⟨vb,vo,none⟩) (b:=⟨b,(i+1)*6,none⟩) hvb hva hva0 hb (by simp only[ybC];omega)]
  rfl
 have hLn:(n+1)*6≤L.length:=by rw[hL];exact yar _ hroom
 obtain ⟨C1,hC1⟩:∃C1,C1=(L.drop (i*6)).take ((n-i)*6):=⟨_,rfl⟩
 have hC1l:C1.length=(n-i)*6:=by rw[hC1];simp;omega
 obtain ⟨M1,hM1⟩:∃M1,M1=Go.splice L ((i+1)*6) C1:=⟨_,rfl⟩
 have hM1l:M1.length=L.length:=by rw[hM1];exact length_splice _ _ _ (by omega)
 rw[←hC1,←hM1];have hcp1:∀ty dc sc,(Builtin.copy_ #[23,23] ty #[.slice (some ⟨b,(i+1)*6,none⟩) (n-i) dc,.slice (some ⟨b,i*6,none⟩) (n+1-i) sc]).run Tryz.prog w.drew=.ok (goInt ((n-i:Nat):Int)) (w.drew.setRow b M1.toArray):=fun ty dc sc=>by
  have hmin:Nat.min (n+1-i) (n-i)=n-i:=by show min _ _=_;omega
  have:=a0p (P:=Tryz.prog) (w:=w.drew) (sT:=23) (ty:=ty) (dCap:=dc) (sCap:=sc) (dLen:=n-i) (sLen:=n+1-i) (o:=(i+1)*6) (a:=⟨b,i*6,none⟩) Tryz.underlying23 hi0 hsz hb (cs:=C1) (by rw[hmin];exact hC1l)
   (fun j v hj=>by
    rw[Addr.add_lit];show w.cell? _=_
    simp only[World.cell?,hb];rw[hC1,yaB]at hj;split at hj
    ·simpa using hj
    ·cases hj) (by omega) (by rw[hC1];exact h1)
  rw[hmin,←hM1]at this;exact this
 have hcp2:∀(W:World),W=(w.drew.setRow b M1.toArray)→∀ty dc,(Builtin.copy_ #[23,23] ty #[.slice (some ⟨b,i*6,none⟩) (n+1-i) dc,.slice (some ⟨vb,vo,none⟩) 1 vc]).run Tryz.prog W=.ok (goInt 1) (W.setRow b (Go.splice M1 (i*6) vs).toArray):=fun W hW ty dc=>by
  have hmin:Nat.min 1 (n+1-i)=1:=by show min _ _=_;omega
  have:=a0p (P:=Tryz.prog) (w:=W) (sT:=23) (ty:=ty) (dCap:=dc) (sCap:=vc) (dLen:=n+1-i) (sLen:=1) (o:=i*6) (a:=⟨vb,vo,none⟩) Tryz.underlying23 hi0 hsz (g:=b) (t:=t) (L:=M1) (by rw[hW];exact setRow_heap _ _ _ _ _ _ hb) (cs:=vs) (by rw[hmin];omega)
   (fun j v hj=>by
    rw[Addr.add_lit,hW,cell_setRow_other _ _ _ _ hvb];exact hvs j v hj) (by omega) h2
  rw[hmin]at this;exact this
 have hw1:IntKind.i64.wrap ((i:Int)+1)=(i:Int)+1:=by rw[IntKind.wrap_i64];omega
 have hb1:(0:Int)≤(i:Int)+1:=by omega
 have hin:i≤n:=by omega
 have htn:((i:Int)+1).toNat=i+1:=by omega
 have hb2:¬(c=i+1):=by omega
 have hb3:(i:Int)≤(n:Int)+1:=by omega
 have hb4:¬(c=i):=by omega
 have mixed:Tryz.prog.follows .mixedOrders=true:=kr;clear hC1 hM1 hC1l hM1l h1 h2 hvs hL
 go_enter Tryz.func249,Tryz.ntmps249
 go_wp2_with (simp only[hov])
 go_region_law_o (refine a3f rfl _ _ 23 23 rfl _ _ (by simp[Act.eval,Act.put]) (by simp[Act.eval,Act.put]) (hcp1 _ _ _) ?_)
 go_wp2_with (at_builtin;refine b3x rfl _ _ 23 23 rfl _ _ rfl rfl (hcp2 _ rfl _ _) ?_)
 go_ret
 exact ⟨rfl,rfl⟩
theorem a9q {i0:TypeInfo} {k c:Nat} (h:c<k) (hk:k≤1073741824) (hby:i0.bytes≤128):Builtin.nextslicecap k c*i0.bytes≤281474976710656:=
 growslice_fits h (yba (ybX hk hby) (by decide))
set_option maxHeartbeats 4000000 in
set_option maxRecDepth 100000 in
theorem b2b {w:World} {b n c vb vo vc:Nat} {L vs:List Value} {t:TypeId} (hroom:n+1≤c) (hlim:n+1≤1073741824)
 (hb:w.heap[b]?=some (.cells L.toArray t (0,0))) (hL:L.length=c*6) (hvl:vs.length=6)
 (hvs:∀j v,vs[j]?=some v→w.cell? ⟨vb,vo+j,none⟩=some v) (h2:∀v∈vs,v.oneCell'=true) :
 Calls Tryz.prog 249 #[.slice (some ⟨b,0,none⟩) n c,.int .i64 n,.slice (some ⟨vb,vo,none⟩) 1 vc] w fun e w'=>
  e=.returned (.slice (some ⟨b,0,none⟩) (n+1) c)∧w'=w.setRow b (Go.splice L (n*6) vs).toArray:=by
 obtain ⟨i0,z0,hi0,hz0,hzs,hsz,hby⟩:=a5s;have hLn:(n+1)*6≤L.length:=by rw[hL];exact yar _ hroom
 have hf:=run_firstCells_some (P:=Tryz.prog) w i0.size 1 ⟨vb,vo,none⟩ 1 vc vs (by omega) (fun j v hj=>by rw[Addr.add_lit];exact hvs j v hj);have hap:∀ty,(Builtin.append_ #[23,23] ty #[.slice (some ⟨b,0,none⟩) n c,.slice (some ⟨vb,vo,none⟩) 1 vc]).run Tryz.prog w=.ok (.slice (some ⟨b,0,none⟩) (n+1) c) (w.setRow b (Go.splice L (n*6) vs).toArray):=fun ty=>by
  have:=a16 (P:=Tryz.prog) (w:=w) (ty:=ty) (ts:=#[23,23]) rfl rfl Tryz.underlying23 Tryz.underlying23 hi0 hf hroom hb (by simp only[ybC];rw[hsz];omega) h2;rw[hsz]at this;simpa[Go.splice]using this
 go_enter Tryz.func249,Tryz.ntmps249
 go_wp2_with (at_builtin;refine a0q rfl _ _ _ _ rfl _ _ rfl rfl (hap _) ?_)
 all_goals (go_ret;exact ⟨rfl,rfl⟩)
set_option maxHeartbeats 4000000 in
set_option maxRecDepth 100000 in
theorem b4d {w:World} {base:Option Addr} {n c vb vo vc:Nat} {olds vs:List Value} (hnc:n≤c) (hroom:c<n+1) (hlim:n+1≤1073741824) (hvl:vs.length=6)
 (hnil:base=none→n=0) (hol:olds.length=n*6) (hos:∀a,base=some a→∀j v,olds[j]?=some v→w.cell? (a.add j)=some v)
 (hvs:∀j v,vs[j]?=some v→w.cell? ⟨vb,vo+j,none⟩=some v) :
 Calls Tryz.prog 249 #[.slice base n c,.int .i64 n,.slice (some ⟨vb,vo,none⟩) 1 vc] w fun e w'=>
  ∃cap zs,e=.returned (.slice (some ⟨w.heap.size,0,none⟩) (n+1) cap)∧w'=w.drew.alloc (.cells (olds++(vs++zs)).toArray 77)∧n+1≤cap∧zs.length=(cap-(n+1))*6:=by
 obtain ⟨i0,z0,hi0,hz0,hzs,hsz,hby⟩:=a5s;have hf:=run_firstCells_some (P:=Tryz.prog) w.drew i0.size 1 ⟨vb,vo,none⟩ 1 vc vs (by omega) (fun j v hj=>by rw[Addr.add_lit];exact hvs j v hj);have hold:(Builtin.firstCells i0.size n (.slice base n c)).run Tryz.prog w.drew=.ok olds.toArray w.drew:=by
  cases base with
  |none=>
   have h0:=hnil rfl;subst h0;rw[ybr.1 (by omega:olds.length=0)];exact run_firstCells_none w.drew _ 0 0 c
  |some a=>exact run_firstCells_some w.drew _ n a n c olds (by rw[hsz];omega) (fun j v hj=>hos a rfl j v hj)
 have hap:∀ty,(Builtin.append_ #[23,23] ty #[.slice base n c,.slice (some ⟨vb,vo,none⟩) 1 vc]).run Tryz.prog w=_:=fun ty=>
  a17 (P:=Tryz.prog) (w:=w) (ty:=ty) (ts:=#[23,23]) rfl rfl Tryz.underlying23 Tryz.underlying23 hi0 hz0 hf hold hroom (by omega) (a9q hroom hlim hby)
 have hge:=a1m w (n+1) c 77;obtain ⟨G,hG⟩:∃G,G=grownCap w (n+1) c 77:=⟨_,rfl⟩
 obtain ⟨zs,hzs'⟩:∃zs,zs=(Builtin.zeroCells z0.cells (G-(n+1))).toList:=⟨_,rfl⟩
 rw[←hG]at hap hge;rw[←hzs']at hap;have hzl:zs.length=(G-(n+1))*6:=by rw[hzs',ya6,size_zeroCells,hzs]
 clear hG hzs'
 go_enter Tryz.func249,Tryz.ntmps249
 cases base with
 |none=>
  have h0:=hnil rfl;subst h0
  go_wp2_with (at_builtin;refine a0q rfl _ _ _ _ rfl _ _ rfl rfl (hap _) ?_)
  all_goals (go_ret;first|exact ⟨_,_,rfl,rfl,hge,hzl⟩|exact ⟨_,rfl,_,rfl,hge,hzl⟩)
 |some a=>
  obtain ⟨ab,ao,asp⟩:=a
  go_wp2_with (at_builtin;refine a0q rfl _ _ _ _ rfl _ _ rfl rfl (hap _) ?_)
  all_goals (go_ret;first|exact ⟨_,_,rfl,rfl,hge,hzl⟩|exact ⟨_,rfl,_,rfl,hge,hzl⟩)
set_option maxHeartbeats 4000000 in
set_option maxRecDepth 100000 in
theorem b2a {w:World} {b n c i vb vo vc:Nat} {L vs:List Value} {t:TypeId} (hi:i<n) (hnc:n≤c) (hroom:c<n+1) (hlim:n+1≤1073741824) (hvb:vb≠b)
 (hb:w.heap[b]?=some (.cells L.toArray t (0,0))) (hL:L.length=c*6) (hvl:vs.length=6)
 (hvs:∀j v,vs[j]?=some v→w.cell? ⟨vb,vo+j,none⟩=some v) (h1:∀v∈(L.drop (i*6)).take ((n-i)*6),v.oneCell'=true) (h2:∀v∈vs,v.oneCell'=true) :
 Calls Tryz.prog 249 #[.slice (some ⟨b,0,none⟩) n c,.int .i64 i,.slice (some ⟨vb,vo,none⟩) 1 vc] w fun e w'=>
  ∃cap row,e=.returned (.slice (some ⟨w.heap.size,0,none⟩) (n+1) cap)∧n+1≤cap∧row.length=cap*6∧row.take (i*6)=L.take (i*6)∧
   w'.heap=(w.heap.push (.cells (Go.splice (Go.splice row (i*6) vs) ((i+1)*6) ((L.drop (i*6)).take ((n-i)*6))).toArray 77))∧w'.os=w.os∧w'.output=w.output∧w'.tape=w.tape:=by
 obtain ⟨i0,z0,hi0,hz0,hzs,hsz,hby⟩:=a5s;have hz2:¬((i:Int)=(n:Int)):=by omega
 have hz3:(c:Int)<(n:Int)+1:=by omega
 have hLn:n*6≤L.length:=by rw[hL];exact yar _ hnc
 have hbw:b<w.heap.size:=(yah.1 hb).1;have hvw:vb<w.heap.size:=by
  have h:=hvs 0 _ (yab (by omega));unfold World.cell? at h;split at h
  ·rename_i c0 t0 f0 hc0;exact (yah.1 hc0).1
  ·cases h
 have hkk:(n:Int)+1-(i:Int)=((n+1-i:Nat):Int):=by omega
 have hik:i+(n+1-i)=n+1:=by omega
 have hTl:(L.take (i*6)).length=i*6:=by simp;omega
 have hold:(Builtin.firstCells i0.size i (.slice (some ⟨b,0,none⟩) i c)).run Tryz.prog w.drew=.ok (L.take (i*6)).toArray w.drew:=by
  refine run_firstCells_some w.drew _ i ⟨b,0,none⟩ i c (L.take (i*6)) (by rw[hsz];exact hTl) (fun j v hj=>?_);rw[Addr.add_lit,yaH];show w.cell? _=_
  simp only[World.cell?,hb];rw[yaB]at hj;split at hj
  ·simpa using hj
  ·cases hj
 have hrz:∀ty,(Builtin.append_ #[23,3] ty #[.slice (some ⟨b,0,none⟩) i c,.int .i64 ((n:Int)+1-(i:Int))]).run Tryz.prog w =
  .ok (.slice (some ⟨w.heap.size,0,none⟩) (n+1) (grownCap w (n+1) c 77)) (w.drew.alloc (.cells ((L.take (i*6)).toArray++Builtin.zeroCells z0.cells (n+1-i)++Builtin.zeroCells z0.cells (grownCap w (n+1) c 77-(n+1))) 77)):=fun ty=>by
  have h:=Lib.run_append_grow_zeros w 23 3 ty 77 i0 _ .i64 .i64 Tryz.underlying23 Tryz.underlying3 hi0 hz0 (some ⟨b,0,none⟩) i c _ hold (n+1-i) (by omega) (by omega) (by omega) (by omega)
   (yba (ybX (show n+1-i≤1073741824 by omega) hby) (by decide)) (by rw[hik];exact a9q hroom hlim hby)
  rw[hik]at h;rw[hkk];exact h
 have hge:=a1m w (n+1) c 77;obtain ⟨G,hG⟩:∃G,G=grownCap w (n+1) c 77:=⟨_,rfl⟩
 rw[←hG]at hrz hge;have hG63:G≤9223372036854775807:=by
  have:=grownCap_le_maxLen w (n+1) c 77 (by unfold maxLen;omega);rw[←hG]at this;unfold maxLen at this;omega
 obtain ⟨R,hR⟩:∃R:List Value,R=L.take (i*6)++((Builtin.zeroCells z0.cells (n+1-i)).toList++(Builtin.zeroCells z0.cells (G-(n+1))).toList):=⟨_,rfl⟩
 have hRl:R.length=G*6:=by
  rw[hR];simp only[yaP,ya6,size_zeroCells,hzs,hTl];rw[←ya3,←ya3];congr 1;omega
 have hRt:R.take (i*6)=L.take (i*6):=by rw[hR,List.take_append_of_le_length (by omega),ybY (by omega)]
 have hRe:(L.take (i*6)).toArray++Builtin.zeroCells z0.cells (n+1-i)++Builtin.zeroCells z0.cells (G-(n+1))=R.toArray:=by
  rw[hR];apply Array.ext';simp
 rw[hRe]at hrz;obtain ⟨C1,hC1⟩:∃C1,C1=(L.drop (i*6)).take ((n-i)*6):=⟨_,rfl⟩
 have hC1l:C1.length=(n-i)*6:=by rw[hC1];simp;omega
 have hGn:(n+1)*6≤R.length:=by rw[hRl];exact yar _ hge
 obtain ⟨M1,hM1⟩:∃M1,M1=Go.splice R (i*6) vs:=⟨_,rfl⟩
 have hM1l:M1.length=R.length:=by rw[hM1];exact length_splice _ _ _ (by omega)
 rw[←hC1];obtain ⟨gb,hgb⟩:∃gb,gb=w.heap.size:=⟨_,rfl⟩
 have hnew:∀W:World,W.heap=w.heap.push (.cells R.toArray 77)→W.heap[gb]?=some (.cells R.toArray 77 (0,0)):=fun W hW=>by rw[hW,hgb];simp
 have hpast:∀W:World,W.heap=w.heap.push (.cells R.toArray 77)→∀k,k<w.heap.size→W.heap[k]?=w.heap[k]?:=fun W hW k hk=>by rw[hW,ybB hk];simp[hk]
 have hcpA:∀(W:World),W.heap=w.heap.push (.cells R.toArray 77)→∀ty dc,(Builtin.copy_ #[23,23] ty #[.slice (some ⟨gb,i*6,none⟩) (n+1-i) dc,.slice (some ⟨vb,vo,none⟩) 1 vc]).run Tryz.prog W=.ok (goInt 1) (W.setRow gb M1.toArray):=fun W hW ty dc=>by
  have hmin:Nat.min 1 (n+1-i)=1:=by show min _ _=_;omega
  have:=a0p (P:=Tryz.prog) (w:=W) (sT:=23) (ty:=ty) (dCap:=dc) (sCap:=vc) (dLen:=n+1-i) (sLen:=1) (o:=i*6) (a:=⟨vb,vo,none⟩) Tryz.underlying23 hi0 hsz (g:=gb) (t:=77) (L:=R) (hnew W hW) (cs:=vs) (by rw[hmin];omega)
   (fun j v hj=>by
    rw[Addr.add_lit];unfold World.cell?;rw[show W.heap[(⟨vb,vo+j,none⟩:Addr).block]?=w.heap[vb]? from hpast W hW vb hvw];exact hvs j v hj) (by omega) h2
  rw[hmin,←hM1]at this;exact this
 have hcpB:∀(W W0:World),W0.heap=w.heap.push (.cells R.toArray 77)→W.heap=(W0.setRow gb M1.toArray).heap→∀ty dc sc,(Builtin.copy_ #[23,23] ty #[.slice (some ⟨gb,(i+1)*6,none⟩) (n-i) dc,.slice (some ⟨b,i*6,none⟩) (n-i) sc]).run Tryz.prog W=.ok (goInt ((n-i:Nat):Int)) (W.setRow gb (Go.splice M1 ((i+1)*6) C1).toArray):=fun W W0 hW0 hW ty dc sc=>by
  have hmin:Nat.min (n-i) (n-i)=n-i:=by show min _ _=_;omega
  have:=a0p (P:=Tryz.prog) (w:=W) (sT:=23) (ty:=ty) (dCap:=dc) (sCap:=sc) (dLen:=n-i) (sLen:=n-i) (o:=(i+1)*6) (a:=⟨b,i*6,none⟩) Tryz.underlying23 hi0 hsz (g:=gb) (t:=77) (L:=M1) (by rw[hW];exact setRow_heap _ _ _ _ _ _ (hnew W0 hW0)) (cs:=C1) (by rw[hmin];exact hC1l)
   (fun j v hj=>by
    rw[Addr.add_lit];unfold World.cell?;have e:W.heap[(⟨b,i*6+j,none⟩:Addr).block]?=w.heap[b]?:=by
     show W.heap[b]?=_
     rw[hW,setRow_other _ _ _ _ (by omega),hpast W0 hW0 b hbw]
    rw[e,hb];rw[hC1,yaB]at hj;split at hj
    ·simpa using hj
    ·cases hj) (by omega) (by rw[hC1];exact h1)
  rw[hmin]at this;exact this
 have hw1:IntKind.i64.wrap ((i:Int)+1)=(i:Int)+1:=by rw[IntKind.wrap_i64];omega
 have hb1:(0:Int)≤(i:Int)+1:=by omega
 have hin:i≤n:=by omega
 have htn:((i:Int)+1).toNat=i+1:=by omega
 have hb3:(i:Int)≤(n:Int):=by omega
 have hGi:¬(G=i):=by omega
 have hGim:¬(G=i+1):=by omega
 have hci:¬(c=i):=by omega
 have hmixed:Tryz.prog.follows .mixedOrders=true:=kr;have mixed:=hmixed;have hfin:∀W W0:World,W0.heap=w.heap.push (.cells R.toArray 77)→W.heap=(W0.setRow gb M1.toArray).heap→(W.setRow gb (Go.splice M1 ((i+1)*6) C1).toArray).heap=w.heap.push (.cells (Go.splice M1 ((i+1)*6) C1).toArray 77):=fun W W0 hW0 hW=>by
  have h1:W.heap[gb]?=some (.cells M1.toArray 77 (0,0)):=by rw[hW];exact setRow_heap _ _ _ _ _ _ (hnew W0 hW0)
  have hsz0:W.heap.size=w.heap.size+1:=by rw[hW,setRow_size,hW0];simp
  apply Array.ext_getElem?;intro k;by_cases hk:k=gb
  ·subst hk;rw[setRow_heap _ _ _ _ _ _ h1,hgb];simp
  ·rw[setRow_other _ _ _ _ hk];by_cases hk2:k<w.heap.size
   ·rw[hW,setRow_other _ _ _ _ hk,hpast W0 hW0 k hk2,ybB hk2];simp[hk2]
   ·rw[ybm (by omega),ybm (by simp;omega)]
 have hMM:Go.splice (Go.splice R (i*6) vs) ((i+1)*6) C1=Go.splice M1 ((i+1)*6) C1:=by rw[hM1]
 subst hgb;have hcpA':=hcpA ((w.alloc (.cells R.toArray 77)).drew) rfl;clear hkk hcpA hik hold hG hR hRe hC1 hM1 hC1l hM1l h1 h2 hvs hL hTl
 go_enter Tryz.func249,Tryz.ntmps249
 go_wp2_with (at_builtin;refine a0q rfl _ _ _ _ rfl _ _ rfl rfl (hrz _) ?_)
 go_region_law_o (refine a3f rfl _ _ 23 23 rfl (.slice (some ⟨w.heap.size,(i+1)*6,none⟩) (n-i) (G-(i+1))) (.slice (some ⟨b,i*6,none⟩) (n-i) (c-i)) (by simp[Act.eval,Act.put]) (by simp[Act.eval,Act.put]) (hcpB (((w.alloc (.cells R.toArray 77)).drew.setRow w.heap.size M1.toArray).drew) (w.drew.alloc (.cells R.toArray 77)) rfl rfl 3 (G-(i+1)) (c-i)) ?_)
 go_wp2
 go_ret
 refine ⟨G,R,rfl,hge,hRl,hRt,?_,rfl,rfl,rfl⟩;rw[hMM];exact hfin _ (w.drew.alloc (.cells R.toArray 77)) rfl rfl
end
section
theorem d1g:∃i0 z,Tryz.prog.info? 79=some i0∧i0.zero=some z∧z.cells.size=6∧i0.size=6∧∀v∈z.cells,v.oneCell'=true:=by
 have h:(match Tryz.prog.info? 79 with|some i=>(match i.zero with|some z=>Nat.beq z.cells.size 6&&Nat.beq i.size 6&&z.cells.toList.all (·.oneCell')|none=>false)|none=>false)=true:=kr;split at h
 ·rename_i i hi;split at h
  ·rename_i z hz;simp only[yad]at h;exact ⟨i,z,hi,hz,ybo h.1.1,ybo h.1.2,fun v hv=>yaj.1 h.2 v (by simpa using hv)⟩
  ·cases h
 ·cases h
set_option maxHeartbeats 4000000 in
set_option maxRecDepth 100000 in
theorem b7j {w:World} {base:Option Addr} {n c i:Nat} (hnc:n≤c) (hi:i≤n) :
 Calls Tryz.prog 313 #[.slice base n c,.int .i64 i,.int .i64 i] w fun e w'=>e=.returned (.slice base n c)∧w'=w:=by
 cases base with
 |none=>
  go_enter Tryz.func313,Tryz.ntmps313
  go_wp2
  all_goals (go_ret;exact ⟨rfl,rfl⟩)
 |some a=>
  obtain ⟨ab,ao,asp⟩:=a
  go_enter Tryz.func313,Tryz.ntmps313
  go_wp2
  all_goals (go_ret;exact ⟨rfl,rfl⟩)
set_option maxHeartbeats 4000000 in
set_option maxRecDepth 100000 in
theorem b7k {w:World} {b n c i j:Nat} {L:List Value} {t:TypeId} (hij:i<j) (hj:j≤n) (hnc:n≤c)
 (hb:w.heap[b]?=some (.cells L.toArray t (0,0))) (hL:L.length=c*6) (h1:∀v∈(L.drop (j*6)).take ((n-j)*6),v.oneCell'=true) :
 Calls Tryz.prog 313 #[.slice (some ⟨b,0,none⟩) n c,.int .i64 i,.int .i64 j] w fun e w'=>
  e=.returned (.slice (some ⟨b,0,none⟩) (i+(n-j)) c)∧∃(M0:Array Value) (zs:List Value),zs.length=(j-i)*6∧w'=(w.drew.setRow b M0).setRow b (Go.splice (Go.splice L (i*6) ((L.drop (j*6)).take ((n-j)*6))) ((i+(n-j))*6) zs).toArray:=by
 obtain ⟨i0,z0,hi0,hz0,hzs,hsz,hz1⟩:=d1g;have hLn:n*6≤L.length:=by rw[hL];exact yar _ hnc
 obtain ⟨C1,hC1⟩:∃C1,C1=(L.drop (j*6)).take ((n-j)*6):=⟨_,rfl⟩
 have hC1l:C1.length=(n-j)*6:=by rw[hC1];simp;omega
 obtain ⟨M1,hM1⟩:∃M1,M1=Go.splice L (i*6) C1:=⟨_,rfl⟩
 have hM1l:M1.length=L.length:=by rw[hM1];exact length_splice _ _ _ (by omega)
 rw[←hC1,←hM1];obtain ⟨A,hA,hsrc⟩:∃A:Addr,(if c=j then some (⟨b,0,none⟩:Addr) else some ⟨b,j*6,none⟩)=some A∧∀q v,C1[q]?=some v→w.drew.cell? (A.add q)=some v:=by
  by_cases h:c=j
  ·refine ⟨⟨b,0,none⟩,by simp[h],fun q v hq=>?_⟩;have:=(zL hq)
   omega
  ·refine ⟨⟨b,j*6,none⟩,by simp[h],fun q v hq=>?_⟩;rw[Addr.add_lit];show w.cell? _=_
   simp only[World.cell?,hb];rw[hC1,yaB]at hq;split at hq
   ·simpa using hq
   ·cases hq
 have hf:∀xc,(Builtin.firstCells i0.size (n-j) (.slice (some A) (n-j) xc)).run Tryz.prog w.drew=.ok C1.toArray w.drew:=fun xc=>run_firstCells_some (P:=Tryz.prog) w.drew i0.size (n-j) A (n-j) xc C1 (by rw[hsz];exact hC1l) hsrc
 have hone:∀v∈C1,v.oneCell'=true:=by rw[hC1];exact h1
 have hap:∀ty xc,(Builtin.append_ #[24,24] ty #[.slice (some ⟨b,0,none⟩) i c,.slice (some A) (n-j) xc]).run Tryz.prog w.drew=.ok (.slice (some ⟨b,0,none⟩) (i+(n-j)) c) (w.drew.setRow b M1.toArray):=fun ty xc=>by
  have:=a16 (P:=Tryz.prog) (w:=w.drew) (ty:=ty) (ts:=#[24,24]) rfl rfl Tryz.underlying24 Tryz.underlying24 hi0 (hf xc) (sLen:=i) (sCap:=c) (by omega) hb (by simp only[ybC];rw[hsz];omega) hone;rw[hsz]at this;rw[hM1];simpa[Go.splice]using this
 obtain ⟨zs,hzs'⟩:∃zs,zs=(Builtin.zeroCells z0.cells (j-i)).toList:=⟨_,rfl⟩
 have hzl:zs.length=(j-i)*6:=by rw[hzs',ya6,Go.size_zeroCells,hzs]
 have hcl:∀ty cc,(Builtin.clear_ #[24] ty #[.slice (some ⟨b,(i+(n-j))*6,none⟩) (n-(i+(n-j))) cc]).run Tryz.prog (w.drew.setRow b M1.toArray)=.ok (.tuple #[]) ((w.drew.setRow b M1.toArray).setRow b (Go.splice M1 ((i+(n-j))*6) zs).toArray):=fun ty cc=>by
  have e:n-(i+(n-j))=j-i:=by omega
  rw[e,hzs'];exact c6c (P:=Tryz.prog) (w:=w.drew.setRow b M1.toArray) Tryz.underlying24 hi0 hz0 (by omega) (setRow_heap _ _ _ _ _ _ hb) (by rw[hzs];omega) hz1
 have hic:i≤c:=by omega
 have hjc:j≤c:=by omega
 have mixed:Tryz.prog.follows .mixedOrders=true:=kr;clear hC1 hM1 hC1l hM1l h1 hL hf hone hzs'
 go_enter Tryz.func313,Tryz.ntmps313
 go_wp2_with fail
 go_region_law_o (refine d3n rfl (.tmp 22) (.tmp 25) 24 24 rfl (.slice (some ⟨b,0,none⟩) i c) (.slice (some A) (n-j) (c-j)) (by simp[Act.eval,Act.put]) (by simp[Act.eval,Act.put]) (hap _ _) ?_)
 go_wp2
 go_ret
 exact ⟨rfl,_,zs,hzl,rfl⟩
end
end Go.Proofs.YteaknldbhmocpaaGreatDoor
namespace Go.Proofs
open Go.Shelf
def Tryz.laysM171_ren:Go.Shelf.Ren:=⟨fun|171=>46|243=>94|246=>158|283=>227|284=>228|285=>229|286=>230|129=>144|317=>276|318=>277|319=>278|320=>279|337=>300|338=>301|n=>n,fun|3=>3|9=>9|2=>2|4=>4|171=>224|0=>0|53=>166|37=>226|5=>5|173=>227|212=>254|51=>164|20=>20|213=>255|46=>110|232=>296|233=>297|n=>n,fun|17=>0|18=>4|19=>5|n=>n⟩
theorem Tryz.laysM171:Go.Proofs.LaysM.n171 Tryz.prog Tryz.laysM171_ren:={
 mixed:=by kernel_rfl
 f129:=Tryz.func144.trans (congrArg some (by kernel_rfl))
 f171:=Tryz.func46.trans (congrArg some (by kernel_rfl))
 f243:=Tryz.func94.trans (congrArg some (by kernel_rfl))
 f246:=Tryz.func158.trans (congrArg some (by kernel_rfl))
 f283:=Tryz.func227.trans (congrArg some (by kernel_rfl))
 f284:=Tryz.func228.trans (congrArg some (by kernel_rfl))
 f285:=Tryz.func229.trans (congrArg some (by kernel_rfl))
 f286:=Tryz.func230.trans (congrArg some (by kernel_rfl))
 f317:=Tryz.func276.trans (congrArg some (by kernel_rfl))
 f318:=Tryz.func277.trans (congrArg some (by kernel_rfl))
 f319:=Tryz.func278.trans (congrArg some (by kernel_rfl))
 f320:=Tryz.func279.trans (congrArg some (by kernel_rfl))
 f337:=Tryz.func300.trans (congrArg some (by kernel_rfl))
 f338:=Tryz.func301.trans (congrArg some (by kernel_rfl))
 t0:=Tryz.underlying0
 a0:=Tryz.isAgg0
 z0:=Tryz.sizeOf0
 v0:=Tryz.zeroValue0
 t2:=Tryz.underlying2
 a2:=Tryz.isAgg2
 z2:=Tryz.sizeOf2
 v2:=Tryz.zeroValue2
 t3:=Tryz.underlying3
 a3:=Tryz.isAgg3
 z3:=Tryz.sizeOf3
 v3:=Tryz.zeroValue3
 t4:=Tryz.underlying4
 a4:=Tryz.isAgg4
 z4:=Tryz.sizeOf4
 v4:=Tryz.zeroValue4
 t5:=Tryz.underlying5
 a5:=Tryz.isAgg5
 z5:=Tryz.sizeOf5
 v5:=Tryz.zeroValue5
 t9:=Tryz.underlying9
 a9:=Tryz.isAgg9
 z9:=Tryz.sizeOf9
 v9:=Tryz.zeroValue9
 t20:=Tryz.underlying20
 a20:=Tryz.isAgg20
 z20:=Tryz.sizeOf20
 v20:=Tryz.zeroValue20
 t37:=Tryz.underlying226
 a37:=Tryz.isAgg226
 z37:=Tryz.sizeOf226
 v37:=Tryz.zeroValue226
 t46:=Tryz.underlying110
 a46:=Tryz.isAgg110
 z46:=Tryz.sizeOf110
 v46:=Tryz.zeroValue110
 t51:=Tryz.underlying164
 a51:=Tryz.isAgg164
 z51:=Tryz.sizeOf164
 v51:=Tryz.zeroValue164
 t53:=Tryz.underlying166
 a53:=Tryz.isAgg166
 z53:=Tryz.sizeOf166
 v53:=Tryz.zeroValue166
 t171:=Tryz.underlying224
 a171:=Tryz.isAgg224
 z171:=Tryz.sizeOf224
 v171:=Tryz.zeroValue224
 t173:=Tryz.underlying227
 a173:=Tryz.isAgg227
 z173:=Tryz.sizeOf227
 v173:=Tryz.zeroValue227
 t212:=Tryz.underlying254
 a212:=Tryz.isAgg254
 z212:=Tryz.sizeOf254
 v212:=Tryz.zeroValue254
 t213:=Tryz.underlying255
 a213:=Tryz.isAgg255
 z213:=Tryz.sizeOf255
 t232:=Tryz.underlying296
 a232:=Tryz.isAgg296
 z232:=Tryz.sizeOf296
 v232:=Tryz.zeroValue296
 t233:=Tryz.underlying297
 a233:=Tryz.isAgg297
 z233:=Tryz.sizeOf297
 v233:=Tryz.zeroValue297
 g17:=by kernel_rfl
 g18:=by kernel_rfl
 g19:=by kernel_rfl
 i0:=by kernel_rfl
 i2:=by kernel_rfl
 i3:=by kernel_rfl
 i4:=by kernel_rfl
 i5:=by kernel_rfl
 i9:=by kernel_rfl
 i20:=by kernel_rfl
 i37:=by kernel_rfl
 i46:=by kernel_rfl
 i51:=by kernel_rfl
 i53:=by kernel_rfl
 i171:=by kernel_rfl
 i173:=by kernel_rfl
 i212:=by kernel_rfl
 i232:=by kernel_rfl
 i233:=by kernel_rfl
 m17:=by kernel_rfl
 m18:=by kernel_rfl
 m19:=by kernel_rfl}
open Go.RowKit Go.Sort Go.Lib in
theorem Tryz.qd6 (n:Int) (h0 : -9223372036854775808≤n) (h1:n≤9223372036854775807) (w:World) (htab:Lib.TabIs Tryz.prog w "internal/strconv.uint64pow10" .u64 Lib.pow10Tab) :
 Calls Tryz.prog 46 #[.int .i64 n] w fun e w'=>e=.returned (.string ⟨(Lib.itoa n).toArray⟩)∧∃k os,w'=grow (w.drewN k) os:=Any.strconv_Itoa Tryz.laysM171 n h0 h1 w htab
end Go.Proofs
namespace Go.Proofs.YteaknldbhmocpaaGreatDoor
section
open Go Ev
open Go.Lib Go.RowKit
set_option maxRecDepth 100000
theorem e58:∀(f u:Nat) (a:List UInt8),u<10 ^ f→g4w f u a=if f=0 then a else Lib.decDigits u++a:=by
 intro f
 induction f with
 |zero=>intro u a _;rfl
 |succ f ih=>
  intro u a h;rw[yas (by omega),Lib.decDigits];simp only[g4w,c4,yae];by_cases h1:u<10
  ·rw[yaK h1,dif_pos h1];rfl
  ·rw[yas h1,dif_neg h1,ih _ _ (by rw[Nat.pow_succ]at h;omega)];have hf:f≠0:=fun e=>by subst e;simp at h;omega
   rw[yas hf,ybl];rfl
theorem f9x {n:Int} {s:List UInt8} (h:qd6 n=some s):(-9223372036854775808≤n∧n≤9223372036854775807)∧s=Lib.itoa n:=by
 unfold qd6 at h;rw[c4]at h;split at h
 ·rename_i hr;rw[yad,yae,yae]at hr;cases h
  refine ⟨hr,?_⟩;have hd:g4w 20 n.natAbs []=Lib.decDigits n.natAbs:=by
   rw[e58 20 _ _ (by have:(10:Nat) ^ 20=100000000000000000000:=rfl;omega)];simp
  unfold Lib.itoa;rw[hd,c4];by_cases hn:n<0
  ·simp[hn]
  ·simp only[hn,decide_false,ybf,yay];rw[show n.toNat=n.natAbs by omega]
 ·cases h
theorem d3o {w:World} {I:Nat→Nat→Prop} {mb:List Nat} (h:b3z sg w I) (hb:d0i sg w mb):Lib.TabIs Tryz.prog w "internal/strconv.uint64pow10" .u64 Lib.pow10Tab:=by
 obtain ⟨-,cs,t,m,h1,h2⟩:=hb 0 .ku64 g9 kr kr;unfold Lib.TabIs World.var?;rw[show Tryz.prog.globalNamed "internal/strconv.uint64pow10" = some 0 by kernel_rfl];simp only[ybU,h1];have hlen:g9.length=20:=by simp[g9]
 replace h2:cs.size=g9.length*1:=h2;refine congrArg some (Array.ext ?_ (fun i hi1 hi2=>?_))
 ·rw[h2];simp[hlen,Lib.pow10Tab]
 ·have hl:i<g9.length:=by omega
  obtain ⟨v,k1,-,k3⟩:=h 0 .ku64 g9 kr i hl 0 (.int .u64 g9[i]) rfl;rw[k3.int_inv]at k1;replace k1:w.cell? ⟨0,i*1+0,none⟩=some (.int .u64 g9[i]):=k1;rw[yb4,ybe]at k1;unfold World.cell? at k1;simp only[h1]at k1;have e:cs[i]=.int .u64 g9[i]:=by simpa[hi1]using k1
  rw[e];simp[g9,Lib.pow10Tab]
theorem f9v {w:World} {I J:Nat→Nat→Prop} {vs:Array Value} {n:Int} (ha:b6v sg w I J vs [.int .i64 n]):vs = #[.int .i64 n]:=by
 obtain ⟨h1,h2⟩:=ha;have h1:vs.size=1:=h1;have h0:=h2 0 vs[0] (.int .i64 n) (yao (by omega)) rfl;apply Array.ext
 ·simp[h1]
 ·intro i hi1 hi2;have:i=0:=by omega
  subst this;simpa using h0.int_inv
theorem h1r:fnB Tryz.prog 46 Tryz.f46 []=true:=kr
theorem f75:∀ds a r,d4j.dec ds=some a→f14 a=some r→Con Tryz.prog sg 46 ds [] (f3r.enc r) []:=by
 intro ds a r hd hf;obtain ⟨code,fok,-,-⟩:=y3 Tryz.func46 h1r;have hac:j8 d4j:=j8.cons (f8.int _) j8.nil;have hw:=hac ds a hd;obtain ⟨n,⟨⟩⟩:=a;unfold Con;rw[show sg.md 46=.data by kernel_rfl];intro _ w I J vs hp ha;have hv:=f9v (n:=n) (hw.args ha);subst hv;obtain ⟨⟨h1,h2⟩,hr⟩:=f9x (n:=n) (s:=r) hf;subst hr;unfold a1v;rw[MuLone.run_callFunc_enter fok.at_ fok.name fok.body _ w];refine (Tryz.qd6 n h1 h2 w (d3o hp.gl hp.gb)).mono ?_;rintro e w' ⟨rfl,k,os,rfl⟩;have hb:=below_grow w.heap.size w (yau _) k os;exact ⟨I,⟨hb.size,hb.os,hb.output,hb.tape,hb.block,fun _ _ h=>h,fun _ _ h=>.inl h,fun b o hi=>yaZ (hp.ib b o hi) hb.size⟩,.str ⟨(Lib.itoa n).toArray⟩⟩
end
section
set_option maxRecDepth 100000
open Ev
open Go
theorem g7g:fnB Tryz.prog 121 Tryz.f121 []=true:=kr
theorem d1o:InsOk Tryz.prog 121 (sg.sz Kd.kItem) 61:=⟨b4b,b7v,c0r,b7u⟩
theorem f70:∀ds a r,d4i.dec ds=some a→f13 a=some r→Con Tryz.prog sg 121 ds [] (f3q.enc r) []:=by
 intro ds a r hd hf;obtain ⟨code,fok,-,-⟩:=y3 Tryz.func121 g7g;have hac:j8 d4i:=j8.cons (f8.lst _) (j8.cons (f8.int _) (j8.cons (f8.lst _) j8.nil));exact b7d good.sgk fok kr d1o (hac ds a hd) hf
theorem g7m:fnB Tryz.prog 249 Tryz.f249 []=true:=kr
theorem c0q:InsOk Tryz.prog 249 (sg.sz Kd.kPatron) 77:=⟨b0d,b2b,b4d,b2a⟩
theorem f8f:∀ds a r,d4l.dec ds=some a→f17 a=some r→Con Tryz.prog sg 249 ds [] (e0v.enc r) []:=by
 intro ds a r hd hf;obtain ⟨code,fok,-,-⟩:=y3 Tryz.func249 g7m;have hac:j8 d4l:=j8.cons (f8.lst _) (j8.cons (f8.int _) (j8.cons (f8.lst _) j8.nil));exact b7d good.sgk fok kr c0q (hac ds a hd) hf
theorem g7j:fnB Tryz.prog 201 Tryz.f201 []=true:=kr
theorem d1p:InsOk Tryz.prog 201 (sg.sz Kd.kLoan) 79:=⟨b4c,b7x,c0s,b7w⟩
theorem f7z:∀ds a r,d4h.dec ds=some a→f11 a=some r→Con Tryz.prog sg 201 ds [] (f3p.enc r) []:=by
 intro ds a r hd hf;obtain ⟨code,fok,-,-⟩:=y3 Tryz.func201 g7j;have hac:j8 d4h:=j8.cons (f8.lst _) (j8.cons (f8.int _) (j8.cons (f8.lst _) j8.nil));exact b7d good.sgk fok kr d1p (hac ds a hd) hf
theorem g7p:fnB Tryz.prog 313 Tryz.f313 []=true:=kr
theorem d1f:DelOk Tryz.prog 313 (sg.sz Kd.kLoan):=⟨b7j,b7k⟩
theorem d58:∀ds a r,d4c.dec ds=some a→f1z a=some r→Con Tryz.prog sg 313 ds [] (f3i.enc r) []:=by
 intro ds a r hd hf;obtain ⟨code,fok,-,-⟩:=y3 Tryz.func313 g7p;have hac:j8 d4c:=j8.cons (f8.lst _) (j8.cons (f8.int _) (j8.cons (f8.int _) j8.nil));exact e56 good.sgk fok kr d1f (hac ds a hd) hf
end
section
open Go Ev
open Go.Lib Go.RowKit
set_option maxRecDepth 100000
theorem b8s {w:World} {I:Nat→Nat→Prop} (h:b3z sg w I):Lib.Utf8Tabs 1 2 w:=by
 constructor
 ·intro c hc;have hl:c<u3.length:=by simp[u3];exact hc
  obtain ⟨v,h1,-,h3⟩:=h 1 .ku8 u3 kr c hl 0 (.int .u8 u3[c]) rfl;rw[h3.int_inv]at h1;have e:u3[c]=(Lib.firstT c:Int):=by simp[u3]
  rw[e]at h1;have h1:w.cell? ⟨1,c*1+0,none⟩=_:=h1;rw[yb4,ybe]at h1;exact h1
 ·intro i hi;have hl:i<j5.length:=by simp[j5];exact hi
  obtain ⟨v,h1,-,h3⟩:=h 2 .kUtf8_acceptRange j5 kr i hl 0 (.int .u8 j5[i].lo) rfl;obtain ⟨v',k1,-,k3⟩:=h 2 .kUtf8_acceptRange j5 kr i hl 1 (.int .u8 j5[i].hi) rfl;rw[h3.int_inv]at h1;rw[k3.int_inv]at k1;have e:j5[i]=⟨(Lib.accLo i:Int),(Lib.accHi i:Int)⟩:=by simp[j5]
  rw[e]at h1 k1;have h1:w.cell? ⟨2,i*2+0,none⟩=_:=h1;have k1:w.cell? ⟨2,i*2+1,none⟩=_:=k1;rw[ybR,ybe]at h1;rw[ybR]at k1;exact ⟨h1,k1⟩
theorem b45 {w w':World} {I:Nat→Nat→Prop} (hi:∀b o,I b o→b<w.heap.size) (h:Below w.heap.size w w'):Grow w w' I I:=
 ⟨h.size,h.os,h.output,h.tape,h.block,fun _ _ h=>h,fun _ _ h=>.inl h,fun b o hb=>yaZ (hi b o hb) h.size⟩
theorem e3k {w:World} {I J:Nat→Nat→Prop} {vs:Array Value} {l:List UInt8} (ha:b6v sg w I J vs [.str l]):∃b:ByteArray,vs = #[.string b]∧l=b.data.toList:=by
 obtain ⟨h1,h2⟩:=ha;have h1:vs.size=1:=h1;have h0:=h2 0 vs[0] (.str l) (yao (by omega)) rfl;generalize hv:vs[0]=v at h0;cases h0 with
 |str b=>
  refine ⟨b,?_,rfl⟩;apply Array.ext
  ·simp[h1]
  ·intro i hi1 hi2;have:i=0:=by omega
   subst this;simpa using hv
theorem g7h:fnB Tryz.prog 159 Tryz.f159 [4]=true:=kr
theorem c4k:∀ds a r,d4e.dec ds=some a→f10 a=some r→Con Tryz.prog sg 159 ds [] (f3k.enc r) []:=by
 intro ds a r hd hf;obtain ⟨code,fok,-,-⟩:=y3 Tryz.func159 g7h;have hac:j8 d4e:=j8.cons f8.str j8.nil;have hw:=hac ds a hd;obtain ⟨l,⟨⟩⟩:=a;unfold Con;rw[show sg.md 159=.data by kernel_rfl];intro _ w I J vs hp ha;obtain ⟨b,rfl,rfl⟩:=e3k (l:=l) (hw.args ha);replace hf:(bif decide (b.data.toList.length≤LIM) then some (vld b.data.toList) else none)=some r:=hf;rw[c4]at hf;split at hf
 ·rename_i hle;cases hf
  rw[yae,←Lib.size_eq]at hle;unfold a1v;rw[MuLone.run_callFunc_enter fok.at_ fok.name fok.body _ w];refine (d3r b w hle (b8s hp.gl)).mono ?_;rintro e w' ⟨rfl,hb⟩;exact ⟨I,b45 hp.ib hb,.bool _⟩
 ·cases hf
theorem g7l:fnB Tryz.prog 236 Tryz.f236 []=true:=kr
theorem d6n:∀ds a r,d4k.dec ds=some a→f15 a=some r→Con Tryz.prog sg 236 ds [] (f3t.enc r) []:=by
 intro ds a r hd hf;obtain ⟨code,fok,-,-⟩:=y3 Tryz.func236 g7l;have hac:j8 d4k:=j8.cons f8.str j8.nil;have hw:=hac ds a hd;obtain ⟨l,⟨⟩⟩:=a;unfold Con;rw[show sg.md 236=.data by kernel_rfl];intro _ w I J vs hp ha;obtain ⟨b,rfl,rfl⟩:=e3k (l:=l) (hw.args ha);replace hf:(bif decide (b.data.toList.length≤LIM)&&vld b.data.toList then some (cln b.data.toList) else none)=some r:=hf;rw[c4]at hf;split at hf
 ·rename_i hle;cases hf
  rw[yad,yae,←Lib.size_eq]at hle;unfold a1v;rw[MuLone.run_callFunc_enter fok.at_ fok.name fok.body _ w];refine (d1a b w hle.1 hle.2).mono ?_;rintro e w' ⟨rfl,hb⟩;exact ⟨I,b45 hp.ib hb,.str ⟨(cln b.data.toList).toArray⟩⟩
 ·cases hf
theorem f6z:∀ds a r,e9x.dec ds=some a→f1w a=some r→Con Tryz.prog sg 325 ds [] (f3d.enc r) []:=fun ds a r hd hf=>by cases hf
end
section
set_option maxRecDepth 100000
open Ev
open Go (IntKind)
open Go
theorem d6s:SG Tryz.prog sg 70 @c6l:=g4v (loops:=l0) (ids:=[]) good Tryz.func70 kr kr cg0 d7 (fun a=>kr) kr
theorem d6a:SG Tryz.prog sg 122 @e14:=g4v (loops:=l0) (ids:=[]) good Tryz.func122 kr kr cg0 d7 (fun a=>kr) kr
theorem d6p:SG Tryz.prog sg 190 @e2z:=g4v (loops:=l0) (ids:=[]) good Tryz.func190 kr kr cg0 d7 (fun a=>kr) kr
theorem d59:SG Tryz.prog sg 202 @e13:=g4v (loops:=l0) (ids:=[]) good Tryz.func202 kr kr cg0 d7 (fun a=>kr) kr
theorem f8g:SG Tryz.prog sg 250 @e2y:=g4v (loops:=l0) (ids:=[]) good Tryz.func250 kr kr cg0 d7 (fun a=>kr) kr
def h2x {R:Type}:Nat→Sm R:=cl 35 c6i (cl 46 g3p (cl 70 c6l (cl 121 g3n (cl 122 e14 (cl 159 g3a (cl 190 e2z (cl 201 g3m (cl 202 e13 (cl 236 g3s (cl 249 g3v (cl 250 e2y (cl 313 g28 c0))))))))))))
theorem f5r:CG Tryz.prog sg @h2x:=(cgc (sgP c4d) (cgc (sgP f75) (cgc d6s (cgc (sgP f70) (cgc d6a (cgc (sgP c4k) (cgc d6p (cgc (sgP f7z) (cgc d59 (cgc (sgP d6n) (cgc (sgP f8f) (cgc f8g (cgc (sgP d58) cg0)))))))))))))
def h2u:List Nat:=[9,12,14,16,19,21,22,29,30,31,32,33,34,40,41,42,48,49,50,51,52,53,64,66,67,68,69,71,72,73,74,75,76,77,78,79,81,85,95,96,97,98,99,100,101,102,103,105,106,116,117,118,119,120,123,124,126,127,128,130,131,134,140,144,149,150,160,161,162,163,164,165,167,171,173,175,176,177,178,187,191,194,195,196,197,198,200,209,211,212,232,233,235,240,241,242,243,244,245,246,247,248,252,256,257,258,259,260,266,267,268,269,289,290,292,294,295,296,306,308,309,310,312,321,323,324]
theorem h1s:g4z Tryz.prog h2u=true:=kr
theorem e81:d00 Tryz.prog sg h2u @h2x 40 9 [] [] (fun d bs=>some (d,bs))=some (c93.enc true,[]):=kr
theorem f6v:∀ds a r,e9v.dec ds=some a→f1v a=some r→Con Tryz.prog sg 9 ds [] (c93.enc r) []:=h26 (rc:=c93) (r0:=true) good h1s f5r e81
end
section
set_option maxRecDepth 100000
open Ev
open Go (IntKind)
open Go
noncomputable abbrev ZP:=Tryz.prog
theorem e6j:fnB ZP 23 Tryz.f23 [4,9,14]=true:=kr
theorem e5v:CG ZP sg @f4s:=cg0
theorem g0c:d9 ZP sg 0 Tryz.f23 @b0o 4:=o0 d70 good Tryz.func23 e6j e5v d7 (fun a=>kr) kr (fun _ _=>rfl)
theorem g0d:d9 ZP sg 0 Tryz.f23 @b0o 9:=o0 d71 good Tryz.func23 e6j e5v d7 (fun a=>kr) kr (fun _ _=>rfl)
theorem e69:d9 ZP sg 0 Tryz.f23 @b0o 14:=o0 c79 good Tryz.func23 e6j e5v d7 (fun a=>kr) kr (fun _ _=>rfl)
theorem g6q:SG ZP sg 23 @h0m:=a2s (loops:=b0o) good Tryz.func23 e6j kr e5v (all_cons g0c (all_cons g0d (all_cons e69 d7))) (fun a=>kr)
theorem c4e:SG ZP sg 179 @c6j:=a0c good Tryz.func179 kr kr cg0 (fun a=>kr)
theorem f1c:fnB ZP 107 Tryz.f107 [2]=true:=kr
theorem f0d:CG ZP sg @e46:=(cgc c4e cg0)
theorem e7a:d9 ZP sg 0 Tryz.f107 @c1b 2:=o0 c8a good Tryz.func107 f1c f0d d7 (fun a=>kr) kr (fun _ _=>rfl)
theorem d5t:SG ZP sg 107 @c6e:=a2s (loops:=c1b) good Tryz.func107 f1c kr f0d (all_cons e7a d7) (fun a=>kr)
theorem g6v:SG ZP sg 180 @f3y:=a0c good Tryz.func180 kr kr (cgc c4e cg0) (fun a=>kr)
theorem g6p:SG ZP sg 181 @f3v:=a0c good Tryz.func181 kr kr cg0 (fun a=>kr)
theorem f1d:fnB ZP 108 Tryz.f108 [4]=true:=kr
theorem f0n:CG ZP sg @e5g:=(cgc c4e (cgc g6v (cgc g6p cg0)))
theorem e7k:d9 ZP sg 0 Tryz.f108 @c1l 4:=o0 c8k good Tryz.func108 f1d f0n d7 (fun a=>kr) kr (fun _ _=>rfl)
theorem f6k:SG ZP sg 108 @e1h:=a2s (loops:=c1l) good Tryz.func108 f1d kr f0n (all_cons e7k d7) (fun a=>kr)
theorem g7r:fnB ZP 54 Tryz.f54 [4]=true:=kr
theorem f0m:CG ZP sg @e5f:=(cgc d5t (cgc f6k cg0))
theorem e7j:d9 ZP sg 0 Tryz.f54 @c1k 4:=o0 c8j good Tryz.func54 g7r f0m d7 (fun a=>kr) kr (fun _ _=>rfl)
theorem f6j:SG ZP sg 54 @e1g:=a2s (loops:=c1k) good Tryz.func54 g7r kr f0m (all_cons e7j d7) (fun a=>kr)
theorem g7s:fnB ZP 55 Tryz.f55 [4]=true:=kr
theorem f0l:CG ZP sg @e5e:=cg0
theorem e7i:d9 ZP sg 0 Tryz.f55 @c1j 4:=o0 c8i good Tryz.func55 g7s f0l d7 (fun a=>kr) kr (fun _ _=>rfl)
theorem f6i:SG ZP sg 55 @e1f:=a2s (loops:=c1j) good Tryz.func55 g7s kr f0l (all_cons e7i d7) (fun a=>kr)
theorem f8e:SG ZP sg 182 @g3u:=a0c good Tryz.func182 kr kr cg0 (fun a=>kr)
theorem f8r:SG ZP sg 183 @g34:=a0c good Tryz.func183 kr kr cg0 (fun a=>kr)
theorem f7u:SG ZP sg 109 @e2l:=a0c good Tryz.func109 kr kr (cgc f8e (cgc f8r cg0)) (fun a=>kr)
theorem e6n:fnB ZP 56 Tryz.f56 [4,12,15]=true:=kr
theorem e5y:CG ZP sg @f4z:=(cgc f7u cg0)
theorem g0m:d9 ZP sg 0 Tryz.f56 @b0r 4:=o0 d8c good Tryz.func56 e6n e5y d7 (fun a=>kr) kr (fun _ _=>rfl)
theorem c9j:d9 ZP sg 0 Tryz.f56 @b0r 15:=o0 c84 good Tryz.func56 e6n e5y d7 (fun a=>kr) kr (fun _ _=>rfl)
theorem e73:d9 ZP sg 0 Tryz.f56 @b0r 12:=o0 c83 good Tryz.func56 e6n e5y (all_cons c9j d7) (fun a=>kr) kr (fun _ _=>rfl)
theorem g6z:SG ZP sg 56 @f32:=a2s (loops:=b0r) good Tryz.func56 e6n kr e5y (all_cons g0m (all_cons e73 (all_cons c9j d7))) (fun a=>kr)
theorem f8w:SG ZP sg 110 @e3a:=a0c good Tryz.func110 kr kr cg0 (fun a=>kr)
theorem g7t:fnB ZP 57 Tryz.f57 [4]=true:=kr
theorem f0r:CG ZP sg @e5k:=(cgc f8w cg0)
theorem e7o:d9 ZP sg 0 Tryz.f57 @c1p 4:=o0 c8o good Tryz.func57 g7t f0r d7 (fun a=>kr) kr (fun _ _=>rfl)
theorem f6o:SG ZP sg 57 @e1j:=a2s (loops:=c1p) good Tryz.func57 g7t kr f0r (all_cons e7o d7) (fun a=>kr)
theorem f5y:SG ZP sg 184 @g2d:=a0c good Tryz.func184 kr kr cg0 (fun a=>kr)
theorem f7k:SG ZP sg 111 @e2e:=a0c good Tryz.func111 kr kr (cgc f5y cg0) (fun a=>kr)
theorem f9m:fnB ZP 58 Tryz.f58 [4,9]=true:=kr
theorem f5j:CG ZP sg @f4x:=(cgc f7k cg0)
theorem d8x:d9 ZP sg 0 Tryz.f58 @b77 9:=o0 d8a good Tryz.func58 f9m f5j d7 (fun a=>kr) kr (fun _ _=>rfl)
theorem g0k:d9 ZP sg 0 Tryz.f58 @b77 4:=o0 d79 good Tryz.func58 f9m f5j (all_cons d8x d7) (fun a=>kr) kr (fun _ _=>rfl)
theorem g6x:SG ZP sg 58 @f31:=a2s (loops:=b77) good Tryz.func58 f9m kr f5j (all_cons g0k (all_cons d8x d7)) (fun a=>kr)
theorem f9n:fnB ZP 59 Tryz.f59 [6,11]=true:=kr
theorem f5l:CG ZP sg @f5b:=cg0
theorem g0x:d9 ZP sg 0 Tryz.f59 @b79 6:=o0 d8p good Tryz.func59 f9n f5l d7 (fun a=>kr) kr (fun _ _=>rfl)
theorem e78:d9 ZP sg 0 Tryz.f59 @b79 11:=o0 c89 good Tryz.func59 f9n f5l d7 (fun a=>kr) kr (fun _ _=>rfl)
theorem g67:SG ZP sg 59 @f39:=a2s (loops:=b79) good Tryz.func59 f9n kr f5l (all_cons g0x (all_cons e78 d7)) (fun a=>kr)
theorem f1e:fnB ZP 112 Tryz.f112 [2]=true:=kr
theorem f0o:CG ZP sg @e5h:=cg0
theorem e7l:d9 ZP sg 0 Tryz.f112 @c1m 2:=o0 c8l good Tryz.func112 f1e f0o d7 (fun a=>kr) kr (fun _ _=>rfl)
theorem f6l:SG ZP sg 112 @g2k:=a2s (loops:=c1m) good Tryz.func112 f1e kr f0o (all_cons e7l d7) (fun a=>kr)
theorem c4g:SG ZP sg 60 @b8n:=a0c good Tryz.func60 kr kr (cgc f6l cg0) (fun a=>kr)
theorem f7v:SG ZP sg 185 @e2m:=a0c good Tryz.func185 kr kr cg0 (fun a=>kr)
theorem f83:SG ZP sg 270 @g4b:=a0c good Tryz.func270 kr kr cg0 (fun a=>kr)
theorem f7w:SG ZP sg 213 @g3j:=a0c good Tryz.func213 kr kr (cgc f83 cg0) (fun a=>kr)
theorem f8m:SG ZP sg 214 @g3z:=a0c good Tryz.func214 kr kr cg0 (fun a=>kr)
theorem f6x:SG ZP sg 271 @e1n:=a0c good Tryz.func271 kr kr cg0 (fun a=>kr)
theorem f1j:fnB ZP 215 Tryz.f215 [3]=true:=kr
theorem f0f:CG ZP sg @e48:=(cgc f6x cg0)
theorem e7c:d9 ZP sg 0 Tryz.f215 @c1d 3:=o0 c8c good Tryz.func215 f1j f0f d7 (fun a=>kr) kr (fun _ _=>rfl)
theorem f6e:SG ZP sg 215 @g2h:=a2s (loops:=c1d) good Tryz.func215 f1j kr f0f (all_cons e7c d7) (fun a=>kr)
theorem f7m:SG ZP sg 216 @g3b:=a0c good Tryz.func216 kr kr cg0 (fun a=>kr)
theorem f88:SG ZP sg 217 @g4e:=a0c good Tryz.func217 kr kr cg0 (fun a=>kr)
theorem f6y:SG ZP sg 151 @e1o:=a0c good Tryz.func151 kr kr (cgc f7w (cgc f8m (cgc f6e (cgc f7m (cgc f88 cg0))))) (fun a=>kr)
theorem f1f:fnB ZP 113 Tryz.f113 [5]=true:=kr
theorem f0e:CG ZP sg @e47:=(cgc f6y (cgc f7v cg0))
theorem e7b:d9 ZP sg 0 Tryz.f113 @c1c 5:=o0 c8b good Tryz.func113 f1f f0e d7 (fun a=>kr) kr (fun _ _=>rfl)
theorem f6d:SG ZP sg 113 @e1c:=a2s (loops:=c1c) good Tryz.func113 f1f kr f0e (all_cons e7b d7) (fun a=>kr)
theorem g7w:fnB ZP 86 Tryz.f86 [2]=true:=kr
theorem g6h:CG ZP sg @f47:=cg0
theorem g0u:d9 ZP sg 0 Tryz.f86 @c9q 2:=o0 d8m good Tryz.func86 g7w g6h d7 (fun a=>kr) kr (fun _ _=>rfl)
theorem d6u:SG ZP sg 86 @d0a:=a2s (loops:=c9q) good Tryz.func86 g7w kr g6h (all_cons g0u d7) (fun a=>kr)
theorem f9o:fnB ZP 61 Tryz.f61 [4,15]=true:=kr
theorem f5n:CG ZP sg @f5d:=(cgc d6u (cgc d5t (cgc f6d cg0)))
theorem g0z:d9 ZP sg 0 Tryz.f61 @b8b 4:=o0 d8r good Tryz.func61 f9o f5n d7 (fun a=>kr) kr (fun _ _=>rfl)
theorem e8a:d9 ZP sg 0 Tryz.f61 @b8b 15:=o0 c9b good Tryz.func61 f9o f5n d7 (fun a=>kr) kr (fun _ _=>rfl)
theorem g69:SG ZP sg 61 @f4b:=a2s (loops:=b8b) good Tryz.func61 f9o kr f5n (all_cons g0z (all_cons e8a d7)) (fun a=>kr)
theorem f8j:SG ZP sg 114 @e23:=a0c good Tryz.func114 kr kr cg0 (fun a=>kr)
theorem f1h:fnB ZP 186 Tryz.f186 [2]=true:=kr
theorem f0h:CG ZP sg @e5a:=cg0
theorem e7e:d9 ZP sg 0 Tryz.f186 @c1f 2:=o0 c8e good Tryz.func186 f1h f0h d7 (fun a=>kr) kr (fun _ _=>rfl)
theorem f6g:SG ZP sg 186 @g2j:=a2s (loops:=c1f) good Tryz.func186 f1h kr f0h (all_cons e7e d7) (fun a=>kr)
theorem f7x:SG ZP sg 115 @e2o:=a0c good Tryz.func115 kr kr (cgc f6g cg0) (fun a=>kr)
theorem f9p:fnB ZP 62 Tryz.f62 [2,10]=true:=kr
theorem f5m:CG ZP sg @f5c:=(cgc c4g (cgc d6u (cgc f8j (cgc f7x cg0))))
theorem g0y:d9 ZP sg 0 Tryz.f62 @b8a 2:=o0 d8q good Tryz.func62 f9p f5m d7 (fun a=>kr) kr (fun _ _=>rfl)
theorem e79:d9 ZP sg 0 Tryz.f62 @b8a 10:=o0 c9a good Tryz.func62 f9p f5m d7 (fun a=>kr) kr (fun _ _=>rfl)
theorem g68:SG ZP sg 62 @f4a:=a2s (loops:=b8a) good Tryz.func62 f9p kr f5m (all_cons g0y (all_cons e79 d7)) (fun a=>kr)
theorem g7x:fnB ZP 89 Tryz.f89 [2]=true:=kr
theorem f0k:CG ZP sg @e5d:=cg0
theorem e7h:d9 ZP sg 0 Tryz.f89 @c1i 2:=o0 c8h good Tryz.func89 g7x f0k d7 (fun a=>kr) kr (fun _ _=>rfl)
theorem f6h:SG ZP sg 89 @e1e:=a2s (loops:=c1i) good Tryz.func89 g7x kr f0k (all_cons e7h d7) (fun a=>kr)
theorem f9q:fnB ZP 63 Tryz.f63 [2,18]=true:=kr
theorem f5o:CG ZP sg @f5e:=(cgc c4g (cgc d6u (cgc f6h cg0)))
theorem g00:d9 ZP sg 0 Tryz.f63 @b8c 2:=o0 d8s good Tryz.func63 f9q f5o d7 (fun a=>kr) kr (fun _ _=>rfl)
theorem e8b:d9 ZP sg 0 Tryz.f63 @b8c 18:=o0 c9c good Tryz.func63 f9q f5o d7 (fun a=>kr) kr (fun _ _=>rfl)
theorem g7a:SG ZP sg 63 @f4c:=a2s (loops:=b8c) good Tryz.func63 f9q kr f5o (all_cons g00 (all_cons e8b d7)) (fun a=>kr)
theorem f9k:fnB ZP 24 Tryz.f24 [6,11]=true:=kr
theorem f5h:CG ZP sg @f4r:=(cgc f6j (cgc f6i (cgc g6z (cgc f6o (cgc g6x (cgc g67 (cgc c4g (cgc g69 (cgc g68 (cgc g7a cg0))))))))))
theorem g0b:d9 ZP sg 0 Tryz.f24 @b75 6:=o0 d7z good Tryz.func24 f9k f5h d7 (fun a=>kr) kr (fun _ _=>rfl)
theorem e61:d9 ZP sg 0 Tryz.f24 @b75 11:=o0 c71 good Tryz.func24 f9k f5h d7 (fun a=>kr) kr (fun _ _=>rfl)
theorem g6o:SG ZP sg 24 @h0l:=a2s (loops:=b75) good Tryz.func24 f9k kr f5h (all_cons g0b (all_cons e61 d7)) (fun a=>kr)
theorem g7n:fnB ZP 26 Tryz.f26 [4]=true:=kr
theorem f0g:CG ZP sg @e49:=cg0
theorem e7d:d9 ZP sg 0 Tryz.f26 @c1e 4:=o0 c8d good Tryz.func26 g7n f0g d7 (fun a=>kr) kr (fun _ _=>rfl)
theorem f6f:SG ZP sg 26 @g2i:=a2s (loops:=c1e) good Tryz.func26 g7n kr f0g (all_cons e7d d7) (fun a=>kr)
theorem f8d:SG ZP sg 10 @e2x:=a0c good Tryz.func10 kr kr (cgc g6q (cgc g6o (cgc f6f cg0))) (fun a=>kr)
theorem d6f:SG ZP sg 31 @c6k:=a0c good Tryz.func31 kr kr cg0 (fun a=>kr)
theorem g7o:fnB ZP 30 Tryz.f30 [3]=true:=kr
theorem f0v:CG ZP sg @e5o:=(cgc (sgP d51) (cgc (sgP c4d) (cgc d6s cg0)))
theorem e7s:d9 ZP sg 0 Tryz.f30 @c1t 3:=o0 c8s good Tryz.func30 g7o f0v d7 (fun a=>kr) kr (fun _ _=>rfl)
theorem f6s:SG ZP sg 30 @e1k:=h25 (loops:=c1t) good Tryz.func30 g7o kr f0v (all_cons e7s d7) (fun a=>kr)
theorem c4h:SG ZP sg 33 @b8o:=a0c good Tryz.func33 kr kr cg0 (fun a=>kr)
theorem g7k:fnB ZP 21 Tryz.f21 [3]=true:=kr
theorem f0i:CG ZP sg @e5b:=(cgc c4h cg0)
theorem e7f:d9 ZP sg 0 Tryz.f21 @c1g 3:=o0 c8f good Tryz.func21 g7k f0i d7 (fun a=>kr) kr (fun _ _=>rfl)
theorem d5v:SG ZP sg 21 @c6f:=a2s (loops:=c1g) good Tryz.func21 g7k kr f0i (all_cons e7f d7) (fun a=>kr)
theorem f6w:SG ZP sg 72 @e1m:=a0c good Tryz.func72 kr kr cg0 (fun a=>kr)
theorem e6o:fnB ZP 71 Tryz.f71 [2]=true:=kr
theorem g6f:CG ZP sg @f40:=(cgc f6w cg0)
theorem g0n:d9 ZP sg 0 Tryz.f71 @c9o 2:=o0 d8d good Tryz.func71 e6o g6f d7 (fun a=>kr) kr (fun _ _=>rfl)
theorem g60:SG ZP sg 71 @h0q:=a2s (loops:=c9o) good Tryz.func71 e6o kr g6f (all_cons g0n d7) (fun a=>kr)
theorem d5x:SG ZP sg 32 @c6g:=a0c good Tryz.func32 kr kr (cgc g60 cg0) (fun a=>kr)
abbrev a9x {R:Type}:Lp Kd El R:=lp 27 (lsi 17 0 a6x.sem (lsi 17 1 a6y.sem (lsi 17 2 a6z.sem (lsi 17 3 a60.sem (lsi 17 4 a61.sem lsz))))) l0
noncomputable def a8q {R:Type}:Lp Kd El R:=lp 27 (lsi 17 0 a6x.sem (lsi 17 1 a6y.sem (lsi 17 2 a6z.sem (lsi 17 3 a60.sem (lsi 17 4 a61.sem lsz))))) (lp 23 (fun st k=>b3u ZP sg d5h a9x 0 [16,95,96] (a0a Tryz.f12 23) 6 st k) (lp 11 c8w.sem (lp 5 d72.sem l0)))
theorem b7q:fnB ZP 12 Tryz.f12 [5,11,23,27]=true:=kr
theorem b68:CG ZP sg @d5h:=(cgc d5v (cgc f6s (cgc d6f (cgc d5x (cgc c4h (cgc (sgP d51) (cgc (sgP c4d) cg0)))))))
theorem g0e:d9 ZP sg 0 Tryz.f12 @a8q 5:=o0 d72 good Tryz.func12 b7q b68 d7 (fun a=>kr) kr (fun _ _=>rfl)
theorem e7w:d9 ZP sg 0 Tryz.f12 @a8q 11:=o0 c8w good Tryz.func12 b7q b68 d7 (fun a=>kr) kr (fun _ _=>rfl)
theorem d1w:d9 ZP sg 0 Tryz.f12 (fun {R}=>lp 27 (a6x.sem (R:=R)) l0) 27:=o0 a6x good Tryz.func12 b7q b68 d7 (fun a=>kr) kr (fun _ _=>rfl)
theorem d1x:d9 ZP sg 0 Tryz.f12 (fun {R}=>lp 27 (a6y.sem (R:=R)) l0) 27:=o0 a6y good Tryz.func12 b7q b68 d7 (fun a=>kr) kr (fun _ _=>rfl)
theorem d1y:d9 ZP sg 0 Tryz.f12 (fun {R}=>lp 27 (a6z.sem (R:=R)) l0) 27:=o0 a6z good Tryz.func12 b7q b68 d7 (fun a=>kr) kr (fun _ _=>rfl)
theorem d1z:d9 ZP sg 0 Tryz.f12 (fun {R}=>lp 27 (a60.sem (R:=R)) l0) 27:=o0 a60 good Tryz.func12 b7q b68 d7 (fun a=>kr) kr (fun _ _=>rfl)
theorem d12:d9 ZP sg 0 Tryz.f12 (fun {R}=>lp 27 (a61.sem (R:=R)) l0) 27:=o0 a61 good Tryz.func12 b7q b68 d7 (fun a=>kr) kr (fun _ _=>rfl)
theorem c0y:d9 ZP sg 0 Tryz.f12 @a9x 27:=(c12 d1w (c12 d1x (c12 d1y (c12 d1z (c12 d12 g8k)))))
theorem e7y:d9 ZP sg 0 Tryz.f12 @a8q 27:=h1w c0y (fun _ _=>rfl)
theorem e7x:d9 ZP sg 0 Tryz.f12 @a8q 23:=h1v [16,95,96] 6 good Tryz.func12 b7q b68 kr (all_cons c0y d7) (fun _ _=>rfl)
theorem g6r:SG ZP sg 12 @f3w:=a2s (loops:=a8q) good Tryz.func12 b7q kr b68 (all_cons g0e (all_cons e7w (all_cons e7x (all_cons e7y d7)))) (fun a=>kr)
theorem c4a:SG ZP sg 76 @g2v:=h24 (loops:=l0) (ids:=[]) good Tryz.func76 kr kr cg0 d7 (fun a=>kr)
theorem f8c:SG ZP sg 160 @e2w:=a0c good Tryz.func160 kr kr cg0 (fun a=>kr)
theorem c7g:CG ZP sg @d07:=(cgc f8c cg0)
theorem d17:d9 ZP sg 0 Tryz.f71 @b2l 2:=o0 b5g good Tryz.func71 e6o c7g d7 (fun a=>kr) kr (fun _ _=>rfl)
theorem d6t:SG ZP sg 71 @e3b:=a2s (loops:=b2l) good Tryz.func71 e6o kr c7g (all_cons d17 d7) (fun a=>kr)
theorem b7e:SG ZP sg 96 @b8m:=a0c good Tryz.func96 kr kr (cgc d6t cg0) (fun a=>kr)
theorem b1o:SG ZP sg 125 @h0u:=c7i (loops:=l0) (ids:=[]) good Tryz.func125 kr kr cg0 d7 (fun a b=>kr)
theorem c4l:SG ZP sg 77 @g3h:=c7i (loops:=l0) (ids:=[]) good Tryz.func77 kr kr (cgc b7e (cgc b1o cg0)) d7 (fun a b=>kr)
theorem d5u:SG ZP sg 78 @g2g:=c7i (loops:=l0) (ids:=[]) good Tryz.func78 kr kr cg0 d7 (fun a b=>kr)
theorem b7f:SG ZP sg 161 @e1t:=a0c good Tryz.func161 kr kr cg0 (fun a=>kr)
theorem f82:SG ZP sg 232 @g4a:=a0c good Tryz.func232 kr kr (cgc b7f cg0) (fun a=>kr)
theorem f80:SG ZP sg 233 @g38:=a0c good Tryz.func233 kr kr (cgc b7f cg0) (fun a=>kr)
theorem d5z:SG ZP sg 235 @g2t:=a0c good Tryz.func235 kr kr cg0 (fun a=>kr)
theorem f85:SG ZP sg 234 @g4c:=a0c good Tryz.func234 kr kr (cgc d5z cg0) (fun a=>kr)
theorem d6b:SG ZP sg 162 @e17:=a0c good Tryz.func162 kr kr (cgc b7f (cgc f82 (cgc f80 (cgc f85 (cgc d5z cg0))))) (fun a=>kr)
theorem a87:SG ZP sg 123 @g20:=c7i (loops:=l0) (ids:=[]) good Tryz.func123 kr kr (cgc d6a (cgc b1o (cgc d6b (cgc d6p cg0)))) d7 (fun a b=>kr)
theorem d55:SG ZP sg 79 @g26:=c7i (loops:=l0) (ids:=[]) good Tryz.func79 kr kr (cgc a87 cg0) d7 (fun a b=>kr)
theorem f76:SG ZP sg 239 @g3q:=a0c good Tryz.func239 kr kr cg0 (fun a=>kr)
theorem d6o:SG ZP sg 240 @g3t:=a0c good Tryz.func240 kr kr cg0 (fun a=>kr)
theorem f7b:SG ZP sg 170 @e1w:=a0c good Tryz.func170 kr kr (cgc f76 (cgc d6o cg0)) (fun a=>kr)
theorem f09:fnB ZP 101 Tryz.f101 [4]=true:=kr
theorem f0y:CG ZP sg @e5r:=(cgc f7b cg0)
theorem e7v:d9 ZP sg 0 Tryz.f101 @c1w 4:=o0 c8v good Tryz.func101 f09 f0y d7 (fun a=>kr) kr (fun _ _=>rfl)
theorem d5y:SG ZP sg 101 @e1l:=a2s (loops:=c1w) good Tryz.func101 f09 kr f0y (all_cons e7v d7) (fun a=>kr)
theorem f7n:SG ZP sg 145 @g3c:=a0c good Tryz.func145 kr kr (cgc d5y cg0) (fun a=>kr)
theorem d6q:SG ZP sg 80 @g3w:=c7i (loops:=l0) (ids:=[]) good Tryz.func80 kr kr (cgc b1o (cgc f7n cg0)) d7 (fun a b=>kr)
theorem f7d:SG ZP sg 146 @e10:=a0c good Tryz.func146 kr kr cg0 (fun a=>kr)
theorem a9w:fnB ZP 131 Tryz.f131 [2]=true:=kr
theorem g6d:CG ZP sg @f4t:=(cgc f7d cg0)
theorem g0f:d9 ZP sg 0 Tryz.f131 @c9m 2:=o0 d73 good Tryz.func131 a9w g6d d7 (fun a=>kr) kr (fun _ _=>rfl)
theorem g6s:SG ZP sg 131 @h0n:=a2s (loops:=c9m) good Tryz.func131 a9w kr g6d (all_cons g0f d7) (fun a=>kr)
theorem c38:SG ZP sg 81 @e1i:=a0c good Tryz.func81 kr kr (cgc g6s cg0) (fun a=>kr)
theorem f8b:SG ZP sg 147 @e2v:=a0c good Tryz.func147 kr kr cg0 (fun a=>kr)
theorem c7d:CG ZP sg @d03:=(cgc f8b cg0)
theorem d13:d9 ZP sg 0 Tryz.f131 @b2i 2:=o0 b5b good Tryz.func131 a9w c7d d7 (fun a=>kr) kr (fun _ _=>rfl)
theorem d6c:SG ZP sg 131 @e19:=a2s (loops:=b2i) good Tryz.func131 a9w kr c7d (all_cons d13 d7) (fun a=>kr)
theorem f7p:SG ZP sg 210 @g3e:=g4v (loops:=l0) (ids:=[]) good Tryz.func210 kr kr cg0 d7 (fun a=>kr) kr
theorem d6l:SG ZP sg 148 @g3l:=a0c good Tryz.func148 kr kr (cgc f7p cg0) (fun a=>kr)
theorem f64:SG ZP sg 83 @g2x:=a0c good Tryz.func83 kr kr (cgc d6c (cgc d6l cg0)) (fun a=>kr)
theorem c39:SG ZP sg 82 @g2u:=c7i (loops:=l0) (ids:=[]) good Tryz.func82 kr kr (cgc b1o cg0) d7 (fun a b=>kr)
theorem c4c:SG ZP sg 293 @c6h:=a0c good Tryz.func293 kr kr cg0 (fun a=>kr)
theorem d69:fnB ZP 324 Tryz.f324 [1,4]=true:=kr
theorem f5k:CG ZP sg @f43:=(cgc c4c cg0)
theorem d8z:d9 ZP sg MA Tryz.f324 @b78 4:=o0 d8j good Tryz.func324 d69 f5k d7 (fun a=>kr) kr (fun _ _=>rfl)
theorem g0r:d9 ZP sg MA Tryz.f324 @b78 1:=o0 d8i good Tryz.func324 d69 f5k (all_cons d8z d7) (fun a=>kr) kr (fun _ _=>rfl)
theorem g63:SG ZP sg 324 @f36:=h1m (loops:=b78) good Tryz.func324 d69 kr f5k (all_cons g0r (all_cons d8z d7)) (fun a=>kr)
theorem c7u:fnB ZP 312 Tryz.f312 [2,7,9]=true:=kr
theorem e5z:CG ZP sg @f41:=(cgc c4c (cgc g63 (cgc (sgP f6z) cg0)))
theorem g0o:d9 ZP sg MA Tryz.f312 @b0s 2:=o0 d8e good Tryz.func312 c7u e5z d7 (fun a=>kr) kr (fun _ _=>rfl)
theorem d8y:d9 ZP sg MA Tryz.f312 @b0s 9:=o0 d8g good Tryz.func312 c7u e5z d7 (fun a=>kr) kr (fun _ _=>rfl)
theorem g0p:d9 ZP sg MA Tryz.f312 @b0s 7:=o0 d8f good Tryz.func312 c7u e5z (all_cons d8y d7) (fun a=>kr) kr (fun _ _=>rfl)
theorem g61:SG ZP sg 312 @h0r:=h1m (loops:=b0s) good Tryz.func312 c7u kr e5z (all_cons g0o (all_cons g0p (all_cons d8y d7))) (fun a=>kr)
theorem f7e:SG ZP sg 292 @e12:=h1m (loops:=l0) (ids:=[]) good Tryz.func292 kr kr (cgc c4c (cgc g61 cg0)) d7 (fun a=>kr)
theorem f1o:fnB ZP 266 Tryz.f266 [3]=true:=kr
theorem g6e:CG ZP sg @f4w:=(cgc f7e cg0)
theorem g0j:d9 ZP sg 0 Tryz.f266 @c9n 3:=o0 d78 good Tryz.func266 f1o g6e d7 (fun a=>kr) kr (fun _ _=>rfl)
theorem g6w:SG ZP sg 266 @f3z:=a2s (loops:=c9n) good Tryz.func266 f1o kr g6e (all_cons g0j d7) (fun a=>kr)
theorem f1i:fnB ZP 211 Tryz.f211 [3]=true:=kr
theorem e99:CG ZP sg @e42:=(cgc g6w cg0)
theorem e65:d9 ZP sg 0 Tryz.f211 @c07 3:=o0 c75 good Tryz.func211 f1i e99 d7 (fun a=>kr) kr (fun _ _=>rfl)
theorem f5z:SG ZP sg 211 @g2f:=a2s (loops:=c07) good Tryz.func211 f1i kr e99 (all_cons e65 d7) (fun a=>kr)
theorem d6g:SG ZP sg 149 @e2h:=a0c good Tryz.func149 kr kr (cgc f5z cg0) (fun a=>kr)
theorem f8a:SG ZP sg 287 @e2u:=a0c good Tryz.func287 kr kr cg0 (fun a=>kr)
theorem c7e:CG ZP sg @d04:=(cgc f8a cg0)
theorem d14:d9 ZP sg 0 Tryz.f131 @b2j 2:=o0 b5c good Tryz.func131 a9w c7e d7 (fun a=>kr) kr (fun _ _=>rfl)
theorem d6d:SG ZP sg 131 @e2a:=a2s (loops:=b2j) good Tryz.func131 a9w kr c7e (all_cons d14 d7) (fun a=>kr)
theorem d52:SG ZP sg 252 @g25:=a0c good Tryz.func252 kr kr (cgc d6d cg0) (fun a=>kr)
theorem f9b:SG ZP sg 191 @g4g:=a0c good Tryz.func191 kr kr (cgc d52 cg0) (fun a=>kr)
theorem f7j:SG ZP sg 244 @e2c:=a0c good Tryz.func244 kr kr cg0 (fun a=>kr)
theorem f1l:fnB ZP 243 Tryz.f243 [2]=true:=kr
theorem e96:CG ZP sg @e4z:=(cgc f7j cg0)
theorem e62:d9 ZP sg 0 Tryz.f243 @c04 2:=o0 c72 good Tryz.func243 f1l e96 d7 (fun a=>kr) kr (fun _ _=>rfl)
theorem f5v:SG ZP sg 243 @g2c:=a2s (loops:=c04) good Tryz.func243 f1l kr e96 (all_cons e62 d7) (fun a=>kr)
theorem f69:SG ZP sg 176 @g23:=a0c good Tryz.func176 kr kr (cgc f5v cg0) (fun a=>kr)
theorem d6r:SG ZP sg 105 @g30:=a0c good Tryz.func105 kr kr (cgc f69 cg0) (fun a=>kr)
theorem f8k:SG ZP sg 321 @g3y:=a0c good Tryz.func321 kr kr cg0 (fun a=>kr)
theorem f7a:SG ZP sg 306 @e1u:=a0c good Tryz.func306 kr kr (cgc f8k cg0) (fun a=>kr)
theorem f1s:fnB ZP 307 Tryz.f307 [3]=true:=kr
theorem e97:CG ZP sg @e40:=cg0
theorem e63:d9 ZP sg 0 Tryz.f307 @c05 3:=o0 c73 good Tryz.func307 f1s e97 d7 (fun a=>kr) kr (fun _ _=>rfl)
theorem f5w:SG ZP sg 307 @e07:=a2s (loops:=c05) good Tryz.func307 f1s kr e97 (all_cons e63 d7) (fun a=>kr)
theorem f1q:fnB ZP 289 Tryz.f289 [3]=true:=kr
theorem f0x:CG ZP sg @e5q:=(cgc f7a (cgc f5w cg0))
theorem e7u:d9 ZP sg 0 Tryz.f289 @c1v 3:=o0 c8u good Tryz.func289 f1q f0x d7 (fun a=>kr) kr (fun _ _=>rfl)
theorem f6u:SG ZP sg 289 @g2r:=a2s (loops:=c1v) good Tryz.func289 f1q kr f0x (all_cons e7u d7) (fun a=>kr)
theorem f79:SG ZP sg 259 @g3r:=a0c good Tryz.func259 kr kr (cgc f6u cg0) (fun a=>kr)
theorem d6j:SG ZP sg 195 @g3k:=a0c good Tryz.func195 kr kr (cgc d6r (cgc f79 cg0)) (fun a=>kr)
theorem b7g:SG ZP sg 48 @e1v:=a0c good Tryz.func48 kr kr cg0 (fun a=>kr)
theorem d57:SG ZP sg 198 @g27:=a0c good Tryz.func198 kr kr (cgc b7g cg0) (fun a=>kr)
theorem c4i:SG ZP sg 175 @e2d:=a0c good Tryz.func175 kr kr cg0 (fun a=>kr)
theorem f74:SG ZP sg 209 @g3o:=a0c good Tryz.func209 kr kr cg0 (fun a=>kr)
theorem f77:SG ZP sg 140 @e2s:=a0c good Tryz.func140 kr kr (cgc f74 cg0) (fun a=>kr)
theorem f8h:SG ZP sg 322 @e22:=a0c good Tryz.func322 kr kr cg0 (fun a=>kr)
theorem f1t:fnB ZP 308 Tryz.f308 [3]=true:=kr
theorem f0p:CG ZP sg @e5i:=(cgc f77 (cgc f8h cg0))
theorem e7m:d9 ZP sg 0 Tryz.f308 @c1n 3:=o0 c8m good Tryz.func308 f1t f0p d7 (fun a=>kr) kr (fun _ _=>rfl)
theorem f6m:SG ZP sg 308 @g2l:=a2s (loops:=c1n) good Tryz.func308 f1t kr f0p (all_cons e7m d7) (fun a=>kr)
theorem f1u:fnB ZP 309 Tryz.f309 [3]=true:=kr
theorem f0j:CG ZP sg @e5c:=cg0
theorem e7g:d9 ZP sg 0 Tryz.f309 @c1h 3:=o0 c8g good Tryz.func309 f1u f0j d7 (fun a=>kr) kr (fun _ _=>rfl)
theorem d5w:SG ZP sg 309 @e1d:=a2s (loops:=c1h) good Tryz.func309 f1u kr f0j (all_cons e7g d7) (fun a=>kr)
theorem f87:SG ZP sg 323 @g4d:=a0c good Tryz.func323 kr kr cg0 (fun a=>kr)
theorem c4j:SG ZP sg 310 @e2g:=a0c good Tryz.func310 kr kr (cgc f87 cg0) (fun a=>kr)
theorem f7q:SG ZP sg 290 @e2i:=a0c good Tryz.func290 kr kr (cgc c4i (cgc f6m (cgc d5w (cgc c4j cg0)))) (fun a=>kr)
theorem f1n:fnB ZP 260 Tryz.f260 [2]=true:=kr
theorem e98:CG ZP sg @e41:=(cgc f7q cg0)
theorem e64:d9 ZP sg 0 Tryz.f260 @c06 2:=o0 c74 good Tryz.func260 f1n e98 d7 (fun a=>kr) kr (fun _ _=>rfl)
theorem f5x:SG ZP sg 260 @e08:=a2s (loops:=c06) good Tryz.func260 f1n kr e98 (all_cons e64 d7) (fun a=>kr)
theorem f1p:fnB ZP 288 Tryz.f288 [9]=true:=kr
theorem f0w:CG ZP sg @e5p:=(cgc c4i (cgc f5x cg0))
theorem e7t:d9 ZP sg 0 Tryz.f288 @c1u 9:=o0 c8t good Tryz.func288 f1p f0w d7 (fun a=>kr) kr (fun _ _=>rfl)
theorem f6t:SG ZP sg 288 @g2q:=a2s (loops:=c1u) good Tryz.func288 f1p kr f0w (all_cons e7t d7) (fun a=>kr)
theorem f81:SG ZP sg 253 @g39:=c7i (loops:=l0) (ids:=[]) good Tryz.func253 kr kr (cgc b1o (cgc d57 (cgc f6t cg0))) d7 (fun a b=>kr)
theorem c4f:SG ZP sg 237 @g24:=a0c good Tryz.func237 kr kr cg0 (fun a=>kr)
theorem d56:SG ZP sg 255 @e11:=a0c good Tryz.func255 kr kr cg0 (fun a=>kr)
theorem c7f:CG ZP sg @d05:=(cgc d56 cg0)
theorem d15:d9 ZP sg 0 Tryz.f131 @b2k 2:=o0 b5d good Tryz.func131 a9w c7f d7 (fun a=>kr) kr (fun _ _=>rfl)
theorem d6e:SG ZP sg 131 @e2b:=a2s (loops:=b2k) good Tryz.func131 a9w kr c7f (all_cons d15 d7) (fun a=>kr)
theorem f8x:SG ZP sg 254 @g35:=a0c good Tryz.func254 kr kr (cgc d6e (cgc d56 cg0)) (fun a=>kr)
theorem d5s:SG ZP sg 193 @g2e:=a0c good Tryz.func193 kr kr (cgc d6l (cgc c4f (cgc d52 (cgc f8x cg0)))) (fun a=>kr)
theorem d6i:SG ZP sg 192 @g3g:=c7i (loops:=l0) (ids:=[]) good Tryz.func192 kr kr (cgc c39 (cgc a87 (cgc d5s (cgc d6j (cgc f81 cg0))))) d7 (fun a b=>kr)
theorem c4b:SG ZP sg 124 @e1p:=c7i (loops:=l0) (ids:=[]) good Tryz.func124 kr kr (cgc d55 (cgc c39 (cgc a87 (cgc d6g (cgc f9b (cgc d6i (cgc d5s cg0))))))) d7 (fun a b=>kr)
theorem g7v:fnB ZP 84 Tryz.f84 [1]=true:=kr
theorem f01:CG ZP sg @e5u:=(cgc c4b (cgc d6g cg0))
theorem e71:d9 ZP sg 1 Tryz.f84 @c1z 1:=o0 c8z good Tryz.func84 g7v f01 d7 (fun a=>kr) kr (fun _ _=>rfl)
theorem f66:SG ZP sg 84 @g2z:=c7i (loops:=c1z) good Tryz.func84 g7v kr f01 (all_cons e71 d7) (fun a b=>kr)
theorem d6k:SG ZP sg 41 @e2n:=a0c good Tryz.func41 kr kr (cgc c4a (cgc c4l (cgc d5u (cgc d55 (cgc d6q (cgc c38 (cgc c39 (cgc f64 (cgc f66 cg0))))))))) (fun a=>kr)
theorem f7t:SG ZP sg 68 @g3i:=a0c good Tryz.func68 kr kr (cgc c4a (cgc c4l (cgc d5u (cgc a87 (cgc c4b cg0))))) (fun a=>kr)
theorem f7o:SG ZP sg 130 @g3d:=c7i (loops:=l0) (ids:=[]) good Tryz.func130 kr kr cg0 d7 (fun a b=>kr)
theorem d5r:SG ZP sg 178 @g2b:=a0c good Tryz.func178 kr kr cg0 (fun a=>kr)
theorem d53:SG ZP sg 246 @e1y:=a0c good Tryz.func246 kr kr cg0 (fun a=>kr)
theorem f1m:fnB ZP 245 Tryz.f245 [2]=true:=kr
theorem f0t:CG ZP sg @e5m:=(cgc d53 cg0)
theorem e7q:d9 ZP sg 0 Tryz.f245 @c1r 2:=o0 c8q good Tryz.func245 f1m f0t d7 (fun a=>kr) kr (fun _ _=>rfl)
theorem f6q:SG ZP sg 245 @g2o:=a2s (loops:=c1r) good Tryz.func245 f1m kr f0t (all_cons e7q d7) (fun a=>kr)
theorem d6h:SG ZP sg 177 @g3f:=a0c good Tryz.func177 kr kr (cgc f6q (cgc d53 cg0)) (fun a=>kr)
theorem f8z:SG ZP sg 294 @g37:=a0c good Tryz.func294 kr kr (cgc d59 (cgc (sgP d58) cg0)) (fun a=>kr)
theorem f8o:SG ZP sg 267 @g32:=a0c good Tryz.func267 kr kr (cgc d6h (cgc d5r (cgc f8z cg0))) (fun a=>kr)
theorem f8i:SG ZP sg 127 @g3x:=c7i (loops:=l0) (ids:=[]) good Tryz.func127 kr kr (cgc b1o cg0) d7 (fun a b=>kr)
theorem d50:SG ZP sg 174 @e1q:=a0c good Tryz.func174 kr kr (cgc c4i cg0) (fun a=>kr)
theorem f1g:fnB ZP 116 Tryz.f116 [2]=true:=kr
theorem f0u:CG ZP sg @e5n:=(cgc d50 cg0)
theorem e7r:d9 ZP sg 0 Tryz.f116 @c1s 2:=o0 c8r good Tryz.func116 f1g f0u d7 (fun a=>kr) kr (fun _ _=>rfl)
theorem f6r:SG ZP sg 116 @g2p:=a2s (loops:=c1s) good Tryz.func116 f1g kr f0u (all_cons e7r d7) (fun a=>kr)
theorem f7y:SG ZP sg 64 @e2p:=a0c good Tryz.func64 kr kr (cgc f6r (cgc d50 cg0)) (fun a=>kr)
theorem f1b:fnB ZP 103 Tryz.f103 [8]=true:=kr
theorem g6i:CG ZP sg @f48:=(cgc f7y cg0)
theorem g0v:d9 ZP sg 0 Tryz.f103 @c9r 8:=o0 d8n good Tryz.func103 f1b g6i d7 (fun a=>kr) kr (fun _ _=>rfl)
theorem f04:SG ZP sg 103 @f37:=a2s (loops:=c9r) good Tryz.func103 f1b kr g6i (all_cons g0v d7) (fun a=>kr)
theorem f8l:SG ZP sg 314 @e24:=a0c good Tryz.func314 kr kr (cgc c4j cg0) (fun a=>kr)
theorem d68:fnB ZP 295 Tryz.f295 [7,13]=true:=kr
theorem f5q:CG ZP sg @f5g:=(cgc d5w (cgc c4j (cgc f8l cg0)))
theorem g02:d9 ZP sg 0 Tryz.f295 @b8e 7:=o0 d8u good Tryz.func295 d68 f5q d7 (fun a=>kr) kr (fun _ _=>rfl)
theorem e8d:d9 ZP sg 0 Tryz.f295 @b8e 13:=o0 c9e good Tryz.func295 d68 f5q d7 (fun a=>kr) kr (fun _ _=>rfl)
theorem g7c:SG ZP sg 295 @h0w:=a2s (loops:=b8e) good Tryz.func295 d68 kr f5q (all_cons g02 (all_cons e8d d7)) (fun a=>kr)
theorem f8p:SG ZP sg 268 @g33:=a0c good Tryz.func268 kr kr (cgc f04 (cgc d6o (cgc g7c cg0))) (fun a=>kr)
theorem f7l:SG ZP sg 297 @e2f:=a0c good Tryz.func297 kr kr cg0 (fun a=>kr)
theorem f1r:fnB ZP 296 Tryz.f296 [2]=true:=kr
theorem f0q:CG ZP sg @e5j:=(cgc f7l cg0)
theorem e7n:d9 ZP sg 0 Tryz.f296 @c1o 2:=o0 c8n good Tryz.func296 f1r f0q d7 (fun a=>kr) kr (fun _ _=>rfl)
theorem f6n:SG ZP sg 296 @g2m:=a2s (loops:=c1o) good Tryz.func296 f1r kr f0q (all_cons e7n d7) (fun a=>kr)
theorem f67:SG ZP sg 269 @g21:=a0c good Tryz.func269 kr kr (cgc f6n cg0) (fun a=>kr)
theorem f8y:SG ZP sg 212 @g36:=c7i (loops:=l0) (ids:=[]) good Tryz.func212 kr kr (cgc d6q (cgc a87 (cgc f8i (cgc d6j (cgc d57 (cgc f8o (cgc f8p (cgc f67 cg0)))))))) d7 (fun a b=>kr)
theorem f9a:SG ZP sg 150 @g4f:=a0c good Tryz.func150 kr kr (cgc c4a (cgc c4l (cgc c38 (cgc a87 (cgc c4b (cgc b1o (cgc f7o (cgc d6i (cgc f8y cg0))))))))) (fun a=>kr)
theorem f7f:SG ZP sg 85 @g29:=a0c good Tryz.func85 kr kr (cgc f9a cg0) (fun a=>kr)
theorem f7g:SG ZP sg 42 @e15:=a0c good Tryz.func42 kr kr (cgc d6k (cgc f7t (cgc f7f cg0))) (fun a=>kr)
theorem g7i:fnB ZP 16 Tryz.f16 [4]=true:=kr
theorem f0a:CG ZP sg @e43:=(cgc g6r (cgc d6f (cgc d5x (cgc c4h (cgc d6k (cgc f7g cg0))))))
theorem e66:d9 ZP sg 0 Tryz.f16 @c08 4:=o0 c76 good Tryz.func16 g7i f0a d7 (fun a=>kr) kr (fun _ _=>rfl)
theorem f6a:SG ZP sg 16 @e09:=a2s (loops:=c08) good Tryz.func16 g7i kr f0a (all_cons e66 d7) (fun a=>kr)
theorem f7h:SG ZP sg 95 @e16:=a0c good Tryz.func95 kr kr (cgc b7g (cgc (sgP c4k) cg0)) (fun a=>kr)
theorem f73:SG ZP sg 119 @e2r:=a0c good Tryz.func119 kr kr cg0 (fun a=>kr)
theorem g7y:fnB ZP 97 Tryz.f97 [5]=true:=kr
theorem f0b:CG ZP sg @e44:=(cgc f73 (cgc b7f (cgc d6b cg0)))
theorem e67:d9 ZP sg 0 Tryz.f97 @c09 5:=o0 c77 good Tryz.func97 g7y f0b d7 (fun a=>kr) kr (fun _ _=>rfl)
theorem f6b:SG ZP sg 97 @e1a:=a2s (loops:=c09) good Tryz.func97 g7y kr f0b (all_cons e67 d7) (fun a=>kr)
theorem e6k:fnB ZP 49 Tryz.f49 [4,10,16]=true:=kr
theorem e51:CG ZP sg @f45:=(cgc f7h (cgc b7e (cgc f6b cg0)))
theorem g0t:d9 ZP sg 0 Tryz.f49 @b0u 4:=o0 d8l good Tryz.func49 e6k e51 d7 (fun a=>kr) kr (fun _ _=>rfl)
theorem e76:d9 ZP sg 0 Tryz.f49 @b0u 10:=o0 c87 good Tryz.func49 e6k e51 d7 (fun a=>kr) kr (fun _ _=>rfl)
theorem e77:d9 ZP sg 0 Tryz.f49 @b0u 16:=o0 c88 good Tryz.func49 e6k e51 d7 (fun a=>kr) kr (fun _ _=>rfl)
theorem g65:SG ZP sg 49 @h0t:=a2s (loops:=b0u) good Tryz.func49 e6k kr e51 (all_cons g0t (all_cons e76 (all_cons e77 d7))) (fun a=>kr)
theorem f7i:SG ZP sg 163 @e18:=a0c good Tryz.func163 kr kr (cgc (sgP c4k) (cgc (sgP d6n) cg0)) (fun a=>kr)
theorem g7z:fnB ZP 98 Tryz.f98 [5]=true:=kr
theorem f0c:CG ZP sg @e45:=(cgc f7i cg0)
theorem e68:d9 ZP sg 0 Tryz.f98 @c1a 5:=o0 c78 good Tryz.func98 g7z f0c d7 (fun a=>kr) kr (fun _ _=>rfl)
theorem f6c:SG ZP sg 98 @e1b:=a2s (loops:=c1a) good Tryz.func98 g7z kr f0c (all_cons e68 d7) (fun a=>kr)
theorem f8s:SG ZP sg 164 @e26:=a0c good Tryz.func164 kr kr cg0 (fun a=>kr)
theorem f8q:SG ZP sg 165 @e25:=a0c good Tryz.func165 kr kr cg0 (fun a=>kr)
theorem g70:fnB ZP 99 Tryz.f99 [4]=true:=kr
theorem f0z:CG ZP sg @e5s:=(cgc f8s (cgc f8q cg0))
theorem e7z:d9 ZP sg 0 Tryz.f99 @c1x 4:=o0 c8x good Tryz.func99 g70 f0z d7 (fun a=>kr) kr (fun _ _=>rfl)
theorem f60:SG ZP sg 99 @e1r:=a2s (loops:=c1x) good Tryz.func99 g70 kr f0z (all_cons e7z d7) (fun a=>kr)
theorem f8n:SG ZP sg 238 @g31:=a0c good Tryz.func238 kr kr (cgc c4f cg0) (fun a=>kr)
theorem f78:SG ZP sg 166 @e2t:=a0c good Tryz.func166 kr kr (cgc c4f (cgc f8n cg0)) (fun a=>kr)
theorem f7s:SG ZP sg 168 @e2k:=a0c good Tryz.func168 kr kr cg0 (fun a=>kr)
theorem b41:fnB ZP 167 Tryz.f167 [2,5]=true:=kr
theorem f5i:CG ZP sg @f4u:=(cgc f7s cg0)
theorem d8w:d9 ZP sg 0 Tryz.f167 @b76 5:=o0 d75 good Tryz.func167 b41 f5i d7 (fun a=>kr) kr (fun _ _=>rfl)
theorem g0g:d9 ZP sg 0 Tryz.f167 @b76 2:=o0 d74 good Tryz.func167 b41 f5i (all_cons d8w d7) (fun a=>kr) kr (fun _ _=>rfl)
theorem g6t:SG ZP sg 167 @f3x:=a2s (loops:=b76) good Tryz.func167 b41 kr f5i (all_cons g0g (all_cons d8w d7)) (fun a=>kr)
theorem f7r:SG ZP sg 169 @e2j:=a0c good Tryz.func169 kr kr cg0 (fun a=>kr)
theorem b69:CG ZP sg @d06:=(cgc f7r cg0)
theorem b5i:d9 ZP sg 0 Tryz.f167 @a7q 5:=o0 b5f good Tryz.func167 b41 b69 d7 (fun a=>kr) kr (fun _ _=>rfl)
theorem d16:d9 ZP sg 0 Tryz.f167 @a7q 2:=o0 b5e good Tryz.func167 b41 b69 (all_cons b5i d7) (fun a=>kr) kr (fun _ _=>rfl)
theorem d6m:SG ZP sg 167 @c28:=a2s (loops:=a7q) good Tryz.func167 b41 kr b69 (all_cons d16 (all_cons b5i d7)) (fun a=>kr)
theorem f08:fnB ZP 100 Tryz.f100 [4]=true:=kr
theorem g6g:CG ZP sg @f42:=(cgc f78 (cgc (sgi g6t (sgi d6m sg0)) cg0))
theorem g0q:d9 ZP sg 0 Tryz.f100 @c9p 4:=o0 d8h good Tryz.func100 f08 g6g d7 (fun a=>kr) kr (fun _ _=>rfl)
theorem g62:SG ZP sg 100 @f33:=a2s (loops:=c9p) good Tryz.func100 f08 kr g6g (all_cons g0q d7) (fun a=>kr)
theorem f68:SG ZP sg 241 @g22:=a0c good Tryz.func241 kr kr cg0 (fun a=>kr)
theorem f72:SG ZP sg 171 @e2q:=a0c good Tryz.func171 kr kr (cgc f68 cg0) (fun a=>kr)
theorem d54:SG ZP sg 172 @e1z:=a0c good Tryz.func172 kr kr cg0 (fun a=>kr)
theorem f1k:fnB ZP 242 Tryz.f242 [2]=true:=kr
theorem f0s:CG ZP sg @e5l:=(cgc d54 cg0)
theorem e7p:d9 ZP sg 0 Tryz.f242 @c1q 2:=o0 c8p good Tryz.func242 f1k f0s d7 (fun a=>kr) kr (fun _ _=>rfl)
theorem f6p:SG ZP sg 242 @g2n:=a2s (loops:=c1q) good Tryz.func242 f1k kr f0s (all_cons e7p d7) (fun a=>kr)
theorem f8t:SG ZP sg 173 @e27:=a0c good Tryz.func173 kr kr (cgc d54 (cgc f6p cg0)) (fun a=>kr)
theorem f1a:fnB ZP 102 Tryz.f102 [4]=true:=kr
theorem g6j:CG ZP sg @f5a:=(cgc f72 (cgc f8t cg0))
theorem g0w:d9 ZP sg 0 Tryz.f102 @c9s 4:=o0 d8o good Tryz.func102 f1a g6j d7 (fun a=>kr) kr (fun _ _=>rfl)
theorem g66:SG ZP sg 102 @f38:=a2s (loops:=c9s) good Tryz.func102 f1a kr g6j (all_cons g0w d7) (fun a=>kr)
theorem e6l:fnB ZP 50 Tryz.f50 [4,12,18]=true:=kr
theorem e50:CG ZP sg @f44:=(cgc b7g (cgc f6c (cgc f60 (cgc g62 (cgc d5y (cgc g66 (cgc f04 cg0)))))))
theorem g0s:d9 ZP sg 0 Tryz.f50 @b0t 4:=o0 d8k good Tryz.func50 e6l e50 d7 (fun a=>kr) kr (fun _ _=>rfl)
theorem e74:d9 ZP sg 0 Tryz.f50 @b0t 12:=o0 c85 good Tryz.func50 e6l e50 d7 (fun a=>kr) kr (fun _ _=>rfl)
theorem e75:d9 ZP sg 0 Tryz.f50 @b0t 18:=o0 c86 good Tryz.func50 e6l e50 d7 (fun a=>kr) kr (fun _ _=>rfl)
theorem g64:SG ZP sg 50 @h0s:=a2s (loops:=b0t) good Tryz.func50 e6l kr e50 (all_cons g0s (all_cons e74 (all_cons e75 d7))) (fun a=>kr)
theorem f7c:SG ZP sg 104 @e1x:=a0c good Tryz.func104 kr kr (cgc d6r cg0) (fun a=>kr)
theorem e6m:fnB ZP 51 Tryz.f51 [3,9,15]=true:=kr
theorem e5w:CG ZP sg @f4v:=(cgc b7e (cgc f7c cg0))
theorem g0h:d9 ZP sg 0 Tryz.f51 @b0p 3:=o0 d76 good Tryz.func51 e6m e5w d7 (fun a=>kr) kr (fun _ _=>rfl)
theorem g0i:d9 ZP sg 0 Tryz.f51 @b0p 9:=o0 d77 good Tryz.func51 e6m e5w d7 (fun a=>kr) kr (fun _ _=>rfl)
theorem e72:d9 ZP sg 0 Tryz.f51 @b0p 15:=o0 c80 good Tryz.func51 e6m e5w d7 (fun a=>kr) kr (fun _ _=>rfl)
theorem g6u:SG ZP sg 51 @h0o:=a2s (loops:=b0p) good Tryz.func51 e6m kr e5w (all_cons g0h (all_cons g0i (all_cons e72 d7))) (fun a=>kr)
theorem f8v:SG ZP sg 106 @e29:=a0c good Tryz.func106 kr kr (cgc d6h (cgc d5r cg0)) (fun a=>kr)
theorem g7q:fnB ZP 52 Tryz.f52 [2]=true:=kr
theorem f00:CG ZP sg @e5t:=(cgc f8v cg0)
theorem e70:d9 ZP sg 0 Tryz.f52 @c1y 2:=o0 c8y good Tryz.func52 g7q f00 d7 (fun a=>kr) kr (fun _ _=>rfl)
theorem f65:SG ZP sg 52 @g2y:=a2s (loops:=c1y) good Tryz.func52 g7q kr f00 (all_cons e70 d7) (fun a=>kr)
theorem f9l:fnB ZP 53 Tryz.f53 [2,16]=true:=kr
theorem f5p:CG ZP sg @f5f:=(cgc c38 (cgc b7e cg0))
theorem g01:d9 ZP sg 0 Tryz.f53 @b8d 2:=o0 d8t good Tryz.func53 f9l f5p d7 (fun a=>kr) kr (fun _ _=>rfl)
theorem e8c:d9 ZP sg 0 Tryz.f53 @b8d 16:=o0 c9d good Tryz.func53 f9l f5p d7 (fun a=>kr) kr (fun _ _=>rfl)
theorem g7b:SG ZP sg 53 @h0v:=a2s (loops:=b8d) good Tryz.func53 f9l kr f5p (all_cons g01 (all_cons e8c d7)) (fun a=>kr)
theorem f8u:SG ZP sg 22 @e28:=a0c good Tryz.func22 kr kr (cgc b7g (cgc g65 (cgc g64 (cgc g6u (cgc f65 (cgc g7b cg0)))))) (fun a=>kr)
theorem g7u:fnB ZP 6 Tryz.f6 [8,12,16]=true:=kr
theorem e5x:CG ZP sg @f4y:=(cgc (sgP f6v) (cgc f8d (cgc f6a (cgc d5v (cgc f8u cg0)))))
theorem c9h:d9 ZP sg 0 Tryz.f6 @b0q 12:=o0 c81 good Tryz.func6 g7u e5x d7 (fun a=>kr) kr (fun _ _=>rfl)
theorem c9i:d9 ZP sg 0 Tryz.f6 @b0q 16:=o0 c82 good Tryz.func6 g7u e5x d7 (fun a=>kr) kr (fun _ _=>rfl)
theorem g0l:d9 ZP sg 0 Tryz.f6 @b0q 8:=o0 d8b good Tryz.func6 g7u e5x (all_cons c9h (all_cons c9i d7)) (fun a=>kr) kr (fun _ _=>rfl)
theorem g6y:SG ZP sg 6 @h0p:=a2s (loops:=b0q) good Tryz.func6 g7u kr e5x (all_cons g0l (all_cons c9h (all_cons c9i d7))) (fun a=>kr)
end
section
open Ev
open Go (IntKind)
section
variable {α β σ X:Type}
theorem d1t {step:α→Option (α⊕β)}:∀{n m:Nat} {a:α} {b:β},n≤m→o4 step n a=some b→o4 step m a=some b:=by
 intro n
 induction n with
 |zero=>intro m a b _ h;cases h
 |succ n ih=>
  intro m a b hm h;obtain ⟨m,rfl⟩:∃k,m=k+1:=⟨m-1,by omega⟩
  simp only[o4]at h ⊢;cases h1:step a with
  |none=>rw[h1]at h;cases h
  |some x=>
   rw[h1]at h;cases x with
   |inl a'=>exact ih (by omega) h
   |inr b'=>exact h
theorem o9 {step:α→Option (α⊕β)} {a:α} {b:β} (n:Nat) (hn:n≤b8y) (h:o4 step n a=some b):c9 step a=some b:=d1t hn h
theorem e3v {step:α→Option (α⊕β)} (Inv:α→Prop) (μ:α→Nat) (f:α→β)
 (h:∀a,Inv a→(∃a',step a=some (.inl a')∧Inv a'∧μ a'<μ a∧f a'=f a)∨step a=some (.inr (f a))) {a:α} (ha:Inv a) (hm:μ a<b8y):c9 step a=some (f a):=by
 have key:∀n a,Inv a→μ a<n→o4 step n a=some (f a):=by
  intro n
  induction n with
  |zero=>intro a _ h;omega
  |succ n ih=>
   intro a hi hn;simp only[o4];rcases h a hi with ⟨a',h1,h2,h3,h4⟩|h1
   ·rw[h1];simp only;rw[ih a' h2 (by omega),h4]
   ·rw[h1]
 exact key b8y a ha hm
def a04 (f:Nat→X→σ→σ⊕β) (fin:σ→β):Nat→List X→σ→β
 |_,[],s=>fin s
 |i,x::l,s=>match f i x s with
  |.inl s'=>a04 f fin (i+1) l s'
  |.inr b=>b
theorem n9 {step:α→Option (α⊕β)} (Inv:Nat→σ→Prop) (enc:Nat→σ→α) (l:List X) (f:Nat→X→σ→σ⊕β) (fin:σ→β) (hl:l.length<b8y)
 (h0:∀s,Inv l.length s→step (enc l.length s)=some (.inr (fin s)))
 (h1:∀i x s,l[i]?=some x→Inv i s→(step (enc i s)=some (match f i x s with | .inl s'=>.inl (enc (i+1) s') | .inr b=>.inr b))∧∀s',f i x s=.inl s'→Inv (i+1) s')
 (s:σ) (hs:Inv 0 s):c9 step (enc 0 s)=some (a04 f fin 0 l s):=by
 have key:∀k i s,i+k=l.length→Inv i s→o4 step (k+1) (enc i s)=some (a04 f fin i (l.drop i) s):=by
  intro k
  induction k with
  |zero=>
   intro i s hi hs;have:i=l.length:=by omega
   subst this;rw[List.drop_length];simp only[o4,h0 s hs,a04]
  |succ k ih=>
   intro i s hi hs;have hlt:i<l.length:=by omega
   obtain ⟨e1,e2⟩:=h1 i l[i] s (yab hlt) hs;rw[ybN hlt];rw[o4,e1];simp only[a04];cases hf:f i l[i] s with
   |inl s'=>simp only;exact ih (i+1) s' (by omega) (e2 s' hf)
   |inr b=>rfl
 have:=key l.length 0 s (by omega) hs;exact o9 (l.length+1) (by omega) (by simpa using this)
theorem a1u {step:α→Option (α⊕β)} (enc:Nat→σ→α) (l:List X) (f:Nat→X→σ→σ⊕β) (fin:σ→β) (hl:l.length<b8y)
 (h0:∀s,step (enc l.length s)=some (.inr (fin s)))
 (h1:∀i x s,l[i]?=some x→step (enc i s)=some (match f i x s with | .inl s'=>.inl (enc (i+1) s') | .inr b=>.inr b))
 (s:σ):c9 step (enc 0 s)=some (a04 f fin 0 l s):=
 n9 (fun _ _=>True) enc l f fin hl (fun s _=>h0 s) (fun i x s hx _=>⟨h1 i x s hx,fun _ _=>trivial⟩) s trivial
def a6w (p:X→Bool) (l:List X):Int:=match l.findIdx? p with|some i=>(i:Int)|none=>-1
def y0 (f:Nat→X→Int):Nat→List X→Int
 |_,[]=>0
 |i,x::l=>if f i x==0 then y0 f (i+1) l else f i x
theorem e03 {f:Nat→X→Int} {d:β} {g:Int→β}:∀{l:List X} {i:Nat},a04 (σ:=Unit) (fun i x _=>if f i x==0 then .inl () else .inr (g (f i x))) (fun _=>d) i l ()=if y0 f i l==0 then d else g (y0 f i l):=by
 intro l
 induction l with
 |nil=>intros;rfl
 |cons x l ih=>
  intro i;simp only[a04,y0];by_cases h:(f i x==0)=true
  ·simp only[h,yby];exact ih
  ·have h2:¬f i x=0:=fun e=>h (by simp[e])
   simp[h2]
theorem b40 {f:Nat→X→Int}:∀{l:List X} {i:Nat},y0 f i l=0↔∀k x,l[k]?=some x→f (i+k) x=0:=by
 intro l
 induction l with
 |nil=>intro i;simp[y0]
 |cons y l ih=>
  intro i;simp only[y0];constructor
  ·intro h k x hk;split at h
   ·rename_i h1;cases k with
    |zero=>simp at hk;subst hk;simpa using h1
    |succ k=>have:=(ih (i:=i+1)).1 h k x (by simpa using hk);rwa [show i+(k+1)=i+1+k by omega]
   ·rename_i h1;exfalso;apply h1;simp[h]
  ·intro h;have h0:=h 0 y rfl;simp only[ybe]at h0;rw[h0];simp only[yal,yby];exact ih.2 (fun k x hk=>by have:=h (k+1) x (by simpa using hk);rwa [show i+(k+1)=i+1+k by omega]at this)
theorem a1y {f:X→σ→σ} {fin:σ→β}:∀{l:List X} {i:Nat} {s:σ},a04 (fun _ x s=>.inl (f x s)) fin i l s=fin (l.foldl (fun s x=>f x s) s):=by
 intro l
 induction l with
 |nil=>intros;rfl
 |cons x l ih=>intro i s;simp only[a04,ybn];exact ih
end
section
variable {α β σ X:Type} {step:α→Option (α⊕β)}
def a7h (a:α) (g:Int→β) (e:Int):Option (α⊕β):=if e==0 then some (.inl a) else some (.inr (g e))
theorem a0l (a:α) (g:Int→β) (b:Bool) (x y:Int):a7h a g (bif b then x else y)=bif b then a7h a g x else a7h a g y:=by cases b<;>rfl
theorem a1e (enc:Nat→α) (l:List X) (f:Nat→X→Int) (d:β) (g:Int→β) (hl:l.length<1000000000) (h0:step (enc l.length)=some (.inr d))
 (h1:∀i x,l[i]?=some x→step (enc i)=a7h (enc (i+1)) g (f i x)):c9 step (enc 0)=some (if y0 f 0 l==0 then d else g (y0 f 0 l)):=by
 have h:=a1u (step:=step) (fun i (_:Unit)=>enc i) l (fun i x _=>if f i x==0 then .inl () else .inr (g (f i x))) (fun _=>d) (by show l.length<18446744073709551616;omega) (fun _=>h0)
  (fun i x _ hx=>by rw[h1 i x hx];unfold a7h;split<;>rfl) ()
 rw[h,e03]
def a2t (p:X→Bool) (g:Nat→X→β) (d:β):Nat→List X→β
 |_,[]=>d
 |i,x::l=>bif p x then g i x else a2t p g d (i+1) l
theorem u7 (enc:Nat→α) (l:List X) (p:X→Bool) (g:Nat→X→β) (d:β) (hl:l.length<1000000000) (h0:step (enc l.length)=some (.inr d))
 (h1:∀i x,l[i]?=some x→step (enc i)=bif p x then some (.inr (g i x)) else some (.inl (enc (i+1)))):c9 step (enc 0)=some (a2t p g d 0 l):=by
 have h:=a1u (step:=step) (fun i (_:Unit)=>enc i) l (fun i x _=>if p x then .inr (g i x) else .inl ()) (fun _=>d) (by show l.length<18446744073709551616;omega) (fun _=>h0)
  (fun i x _ hx=>by rw[h1 i x hx];cases p x<;>rfl) ()
 rw[h];have key:∀(l:List X) (i:Nat),a04 (σ:=Unit) (fun i x _=>if p x then .inr (g i x) else .inl ()) (fun _=>d) i l ()=a2t p g d i l:=by
  intro l
  induction l with
  |nil=>intro i;rfl
  |cons x l ih=>
   intro i;simp only[a04,a2t];cases p x with
   |true=>rfl
   |false=>exact ih _
 rw[key]
theorem a9a {p:X→Bool} {g:X→β} {d:β}:∀{l:List X} {i:Nat},a2t p (fun _ x=>g x) d i l=(match l.find? p with|some x=>g x|none=>d):=by
 intro l
 induction l with
 |nil=>intros;rfl
 |cons x l ih=>intro i;simp only[a2t,List.find?_cons];cases p x with|true=>rfl|false=>exact ih
theorem d7b {p:X→Bool}:∀{l:List X} {i:Nat},a2t p (fun i _=>(i:Int)) (-1) i l=(match l.findIdx? p with|some k=>((i+k:Nat):Int)|none=>-1):=by
 intro l
 induction l with
 |nil=>intros;rfl
 |cons x l ih=>
  intro i;simp only[a2t,yb0];cases p x with
  |true=>rfl
  |false=>
   simp only[yay,ybf,yaa];rw[ih];cases l.findIdx? p with
   |none=>rfl
   |some k=>simp only[ybF];rw[show i+1+k=i+(k+1) by omega]
theorem a1x {p:X→Bool} {l:List X}:a2t p (fun i _=>(i:Int)) (-1) 0 l=a6w p l:=by
 rw[d7b];unfold a6w;simp
theorem a00 {γ:Type} {p:X→Bool} {g:Nat→X→β} {d:β} (f:β→γ):∀{l:List X} {i:Nat},f (a2t p g d i l)=a2t p (fun i x=>f (g i x)) (f d) i l:=by
 intro l
 induction l with
 |nil=>intros;rfl
 |cons x l ih=>intro i;simp only[a2t];cases p x with|true=>rfl|false=>exact ih
def a1f (p:Nat→X→Bool):Nat→List X→Bool
 |_,[]=>true
 |i,x::l=>p i x&&a1f p (i+1) l
theorem m0 (enc:Nat→α) (l:List X) (p:Nat→X→Bool) (b d:β) (hl:l.length<1000000000) (h0:step (enc l.length)=some (.inr d))
 (h1:∀i x,l[i]?=some x→step (enc i)=bif p i x then some (.inl (enc (i+1))) else some (.inr b)):c9 step (enc 0)=some (bif a1f p 0 l then d else b):=by
 have h:=a1u (step:=step) (fun i (_:Unit)=>enc i) l (fun i x _=>if p i x then .inl () else .inr b) (fun _=>d) (by show l.length<18446744073709551616;omega) (fun _=>h0)
  (fun i x _ hx=>by rw[h1 i x hx];cases p i x<;>rfl) ()
 rw[h];have key:∀(l:List X) (i:Nat),a04 (σ:=Unit) (fun i x _=>if p i x then .inl () else .inr b) (fun _=>d) i l ()=bif a1f p i l then d else b:=by
  intro l
  induction l with
  |nil=>intro i;rfl
  |cons x l ih=>
   intro i;simp only[a04,a1f];cases p i x with
   |true=>exact ih _
   |false=>rfl
 rw[key]
theorem o8 {p:X→Bool}:∀{l:List X} {i:Nat},a1f (fun _=>p) i l=l.all p:=by
 intro l
 induction l with
 |nil=>intros;rfl
 |cons x l ih=>intro i;simp only[a1f,ybJ];rw[ih]
theorem a5d {p:Nat→X→Bool}:∀{l:List X} {i:Nat},a1f p i l=true↔∀k x,l[k]?=some x→p (i+k) x=true:=by
 intro l
 induction l with
 |nil=>intro i;simp[a1f]
 |cons y l ih=>
  intro i;simp only[a1f,yad];rw[ih];constructor
  ·rintro ⟨h0,h⟩ k x hk;cases k with
   |zero=>simp at hk;subst hk;exact h0
   |succ k=>have:=h k x (by simpa using hk);rwa [show i+(k+1)=i+1+k by omega]
  ·intro h;exact ⟨h 0 y rfl,fun k x hk=>by have:=h (k+1) x (by simpa using hk);rwa [show i+(k+1)=i+1+k by omega]at this⟩
theorem a7x (enc:Nat→σ→α) (l:List X) (f:X→σ→σ) (fin:σ→β) (hl:l.length<1000000000) (h0:∀s,step (enc l.length s)=some (.inr (fin s)))
 (h1:∀i x s,l[i]?=some x→step (enc i s)=some (.inl (enc (i+1) (f x s)))) (s:σ):c9 step (enc 0 s)=some (fin (l.foldl (fun s x=>f x s) s)):=by
 have h:=a1u (step:=step) enc l (fun i x s=>.inl (f x s)) fin (by show l.length<18446744073709551616;omega) h0 (fun i x s hx=>by rw[h1 i x s hx]) s;rw[h,a1y]
end
def p8 {X:Type} (l:List X) (i:Nat) (f:X→Bool):Bool:=match i with
 |0=>false
 |j+1=>match l[j]? with|some y=>f y|none=>false
theorem a1h {n:Int} (h1 : -9223372036854775808≤n) (h2:n≤9223372036854775807):wr .i64 n=n:=by
 unfold wr;rw[IntKind.wrap_i64];omega
theorem f7 {n:Nat} (h:n<9223372036854775807):wr .i64 ((n:Int)+1)=((n+1:Nat):Int):=by
 rw[a1h (by omega) (by omega)];rfl
theorem a3z {j:Nat} (h:j<1000000000):wr .i64 (((j+1:Nat):Int)-1)=(j:Int):=by
 rw[show ((j+1:Nat):Int)-1=(j:Int) by omega];exact a1h (by omega) (by omega)
theorem e34 {j:Nat}:decide ((0:Int)<((j+1:Nat):Int))=true:=by rw[yae];omega
theorem b37:decide ((0:Int)<((0:Nat):Int))=false:=rfl
theorem d8 {α:Type} (l:List α) (i:Nat):n5 l (i:Int)=l[i]?:=by
 unfold n5;simp
theorem a4f:LIM=1073741824:=rfl
theorem m7:b8y=18446744073709551616:=rfl
end
section
open Ev
open Go (IntKind)
theorem dlt {i n:Nat} (h:i<n):decide ((i:Int)<(n:Int))=true:=by simpa using h
theorem dge {n:Nat}:decide ((n:Int)<(n:Int))=false:=by simp
theorem a0i {α:Type} (k:Bool→α) (a b:Bool):(bif a then k true else k b)=k (a||b):=by cases a<;>rfl
theorem o5 {α:Type} (k:Bool→α) (a b:Bool):(bif a then k b else k false)=k (a&&b):=by cases a<;>rfl
theorem a9c {α:Type} (k:Bool→α) (a b:Bool):(bif a then k a else k b)=k (a||b):=by cases a<;>rfl
theorem a1z {α:Type} (c:Bool) (a b:α):(bif c then some a else some b)=some (bif c then a else b):=by cases c<;>rfl
theorem g4p (b:UInt8):wr .i64 (b.toNat:Int)=(b.toNat:Int):=by
 have:=b.toNat_lt;exact a1h (by omega) (by omega)
def h07 (r:List UInt8):Int×Int:=(((dcd r).1:Int),((dcd r).2:Int))
theorem d9y {s:List UInt8} {i:Nat} (hi:i<s.length) (hs:s.length<1000000000):qbk s (i:Int)=some (h07 (s.drop i)):=by
 obtain ⟨a,r,hr⟩:∃a r,s.drop i=a::r:=⟨s[i],s.drop (i+1),ybN hi⟩
 have g:∀k,n5 s ((i+k:Nat):Int)=(a::r)[k]?:=fun k=>by rw[d8,←hr,ybM]
 have h0:n5 s (i:Int)=some a:=g 0;have w1:wr .i64 ((i:Int)+1)=((i+1:Nat):Int):=f7 (by omega);have w2:wr .i64 ((i:Int)+2)=((i+2:Nat):Int):=by rw[a1h (by omega) (by omega)];rfl
 have hl:s.length=i+(r.length+1):=by
  have:=congrArg List.length hr;simp only[ybc,yaD]at this;omega
 have ha:=a.toNat_lt;unfold qbk;rw[hr];unfold h07 dcd;have t1:decide (((i+1:Nat):Int)<((i+(r.length+1):Nat):Int))=decide (0<r.length):=by congr 1;simp only[eq_iff_iff];omega
 have t2:decide (((i+2:Nat):Int)<((i+(r.length+1):Nat):Int))=decide (1<r.length):=by congr 1;simp only[eq_iff_iff];omega
 simp -zeta only[h0,w1,w2,g 1,g 2,g4p,a0i,o5,hl,t1,t2];dsimp only;clear hl t1 t2 g hr hi h0 w1 w2 hs;by_cases c1:32≤a.toNat∧a.toNat<127
 ·have e1:(decide ((32:Int)≤(a.toNat:Int))&&decide ((a.toNat:Int)<127))=true:=by simp;omega
  simp only[e1,yac,yaK c1];rfl
 have e1:(decide ((32:Int)≤(a.toNat:Int))&&decide ((a.toNat:Int)<127))=false:=by simp;omega
 simp only[e1,yaa,yas c1];by_cases c2:194≤a.toNat∧a.toNat<224
 ·have e2:(decide ((194:Int)≤(a.toNat:Int))&&decide ((a.toNat:Int)<224))=true:=by simp;omega
  have e3:decide ((224:Int)≤(a.toNat:Int))=false:=by simp;omega
  simp only[e2,e3,yaQ,ya9,yaa,yaK c2];rcases r with _|⟨b,r⟩
  ·rfl
  have hb:=b.toNat_lt;have l1:decide (0<(b::r).length)=true:=by simp
  have g1:(a::b::r)[1]?=some b:=rfl;have e4:wr .i64 ((wr .i64 ((wr .i64 ((wr .i64 ((a.toNat:Int)-192))*64))+(b.toNat:Int)))-128)=((a.toNat:Int)-192)*64+(b.toNat:Int)-128:=by
   rw[a1h (n:=(a.toNat:Int)-192) (by omega) (by omega),a1h (n:=((a.toNat:Int)-192)*64) (by omega) (by omega),a1h (n:=((a.toNat:Int)-192)*64+(b.toNat:Int)) (by omega) (by omega),a1h (by omega) (by omega)]
  simp only[l1,g1,e4,yac];by_cases cb:128≤b.toNat
  ·have b1:decide ((128:Int)≤(b.toNat:Int))=true:=by simp;omega
   simp only[b1,yac];by_cases cb2:b.toNat<192
   ·have b2:decide ((b.toNat:Int)<192)=true:=by simp;omega
    simp only[b2,g1,yac,Bool.cond_eq_ite,yae];rw[yaK True.intro];split
    ·rw[yaK (by omega)];simp only[yak,ya4];omega
    ·rw[yas (by omega)];rfl
   ·have b2:decide ((b.toNat:Int)<192)=false:=by simp;omega
    simp only[b2,yaa];rw[yas (by omega)];rfl
  ·have b1:decide ((128:Int)≤(b.toNat:Int))=false:=by simp;omega
   simp only[b1,yaa];rw[yas (by omega)];rfl
 have e2:(decide ((194:Int)≤(a.toNat:Int))&&decide ((a.toNat:Int)<224))=false:=by simp;omega
 simp only[e2,ya9,yaa,yas c2];by_cases c3:224≤a.toNat∧a.toNat<240
 ·have e3:(decide ((224:Int)≤(a.toNat:Int))&&decide ((a.toNat:Int)<240))=true:=by simp;omega
  simp only[e3,yaQ,yaK c3];rcases r with _|⟨b,_|⟨c,r⟩⟩
  ·rfl
  ·rfl
  have hb:=b.toNat_lt;have hc:=c.toNat_lt;have l1:decide (1<(b::c::r).length)=true:=by simp
  have g1:(a::b::c::r)[1]?=some b:=rfl;have g2:(a::b::c::r)[2]?=some c:=rfl;have e4:wr .i64 ((wr .i64 ((wr .i64 ((wr .i64 ((wr .i64 ((a.toNat:Int)-224))*4096))+(wr .i64 ((wr .i64 ((b.toNat:Int)-128))*64))))+(c.toNat:Int)))-128)=((a.toNat:Int)-224)*4096+((b.toNat:Int)-128)*64+(c.toNat:Int)-128:=by
   rw[a1h (n:=(a.toNat:Int)-224) (by omega) (by omega),a1h (n:=((a.toNat:Int)-224)*4096) (by omega) (by omega),a1h (n:=(b.toNat:Int)-128) (by omega) (by omega),a1h (n:=((b.toNat:Int)-128)*64) (by omega) (by omega),
    a1h (n:=((a.toNat:Int)-224)*4096+((b.toNat:Int)-128)*64) (by omega) (by omega),a1h (n:=((a.toNat:Int)-224)*4096+((b.toNat:Int)-128)*64+(c.toNat:Int)) (by omega) (by omega),a1h (by omega) (by omega)]
  simp only[l1,g1,g2,e4,yac];by_cases cb:128≤b.toNat
  ·have b1:decide ((128:Int)≤(b.toNat:Int))=true:=by simp;omega
   simp only[b1,yac];by_cases cb2:b.toNat<192
   ·have b2:decide ((b.toNat:Int)<192)=true:=by simp;omega
    simp only[b2,yac];by_cases cc:128≤c.toNat
    ·have d1:decide ((128:Int)≤(c.toNat:Int))=true:=by simp;omega
     simp only[d1,yac];by_cases cc2:c.toNat<192
     ·have d2:decide ((c.toNat:Int)<192)=true:=by simp;omega
      simp only[d2,g1,g2,yac,Bool.cond_eq_ite,yad,ybk,yae];rw[yaK True.intro];split
      ·rw[yaK (by omega)];simp only[yak,ya4];omega
      ·rw[yas (by omega)];rfl
     ·have d2:decide ((c.toNat:Int)<192)=false:=by simp;omega
      simp only[d2,yaa];rw[yas (by omega)];rfl
    ·have d1:decide ((128:Int)≤(c.toNat:Int))=false:=by simp;omega
     simp only[d1,yaa];rw[yas (by omega)];rfl
   ·have b2:decide ((b.toNat:Int)<192)=false:=by simp;omega
    simp only[b2,yaa];rw[yas (by omega)];rfl
  ·have b1:decide ((128:Int)≤(b.toNat:Int))=false:=by simp;omega
   simp only[b1,yaa];rw[yas (by omega)];rfl
 ·have e3:(decide ((224:Int)≤(a.toNat:Int))&&decide ((a.toNat:Int)<240))=false:=by simp;omega
  simp only[e3,ya9,yaa,yas c3];rfl
theorem f06 (l:List UInt8):(dcd l).2≤l.length:=by
 unfold dcd;split
 ·simp
 ·rename_i a r;split
  ·simp
  ·split
   ·split
    ·split<;>simp
    ·simp
   ·split
    ·split
     ·split<;>simp
     ·simp
    ·simp
theorem e3s (n:Nat) {s:List UInt8} {i:Nat} (hi:i<s.length):d3s (n+1) (s.drop i)=if (dcd (s.drop i)).2=0 then false else d3s n (s.drop (i+(dcd (s.drop i)).2)):=by
 have:s.drop i≠[]:=by simp;omega
 simp only[d3s,this,ybf,List.drop_drop]
theorem f2e {s:List UInt8} (hs:s.length<1000000000):qaa s=some (vld s):=by
 have key:∀n i,s.length-i≤n→i≤s.length→o4 b5r (n+1) (s,(i:Int),())=some (if d3s n (s.drop i) then .inl () else .inr (false,())):=by
  intro n
  induction n with
  |zero=>
   intro i h1 h2;have:i=s.length:=by omega
   subst this;simp only[o4,b5r,dge,yaa,d3s,yby]
  |succ n ih=>
   intro i h1 h2;rw[o4];by_cases hi:i<s.length
   ·rw[e3s n hi];have hle:=f06 (s.drop i);rw[ybc]at hle;simp only[b5r,dlt hi,yac,d9y hi hs,h07];by_cases h0:(dcd (s.drop i)).2=0
    ·simp[h0]
    ·have hb:(((dcd (s.drop i)).2:Int)==0)=false:=by simp;omega
     have hw:wr .i64 ((i:Int)+((dcd (s.drop i)).2:Int))=((i+(dcd (s.drop i)).2:Nat):Int):=by rw[a1h (by omega) (by omega)];rfl
     simp only[hb,yaa,hw,h0,ybf];exact ih _ (by omega) (by omega)
   ·have:i=s.length:=by omega
    subst this;simp[b5r,d3s]
 unfold qaa;have:=key s.length 0 (by omega) (by omega);rw[show ((0:Int))=((0:Nat):Int) from rfl,o9 (s.length+1) (by rw[m7];omega) this];simp only[List.drop_zero];unfold vld;cases d3s s.length s<;>rfl
theorem h17 {s:List UInt8} {i:Nat} (hi:i<s.length) (hs:s.length<1000000000):qf s (i:Int)=some ((wid (s.drop i):Nat):Int):=by
 unfold qf wid;rw[d9y hi hs];show some (if (((dcd (s.drop i)).2:Nat):Int)<1 then (1:Int) else (((dcd (s.drop i)).2:Nat):Int))=_
 rw[yak];by_cases h:(dcd (s.drop i)).2<1
 ·rw[yaK h,yaK (by omega)];rfl
 ·rw[yas h,yas (by omega)]
theorem h04 {l:List UInt8} (h:l≠[]):1≤wid l∧wid l≤l.length:=by
 have:=f06 l;have:0<l.length:=List.length_pos_iff.2 h;unfold wid;split<;>omega
theorem d5l (n:Nat) {s:List UInt8} {i:Nat} (hi:i<s.length) {out:List UInt8} {gap:Bool}:b8v (n+1) (s.drop i) out gap =
 if blk (dcd (s.drop i)).1 then b8v n (s.drop (i+wid (s.drop i))) out true else b8v n (s.drop (i+wid (s.drop i))) ((if gap&&!(out==[]) then out++[32] else out)++(s.drop i).take (wid (s.drop i))) false:=by
 have:s.drop i≠[]:=by simp;omega
 rw[b8v,yas this,List.drop_drop]
theorem g83 {s:List UInt8} (hs:s.length<100000000):qal s=some (cln s):=by
 have key:∀n i (out:List UInt8) (gap:Bool),s.length-i≤n→i≤s.length→out.length≤2*i→o4 b5y (n+1) (s,out,gap,(i:Int),())=some (b8v n (s.drop i) out gap,()):=by
  intro n
  induction n with
  |zero=>
   intro i out gap h1 h2 h3;have:i=s.length:=by omega
   subst this;simp only[o4,b5y,dge,yaa,b8v]
  |succ n ih=>
   intro i out gap h1 h2 h3;rw[o4];by_cases hi:i<s.length
   ·rw[d5l n hi];have hw0:=h04 (l:=s.drop i) (by simp;omega);rw[ybc]at hw0;obtain ⟨k,hk⟩:∃k,wid (s.drop i)=k:=⟨_,rfl⟩
    rw[hk]at hw0 ⊢;have hw:wr .i64 ((i:Int)+(k:Int))=((i+k:Nat):Int):=by rw[a1h (by omega) (by omega)];rfl
    have hb:q9 ((dcd (s.drop i)).1:Int)=some (blk (dcd (s.drop i)).1):=by
     unfold q9;simp -zeta only[a0i];simp only[yak,blk];rw[ybG];simp;omega
    simp only[b5y,dlt hi,yac,d9y hi (show s.length<1000000000 by omega),h17 hi (show s.length<1000000000 by omega),h07,hb,hk,hw];cases blk (dcd (s.drop i)).1 with
    |true=>simp only[yac,yby];exact ih _ _ _ (by omega) (by omega) (by omega)
    |false=>
     have hc:(decide ((0:Int)≤(i:Int))&&(decide ((i:Int)≤((i+k:Nat):Int))&&decide (((i+k:Nat):Int)≤(s.length:Int))))=true:=by simp;omega
     have ht:(s.take (i+k)).drop i=(s.drop i).take k:=by rw[List.drop_take];congr 1;omega
     simp only[yaa,hc,yac,yaI,ht,yay,ybf];have hlen:∀o:List UInt8,o.length≤2*i+1→decide (o.length+((s.drop i).take k).length≤LIM)=true:=fun o ho=>by
      rw[a4f];simp only[yaW,ybc,yae];omega
     cases hg:(gap&&!(out==[])) with
     |true=>
      simp only[yad,yan]at hg;have h32:decide (out.length+([32]:List Nat).length≤LIM)=true:=by rw[a4f];simp;omega
      simp only[hg.1,hg.2,hc,ht,yaI,yac,yaq,h32,hlen (out++[32]) (by simp;omega),yby];exact ih _ _ _ (by omega) (by omega) (by simp;omega)
     |false=>
      cases gap with
      |false=>
       simp only[yaa,hlen out (by omega),yac,yay,ybf];exact ih _ _ _ (by omega) (by omega) (by simp;omega)
      |true=>
       simp only[yaQ]at hg;simp only[yac,hg,yaa,hlen out (by omega),yay,ybf];exact ih _ _ _ (by omega) (by omega) (by simp;omega)
   ·have:i=s.length:=by omega
    subst this;simp[b5y,b8v]
 unfold qal;have:=key s.length 0 [] false (by omega) (by omega) (by simp);rw[show ((0:Int))=((0:Nat):Int) from rfl,o9 (s.length+1) (by rw[m7];omega) this]
 try rfl
end
section
open Ev
open Go (IntKind)
def rng (lo hi n:Int):Bool:=decide (lo≤n)&&decide (n≤hi)
theorem d98 (n:Int):qec n=some (rng 0 109572 n):=by
 unfold qec;simp -zeta only[a0i,o5]
 try rfl
theorem f22 (n:Int):qdx n=some (rng 0 109572 n):=by
 unfold qdx;simp -zeta only[a0i,o5]
 try rfl
theorem f2x (n:Int):qdh n=some (rng 1 9999 n):=by
 unfold qdh;simp -zeta only[a0i,o5]
 try rfl
theorem g8u (n lo hi:Int):qa4 n lo hi=some (rng lo hi n):=by
 unfold qa4;simp -zeta only[a0i,o5]
 try rfl
def a1a (l:List Charge) (i:Nat) (x:Charge):Int:=
 bif p8 l i (fun y=>decide (x.ID≤y.ID)) then 7
 else bif decide (x.ID<1)||decide (99999<x.ID)||decide (x.Patron<1)||decide (9999<x.Patron)||decide (x.Item<1)||decide (9999<x.Item)||!(rng 0 109572 x.Day) then 2
 else bif decide (x.Kind<1)||decide (3<x.Kind) then 1
 else bif decide (x.Amount<1)||decide (100000000<x.Amount)||decide (x.Paid<0)||decide (x.Amount≤x.Paid) then 2 else 0
def m8 (l:List Charge):Int:=bif decide (128<(l.length:Int)) then 13 else y0 (a1a l) 0 l
theorem d2v {l:List Charge} (hl:l.length<1000000000):c9 b2x (l,0,())=some (if y0 (a1a l) 0 l==0 then .inl () else .inr (y0 (a1a l) 0 l,())):=by
 have h:=a1e (step:=b2x) (fun i=>(l,(i:Int),())) l (a1a l) (.inl ()) (fun e=>.inr (e,())) hl
  (by simp only[b2x,dge,yaa])
  (fun i x hx=>by
   have hi:=(zL hx)
   have hxm:=yaf hx;unfold a1a;simp only[a0l];rcases i with _|j
   ·simp -zeta only[b2x,dlt hi,d8,hx,a0i,o5,b37,yaa,yac,p8,f7 (show 0<9223372036854775807 by omega),d98]
    try rfl
   ·have hj:l[j]?=some l[j]:=yab (by omega);simp -zeta only[b2x,dlt hi,d8,hx,a0i,o5,e34,a3z (show j<1000000000 by omega),hj,yaa,yac,p8,f7 (show j+1<9223372036854775807 by omega),d98];rfl)
 exact h
theorem f2h {l:List Charge} (hl:l.length<1000000000):qaq l=some (m8 l):=by
 unfold qaq m8;rw[d2v hl];generalize y0 (a1a l) 0 l=e;cases decide (128<(l.length:Int)) with
 |true=>rfl
 |false=>
  by_cases h:e=0
  ·subst h;rfl
  ·have h2:(e==0)=false:=by simpa using h
   simp only[h2,yay,ybf,yaa]
def a1b (l:List Patron) (i:Nat) (x:Patron):Int:=
 bif decide (x.ID<1)||decide (9999<x.ID) then 2
 else bif p8 l i (fun y=>decide (x.ID≤y.ID)) then 7
 else bif decide (x.Kind<1)||decide (9<x.Kind)||decide (x.Branch<1)||decide (4<x.Branch) then 1
 else bif decide (x.Until<0)||decide (109572<x.Until) then 2
 else bif x.Name==[]||!(vld x.Name)||!(cln x.Name==x.Name) then 3
 else bif decide (200<(x.Name.length:Int)) then 4 else 0
def a02 (l:List Patron):Int:=bif decide (32<(l.length:Int)) then 13 else y0 (a1b l) 0 l
theorem d2u {l:List Patron} (hl:l.length<1000000000) (hn:∀x∈l,x.Name.length<10000000):c9 b2w (l,0,())=some (if y0 (a1b l) 0 l==0 then .inl () else .inr (y0 (a1b l) 0 l,())):=by
 have h:=a1e (step:=b2w) (fun i=>(l,(i:Int),())) l (a1b l) (.inl ()) (fun e=>.inr (e,())) hl
  (by simp only[b2w,dge,yaa])
  (fun i x hx=>by
   have hi:=(zL hx)
   have hxm:=yaf hx;have hv:=f2e (s:=x.Name) (by have:=hn x hxm;omega);have hc:=g83 (s:=x.Name) (by have:=hn x hxm;omega);unfold a1b;simp only[a0l];rcases i with _|j
   ·simp -zeta only[b2w,dlt hi,d8,hx,a0i,o5,b37,yaa,yac,p8,f7 (show 0<9223372036854775807 by omega),hv,hc]
    try rfl
   ·have hj:l[j]?=some l[j]:=yab (by omega);simp -zeta only[b2w,dlt hi,d8,hx,a0i,o5,e34,a3z (show j<1000000000 by omega),hj,yaa,yac,p8,f7 (show j+1<9223372036854775807 by omega),hv,hc];rfl)
 exact h
theorem g82 {l:List Patron} (hl:l.length<1000000000) (hn:∀x∈l,x.Name.length<10000000):qak l=some (a02 l):=by
 unfold qak a02;rw[d2u hl hn];generalize y0 (a1b l) 0 l=e;cases decide (32<(l.length:Int)) with
 |true=>rfl
 |false=>
  by_cases h:e=0
  ·subst h;rfl
  ·have h2:(e==0)=false:=by simpa using h
   simp only[h2,yay,ybf,yaa]
def a3w (l:List Loan) (i:Nat) (x:Loan):Int:=
 bif p8 l i (fun y=>decide (x.Item≤y.Item)) then 7
 else bif decide (x.Item<1)||decide (9999<x.Item)||decide (x.Patron<1)||decide (9999<x.Patron)||decide (x.Out<0)||decide (109572<x.Out)||decide (x.Due<0)||decide (109572<x.Due)||decide (x.Due<x.Out)||decide (x.Renewals<0)||decide (10<x.Renewals) then 2 else 0
def y8 (l:List Loan):Int:=bif decide (64<(l.length:Int)) then 13 else y0 (a3w l) 0 l
theorem d2t {l:List Loan} (hl:l.length<1000000000):c9 b2v (l,0,())=some (if y0 (a3w l) 0 l==0 then .inl () else .inr (y0 (a3w l) 0 l,())):=by
 have h:=a1e (step:=b2v) (fun i=>(l,(i:Int),())) l (a3w l) (.inl ()) (fun e=>.inr (e,())) hl
  (by simp only[b2v,dge,yaa])
  (fun i x hx=>by
   have hi:=(zL hx)
   have hxm:=yaf hx;unfold a3w;simp only[a0l];rcases i with _|j
   ·simp -zeta only[b2v,dlt hi,d8,hx,a0i,o5,b37,yaa,yac,p8,f7 (show 0<9223372036854775807 by omega)]
    try rfl
   ·have hj:l[j]?=some l[j]:=yab (by omega);simp -zeta only[b2v,dlt hi,d8,hx,a0i,o5,e34,a3z (show j<1000000000 by omega),hj,yaa,yac,p8,f7 (show j+1<9223372036854775807 by omega)];rfl)
 exact h
theorem g81 {l:List Loan} (hl:l.length<1000000000):qaj l=some (y8 l):=by
 unfold qaj y8;rw[d2t hl];generalize y0 (a3w l) 0 l=e;cases decide (64<(l.length:Int)) with
 |true=>rfl
 |false=>
  by_cases h:e=0
  ·subst h;rfl
  ·have h2:(e==0)=false:=by simpa using h
   simp only[h2,yay,ybf,yaa]
def m6 (h:Hold):Int:=
 bif decide (h.ID<1)||decide (99999<h.ID)||!(rng 1 9999 h.Patron)||!(rng 1 9999 h.Record)||!(h.Item==0)&&!(rng 1 9999 h.Item)||decide (h.Pickup<1)||decide (4<h.Pickup)||!(rng 0 109572 h.Placed)||!(h.Got==0)&&!(rng 1 9999 h.Got)||!(rng 0 109572 h.Until)||!(rng 0 109572 h.Asleep)||decide (h.Rank<0)||decide (9<h.Rank) then 2
 else bif decide (h.State<1)||decide (3<h.State) then 1
 else bif !((decide (0<h.Got))==(!(h.State==1)))||!((decide (0<h.Until))==(h.State==3)) then 12 else 0
theorem f2t (h:Hold):qct h=some (m6 h):=by
 unfold qct m6;simp -zeta only[a0i,o5,f2x,f22,←a1z]
 try rfl
def a0u (l:List Hold) (i:Nat) (x:Hold):Int:=
 bif p8 l i (fun y=>decide (x.ID≤y.ID)) then 7 else bif !(m6 x==0) then m6 x else 0
theorem e0g {l:List Hold} (hl:l.length<1000000000):c9 c5r (l,0,())=some (if y0 (a0u l) 0 l==0 then .inl (l,()) else .inr (y0 (a0u l) 0 l,())):=by
 have h:=a1e (step:=c5r) (fun i=>(l,(i:Int),())) l (a0u l) (.inl (l,())) (fun e=>.inr (e,())) hl
  (by simp only[c5r,dge,yaa])
  (fun i x hx=>by
   have hi:=(zL hx)
   have hxm:=yaf hx;have hs:∀(a:List Hold×Int×Unit) (g:Int→((List Hold×Unit)⊕(Int×Unit))),(bif !(m6 x==0) then a7h a g (m6 x) else a7h a g 0)=bif !(m6 x==0) then some (.inr (g (m6 x))) else some (.inl a):=fun a g=>by
    unfold a7h;cases m6 x==0<;>rfl
   unfold a0u;simp only[a0l,hs];rcases i with _|j
   ·simp -zeta only[c5r,dlt hi,d8,hx,a0i,o5,b37,yaa,yac,p8,f7 (show 0<9223372036854775807 by omega),f2t]
    try rfl
   ·have hj:l[j]?=some l[j]:=yab (by omega);simp -zeta only[c5r,dlt hi,d8,hx,a0i,o5,e34,a3z (show j<1000000000 by omega),hj,yaa,yac,p8,f7 (show j+1<9223372036854775807 by omega),f2t];rfl)
 exact h
def z8 (x y:Hold):Bool:=x.Patron==y.Patron&&x.Record==y.Record||decide (0<x.Got)&&x.Got==y.Got
theorem d24 {l:List Hold} {i:Nat} {x:Hold} (hl:l.length<1000000000) (hx:l[i]?=some x):c9 b29 (l,(i:Int),0,())=some (bif (l.take i).all (fun y=>!(z8 x y)) then .inl (l,(i:Int),()) else .inr (7,())):=by
 have hi:=(zL hx)
 have h:=m0 (step:=b29) (fun k=>(l,(i:Int),(k:Int),())) (l.take i) (fun _ y=>!(z8 x y)) (.inr (7,())) (.inl (l,(i:Int),())) (by rw[yaW];omega)
  (by rw[yaW,Nat.min_eq_left (by omega)];simp only[b29,dge,yaa])
  (fun k y hy=>by
   have hk:=(zL hy)
   rw[yaW]at hk;have hy2:l[k]?=some y:=by rw[←hy,ybO (by omega)]
   simp -zeta only[b29,dlt (show k<i by omega),d8,hx,hy2,a0i,o5,yac,f7 (show k<9223372036854775807 by omega)];dsimp only;unfold z8;cases (x.Patron==y.Patron&&x.Record==y.Record||decide (0<x.Got)&&x.Got==y.Got)<;>rfl)
 rw[show c9 b29 (l,(i:Int),0,())=_ from h,o8]
def a2l (l:List Hold):Bool:=a1f (fun i x=>(l.take i).all (fun y=>!(z8 x y))) 0 l
theorem d23 {l:List Hold} (hl:l.length<1000000000):c9 b6e (l,0,())=some (bif a2l l then .inl () else .inr (7,())):=by
 have h:=m0 (step:=b6e) (fun i=>(l,(i:Int),())) l (fun i x=>(l.take i).all (fun y=>!(z8 x y))) (.inr (7,())) (.inl ()) hl
  (by simp only[b6e,dge,yaa])
  (fun i x hx=>by
   have hi:=(zL hx)
   simp only[b6e,dlt hi,yac,d24 hl hx];cases (l.take i).all (fun y=>!(z8 x y)) with
   |true=>simp only[yac,f7 (show i<9223372036854775807 by omega)]
   |false=>rfl)
 exact h
def w6 (l:List Hold):Int:=bif decide (64<(l.length:Int)) then 13 else bif y0 (a0u l) 0 l==0 then (bif a2l l then 0 else 7) else y0 (a0u l) 0 l
theorem h2a {l:List Hold} (hl:l.length<1000000000):qj l=some (w6 l):=by
 unfold qj w6;rw[e0g hl];cases decide (64<(l.length:Int)) with
 |true=>rfl
 |false=>
  by_cases h:y0 (a0u l) 0 l=0
  ·simp only[h,yal,yby,yaa,yac,d23 hl];cases a2l l<;>rfl
  ·have:(y0 (a0u l) 0 l==0)=false:=by simpa using h
   simp only[this,yay,ybf,yaa]
def a6q (r:Rule):Bool:=rng 0 9 r.Patron&&rng 0 9 r.Item&&rng 0 4 r.Branch&&(rng 0 365 r.Days&&rng 0 10 r.Renewals&&rng 0 99 r.Loans)&&(rng 0 1000 r.Fine&&rng 0 30 r.Grace&&rng 0 100000000 r.MaxFine)&&rng 1 60 r.Shelf&&rng 1 60 r.Recall&&rng 0 109572 r.Fixed&&rng 0 9 r.Rank
theorem g9c (r:Rule):qcd r=some (a6q r):=by
 unfold qcd a6q;simp -zeta only[a0i,o5,g8u]
 try rfl
def a41 (x y:Rule):Bool:=x.Patron==y.Patron&&x.Item==y.Item&&x.Branch==y.Branch
def a3x (l:List Rule) (i:Nat) (x:Rule):Int:=bif !(a6q x) then 2 else bif (l.take i).all (fun y=>!(a41 y x)) then 0 else 7
theorem e0f {l:List Rule} {i:Nat} {x:Rule} (hl:l.length<1000000000) (hx:l[i]?=some x):c9 c5p (l,(i:Int),0,())=some (bif (l.take i).all (fun y=>!(a41 y x)) then .inl (l,(i:Int),()) else .inr (7,())):=by
 have hi:=(zL hx)
 have h:=m0 (step:=c5p) (fun k=>(l,(i:Int),(k:Int),())) (l.take i) (fun _ y=>!(a41 y x)) (.inr (7,())) (.inl (l,(i:Int),())) (by rw[yaW];omega)
  (by rw[yaW,Nat.min_eq_left (by omega)];simp only[c5p,dge,yaa])
  (fun k y hy=>by
   have hk:=(zL hy)
   rw[yaW]at hk;have hy2:l[k]?=some y:=by rw[←hy,ybO (by omega)]
   simp -zeta only[c5p,dlt (show k<i by omega),d8,hx,hy2,a0i,o5,yac,f7 (show k<9223372036854775807 by omega)];dsimp only;unfold a41;cases (y.Patron==x.Patron&&y.Item==x.Item&&y.Branch==x.Branch)<;>rfl)
 rw[show c9 c5p (l,(i:Int),0,())=_ from h,o8]
theorem e0e {l:List Rule} (hl:l.length<1000000000):c9 d22 (l,0,())=some (if y0 (a3x l) 0 l==0 then .inl () else .inr (y0 (a3x l) 0 l,())):=by
 have h:=a1e (step:=d22) (fun i=>(l,(i:Int),())) l (a3x l) (.inl ()) (fun e=>.inr (e,())) hl
  (by simp only[d22,dge,yaa])
  (fun i x hx=>by
   have hi:=(zL hx)
   unfold a3x;simp only[a0l,d22,dlt hi,d8,hx,yac,g9c,e0f hl hx];cases a6q x with
   |false=>rfl
   |true=>
    simp only[yam,yaa];cases (l.take i).all (fun y=>!(a41 y x)) with
    |true=>simp only[yac,f7 (show i<9223372036854775807 by omega)];rfl
    |false=>rfl)
 exact h
def a2b (l:List Rule):Int:=bif decide (32<(l.length:Int)) then 13 else y0 (a3x l) 0 l
theorem h19 {l:List Rule} (hl:l.length<1000000000):qh l=some (a2b l):=by
 unfold qh a2b;rw[e0e hl];generalize y0 (a3x l) 0 l=e;cases decide (32<(l.length:Int)) with
 |true=>rfl
 |false=>
  by_cases h:e=0
  ·subst h;rfl
  ·have h2:(e==0)=false:=by simpa using h
   simp only[h2,yay,ybf,yaa]
def e36 (l:List Int):Bool:=a1f (fun i x=>!(p8 l i (fun y=>decide (x≤y)))) 0 l
theorem c3o {X:Type} {p:Nat→X→Bool}:∀{l:List X} {i:Nat},a1f p (i+1) l=a1f (fun i=>p (i+1)) i l:=by
 intro l
 induction l with
 |nil=>intros;rfl
 |cons x l ih=>intro i;simp only[a1f];rw[ih]
theorem d7r (l:List Int):e36 l=a1f (fun i x=>!(p8 l (i+1) (fun y=>decide (x≤y)))) 0 l.tail:=by
 cases l with
 |nil=>rfl
 |cons x l=>
  unfold e36;simp only[a1f,List.tail_cons];rw[c3o]
  try rfl
def y5 (c:Calendar):Int:=
 bif decide (c.Week<0)||decide (126<c.Week) then 1
 else bif decide (64<(c.Closed.length:Int)) then 13
 else bif c.Closed.all (fun x=>!(decide (x<0)||decide (109572<x))) then (bif e36 c.Closed then 0 else 7) else 2
theorem e0n {c:Calendar} (hl:c.Closed.length<1000000000):c9 c5v (0,c,())=some (bif c.Closed.all (fun x=>!(decide (x<0)||decide (109572<x))) then .inl (c,()) else .inr (2,())):=by
 have h:=m0 (step:=c5v) (fun i=>((i:Int),c,())) c.Closed (fun _ x=>!(decide (x<0)||decide (109572<x))) (.inr (2,())) (.inl (c,())) hl
  (by simp only[c5v,dge,yaa])
  (fun i x hx=>by
   have hi:=(zL hx)
   simp -zeta only[c5v,dlt hi,d8,hx,a0i,o5,yac,f7 (show i<9223372036854775807 by omega)];cases (decide (x<0)||decide (109572<x))<;>rfl)
 rw[show c9 c5v (0,c,())=_ from h,o8]
theorem d29 {c:Calendar} (hl:c.Closed.length<1000000000):c9 b3b (1,c,())=some (bif e36 c.Closed then .inl () else .inr (7,())):=by
 have h:=m0 (step:=b3b) (fun i=>(((i+1:Nat):Int),c,())) c.Closed.tail (fun i x=>!(p8 c.Closed (i+1) (fun y=>decide (x≤y)))) (.inr (7,())) (.inl ()) (by rw[List.length_tail];omega)
  (by
   rw[List.length_tail];have:decide (((c.Closed.length-1+1:Nat):Int)<(c.Closed.length:Int))=false:=by rw[yag];omega
   simp only[b3b,this,yaa])
  (fun i x hx=>by
   rw[List.getElem?_tail]at hx;have hi:=(zL hx)
   have hj:c.Closed[i]?=some c.Closed[i]:=yab (by omega);simp -zeta only[b3b,dlt hi,d8,hx,yac,a3z (show i<1000000000 by omega),hj,p8,f7 (show i+1<9223372036854775807 by omega)];cases decide (x≤c.Closed[i])<;>rfl)
 rw[show c9 b3b (1,c,())=_ from h,d7r]
theorem e0o {c:Calendar} (hl:c.Closed.length<1000000000):qt c=some (y5 c):=by
 unfold qt y5;simp -zeta only[a0i];dsimp only;rw[e0n hl];cases (decide (c.Week<0)||decide (126<c.Week)) with
 |true=>rfl
 |false=>
  cases decide (64<(c.Closed.length:Int)) with
  |true=>rfl
  |false=>
   cases c.Closed.all (fun x=>!(decide (x<0)||decide (109572<x))) with
   |false=>rfl
   |true=>
    simp only[yaa,yac,d29 hl];cases e36 c.Closed<;>rfl
end
section
open Ev
open Go (IntKind)
def g1x (state:Int):Bool:=(state==4||state==5||state==8||state==9||state==10)
theorem b26 (state:Int):qej state=some (g1x state):=by
 unfold qej
 try simp -zeta only[a0i,o5,a9c,a1z,yac,yaa]
 try dsimp only
 try simp only[a1z]
 try rfl
def a7c (c:Custody):Bool:=(bif decide (c.State<1)||decide (12<c.State)||decide (c.Branch<1)||decide (4<c.Branch) then false
 else
  bif c.State==6 then
   decide (0≤c.Who)&&decide (c.Who≤9999)&&decide (1≤c.To)&&decide (c.To≤4)&&!c.To==c.Branch
  else
   bif !c.To==0 then false
   else bif g1x c.State then decide (1≤c.Who)&&decide (c.Who≤9999) else c.Who==0)
theorem b25 (c:Custody):qcv c=some (a7c c):=by
 unfold qcv
 try simp -zeta only[a0i,o5,a9c,a1z,yac,yaa,b26]
 try dsimp only
 try simp only[a1z]
 try rfl
def a7d (m:Move):Bool:=(decide (0≤m.Day)&&decide (m.Day≤109572)&&decide (1≤m.Item)&&decide (m.Item≤9999)&&
 decide (1≤m.Kind)&&
 decide (m.Kind≤15)&&
 decide (1≤m.Branch)&&
 decide (m.Branch≤4)&&
 decide (0≤m.Who)&&
 decide (m.Who≤9999))
theorem b58 (m:Move):qdr m=some (a7d m):=by
 unfold qdr
 try simp -zeta only[a0i,o5,a9c,a1z,yac,yaa,b26,b25]
 try dsimp only
 try simp only[a1z]
 try rfl
def c5j (kind:Int):(List Int):=(bif kind==1 then [1]
 else
  bif kind==2 then [2,5]
  else
   bif kind==3 then [3,5]
   else
    bif kind==4 then [4,8,9,10]
    else
     bif kind==5||kind==8 then [2,3]
     else
      bif kind==6 then [2,3,5]
      else
       bif kind==7 then [6]
       else
        bif kind==9 then [7]
        else
         bif kind==10 then [3]
         else
          bif kind==11 then [4]
          else
           bif kind==12 then [4,9]
           else
            bif kind==13 then [2,3,5,6,7]
            else bif kind==14 then [11] else bif kind==15 then [1,2,3,11,10] else [])
theorem c2d (kind:Int):qb4 kind=some (c5j kind):=by
 unfold qb4
 try simp -zeta only[a0i,o5,a9c,a1z,yac,yaa,b26,b25,b58]
 try dsimp only
 try simp only[a1z]
 try rfl
def w9 (kind:Int):Int:=(bif kind==1||(kind==4||(kind==7||(kind==9||kind==14))) then 2
 else
  bif kind==2 then 3
  else
   bif kind==3 then 4
   else
    bif kind==5 then 5
    else
     bif kind==6 then 6
     else
      bif kind==8 then 7
      else
       bif kind==10 then 8
       else bif kind==11 then 9 else bif kind==12 then 10 else bif kind==13 then 11 else 12)
theorem c9z (kind:Int):qem kind=some (w9 kind):=by
 unfold qem
 try simp -zeta only[a0i,o5,a9c,a1z,yac,yaa,b26,b25,b58,c2d]
 try dsimp only
 try simp only[a1z]
 try rfl
def b4i (c:Custody) (m:Move):Bool:=(bif m.Kind==1||(m.Kind==4||(m.Kind==9||m.Kind==14)) then m.Who==0
 else
  bif m.Kind==7 then m.Who==0&&m.Branch==c.To
  else
   bif m.Kind==6 then !m.Branch==c.Branch
   else
    bif m.Kind==3||(m.Kind==5||m.Kind==10) then m.Branch==c.Branch&&decide (1≤m.Who)
    else m.Branch==c.Branch&&m.Who==0)
theorem d94 (c:Custody) (m:Move):qci c m=some (b4i c m):=by
 unfold qci
 try simp -zeta only[a0i,o5,a9c,a1z,yac,yaa,b26,b25,b58,c2d,c9z]
 try dsimp only
 try simp only[a1z]
 try rfl
def a8w (branch:Int):Custody:={State:=1,Branch:=branch,Who:=0,To:=0}
theorem f2u (branch:Int):qcu branch=some (a8w branch):=by
 unfold qcu
 try simp -zeta only[a0i,o5,a9c,a1z,yac,yaa,b26,b25,b58,c2d,c9z,d94]
 try dsimp only
 try simp only[a1z]
 try rfl
def a1j (u:Custody):Bool:=(u.State==4||u.State==9||u.State==10)
theorem d97 (u:Custody):qdo u=some (a1j u):=by
 unfold qdo
 try simp -zeta only[a0i,o5,a9c,a1z,yac,yaa,b26,b25,b58,c2d,c9z,d94,f2u]
 try dsimp only
 try simp only[a1z]
 try rfl
end
section
open Ev
open Go (IntKind)
theorem h29 {X:Type} {p:X→Bool}:∀{l:List X} {i:Nat},a2t p (fun _ _=>true) false i l=l.any p:=by
 intro l
 induction l with
 |nil=>intros;rfl
 |cons x l ih=>intro i;simp only[a2t,List.any_cons];cases p x with|true=>rfl|false=>rw[yaa,ih,ybd]
def a5e (state kind:Int):Bool:=(c5j kind).any (fun x=>x==state)
theorem e57 {X:Type} {b:Bool} {x y:List X} {n:Nat} (hx:x.length<n) (hy:y.length<n):(bif b then x else y).length<n:=by cases b<;>assumption
theorem d3l (kind:Int):(c5j kind).length<10:=by
 unfold c5j
 repeat' first|apply e57|decide
theorem g8z (state kind:Int):qad state kind=some (a5e state kind):=by
 unfold qad a5e;rw[c2d];have hl:=d3l kind;generalize c5j kind=l at hl ⊢;have h:=u7 (step:=b5t) (fun i=>(state,l,(i:Int),())) l (fun x=>x==state) (fun _ _=>(.inr (true,()):Unit⊕(Bool×Unit))) (.inl ()) (by omega)
  (by simp only[b5t,dge,yaa])
  (fun i x hx=>by
   have hi:=(zL hx)
   simp only[b5t,dlt hi,d8,hx,yac,f7 (show i<9223372036854775807 by omega)])
 dsimp only;rw[show c9 b5t (state,l,0,())=_ from h,←h29 (i:=0)];have key:∀(l:List Int) (i:Nat),(match some (a2t (fun x=>x==state) (fun _ _=>(.inr (true,()):Unit⊕(Bool×Unit))) (.inl ()) i l) with|some (.inl _)=>some false|some (.inr (v,_))=>some v|none=>none)=some (a2t (fun x=>x==state) (fun _ _=>true) false i l):=by
  intro l
  induction l with
  |nil=>intro i;rfl
  |cons x l ih=>intro i;simp only[a2t];cases x==state with|true=>rfl|false=>exact ih _
 exact key l 0
def m5 (c:Custody) (m:Move):Custody×Int:=
 bif !(a7c c)||!(a7d m) then (⟨0,0,0,0⟩,1)
 else bif !(a5e c.State m.Kind) then (⟨0,0,0,0⟩,12)
 else bif m.Kind==3&&c.State==5&&!(m.Who==c.Who) then (⟨0,0,0,0⟩,16)
 else bif !(b4i c m) then (⟨0,0,0,0⟩,1)
 else bif w9 m.Kind==2 then (⟨w9 m.Kind,m.Branch,0,0⟩,0)
 else bif w9 m.Kind==4||(w9 m.Kind==5||w9 m.Kind==8) then (⟨w9 m.Kind,c.Branch,m.Who,0⟩,0)
 else bif w9 m.Kind==6 then (⟨w9 m.Kind,c.Branch,m.Who,m.Branch⟩,0)
 else bif w9 m.Kind==9||w9 m.Kind==10 then (⟨w9 m.Kind,c.Branch,c.Who,0⟩,0)
 else (⟨w9 m.Kind,c.Branch,0,0⟩,0)
theorem f2m (c:Custody) (m:Move):qb5 c m=some (m5 c m):=by
 unfold qb5 m5;simp -zeta only[a0i,o5,a9c,b25,b58,g8z,d94,c9z];dsimp only;simp only[a1z]
def t6:Nat→List Move→Int→Custody→(Custody⊕(Int×Int))
 |_,[],_,c=>.inl c
 |i,x::l,item,c=>bif x.Item==item then (bif (m5 c x).2==0 then t6 (i+1) l item (m5 c x).1 else .inr ((i:Int),(m5 c x).2)) else t6 (i+1) l item c
def y9 (branch:Int) (l:List Move) (item:Int):Custody×Int×Int:=
 bif decide (branch<1)||decide (4<branch) then (⟨0,0,0,0⟩,-1,1)
 else match t6 0 l item (a8w branch) with
  |.inl c=>(c,-1,0)
  |.inr (i,e)=>(⟨0,0,0,0⟩,i,e)
theorem b3k {β:Type} (item:Int) (fin:Custody→β) (out:Int×Int→β):∀(l:List Move) (i:Nat) (c:Custody),
 a04 (fun i x c=>bif x.Item==item then (bif (m5 c x).2==0 then .inl (m5 c x).1 else .inr (out ((i:Int),(m5 c x).2))) else .inl c) fin i l c=(match t6 i l item c with | .inl c=>fin c | .inr p=>out p):=by
 intro l
 induction l with
 |nil=>intros;rfl
 |cons x l ih=>
  intro i c;simp only[a04,t6];cases x.Item==item with
  |false=>exact ih _ _
  |true=>
   simp only[yac];cases (m5 c x).2==0 with
   |true=>exact ih _ _
   |false=>rfl
theorem g8y {branch:Int} {l:List Move} {item:Int} (hl:l.length<1000000000):qac branch l item=some (y9 branch l item):=by
 unfold qac y9;simp -zeta only[a0i,f2u];dsimp only;have h:=a1u (step:=b5s) (fun i c=>(l,item,(i:Int),(⟨0,0,0,0⟩:Custody),c,())) l
  (fun i x c=>bif x.Item==item then (bif (m5 c x).2==0 then .inl (m5 c x).1 else .inr (.inr ((i:Int),(m5 c x).2,(⟨0,0,0,0⟩:Custody),()))) else .inl c)
  (fun c=>.inl (⟨0,0,0,0⟩,c,())) (by show l.length<18446744073709551616;omega) (fun c=>by simp only[b5s,dge,yaa])
  (fun i x c hx=>by
   have hi:=(zL hx)
   simp only[b5s,dlt hi,d8,hx,yac,f2m,f7 (show i<9223372036854775807 by omega)];cases x.Item==item with
   |false=>rfl
   |true=>
    simp only[yam,yaa,yac];obtain ⟨d,e⟩:=m5 c x;cases he:e==0 with
    |true=>rfl
    |false=>rfl) (a8w branch)
 rw[b3k item (fun c=>(.inl (⟨0,0,0,0⟩,c,()):(Custody×Custody×Unit)⊕(Int×Int×Custody×Unit))) (fun p=>.inr (p.1,p.2,(⟨0,0,0,0⟩:Custody),()))]at h;rw[show c9 b5s (l,item,0,(⟨0,0,0,0⟩:Custody),a8w branch,())=_ from h];cases (decide (branch<1)||decide (4<branch)) with
 |true=>rfl
 |false=>
  simp only[yaa];cases t6 0 l item (a8w branch) with
  |inl c=>rfl
  |inr p=>rfl
end
section
open Ev
open Go (IntKind)
theorem o6 {X:Type} (p:X→Bool) (l:List X):(a6w p l = -1∧l.find? p=none)∨∃(i:Nat) (x:X),a6w p l=(i:Int)∧l[i]?=some x∧p x=true∧l.find? p=some x:=by
 unfold a6w
 induction l with
 |nil=>exact .inl ⟨rfl,rfl⟩
 |cons y l ih=>
  simp only[yb0,List.find?_cons];cases hp:p y with
  |true=>exact .inr ⟨0,y,rfl,rfl,hp,rfl⟩
  |false=>
   simp only[yay,ybf];rcases ih with ⟨h1,h2⟩|⟨i,x,h1,h2,h3,h4⟩
   ·left;refine ⟨?_,h2⟩;cases hf:l.findIdx? p with
    |none=>rfl
    |some k=>rw[hf]at h1;simp only at h1;omega
   ·right;refine ⟨i+1,x,?_,by simpa using h2,h3,h4⟩;cases hf:l.findIdx? p with
    |none=>rw[hf]at h1;simp only at h1;omega
    |some k=>rw[hf]at h1;simp only[ybF]at h1 ⊢;omega
theorem a88:decide ((-1:Int)<0)=true:=rfl
theorem a39 {i:Nat}:decide ((i:Int)<0)=false:=by rw[yag];omega
def a3j (l:List Patron) (id:Int):Patron×Bool:=match l.find? (fun p=>p.ID==id) with|some p=>(p,true)|none=>(⟨0,0,0,0,false,[]⟩,false)
def a4n (l:List Loan) (item:Int):Loan×Bool:=match l.find? (fun n=>n.Item==item) with|some n=>(n,true)|none=>(⟨0,0,0,0,0,false⟩,false)
def b5k:Hold:=⟨0,0,0,0,0,0,0,0,0,0,0⟩
def o3 (c:Circ) (item:Int):Hold×Bool:=match c.Holds.find? (fun h=>h.Got==item) with|some h=>(h,true)|none=>(b5k,false)
theorem e0k {c:Circ} {item:Int} (hl:c.Items.length<1000000000):qq c item=some (a6w (fun x=>x.ID==item) c.Items):=by
 unfold qq;have h:=u7 (step:=d27) (fun i=>(item,(i:Int),c,())) c.Items (fun x=>x.ID==item) (fun i _=>(.inr ((i:Int),()):Unit⊕(Int×Unit))) (.inl ()) hl
  (by simp only[d27,dge,yaa])
  (fun i x hx=>by
   have hi:=(zL hx)
   simp only[d27,dlt hi,d8,hx,yac,f7 (show i<9223372036854775807 by omega)])
 rw[show c9 d27 (item,0,c,())=_ from h,←a1x];have:=a00 (p:=fun x:Item=>x.ID==item) (g:=fun i _=>(.inr ((i:Int),()):Unit⊕(Int×Unit))) (d:=.inl ()) (fun z=>match (some z:Option (Unit⊕(Int×Unit))) with|some (.inl _)=>some (-1)|some (.inr (v,_))=>some v|none=>none) (l:=c.Items) (i:=0);exact this.trans ((a00 (p:=fun x:Item=>x.ID==item) (g:=fun i _=>(i:Int)) (d:=-1) (fun z=>some z) (l:=c.Items) (i:=0)).symm)
theorem b0x {c:Circ} {item:Int} (hl:c.Items.length<1000000000):(qq c item=some (-1)∧c.Items.find? (fun x=>x.ID==item)=none)∨
 ∃(i:Nat) (x:Item),qq c item=some (i:Int)∧c.Items[i]?=some x∧x.ID=item∧c.Items.find? (fun x=>x.ID==item)=some x:=by
 rw[e0k hl];rcases o6 (fun x:Item=>x.ID==item) c.Items with ⟨h1,h2⟩|⟨i,x,h1,h2,h3,h4⟩
 ·exact .inl ⟨by rw[h1],h2⟩
 ·exact .inr ⟨i,x,by rw[h1],h2,by simpa using h3,h4⟩
theorem g84 {l:List Patron} {id:Int} (hl:l.length<1000000000):qam l id=some (a6w (fun x=>x.ID==id) l):=by
 unfold qam;have h:=u7 (step:=b5z) (fun i=>(l,id,(i:Int),())) l (fun x=>x.ID==id) (fun i _=>(.inr ((i:Int),()):Unit⊕(Int×Unit))) (.inl ()) hl
  (by simp only[b5z,dge,yaa])
  (fun i x hx=>by
   have hi:=(zL hx)
   simp only[b5z,dlt hi,d8,hx,yac,f7 (show i<9223372036854775807 by omega)])
 rw[show c9 b5z (l,id,0,())=_ from h,←a1x];have:=a00 (p:=fun x:Patron=>x.ID==id) (g:=fun i _=>(.inr ((i:Int),()):Unit⊕(Int×Unit))) (d:=.inl ()) (fun z=>match (some z:Option (Unit⊕(Int×Unit))) with|some (.inl _)=>some (-1)|some (.inr (v,_))=>some v|none=>none) (l:=l) (i:=0);exact this.trans ((a00 (p:=fun x:Patron=>x.ID==id) (g:=fun i _=>(i:Int)) (d:=-1) (fun z=>some z) (l:=l) (i:=0)).symm)
theorem b24 {l:List Patron} {id:Int} (hl:l.length<1000000000):qbt l id=some (a3j l id):=by
 unfold qbt a3j;rw[g84 hl];rcases o6 (fun x:Patron=>x.ID==id) l with ⟨h1,h2⟩|⟨i,x,h1,h2,h3,h4⟩
 ·simp only[h1,h2,a88,yac]
 ·simp only[h1,h4,a39,yaa,d8,h2]
theorem f2f {l:List Loan} {id:Int} (hl:l.length<1000000000):qaf l id=some (a6w (fun x=>x.Item==id) l):=by
 unfold qaf;have h:=u7 (step:=b5v) (fun i=>(l,id,(i:Int),())) l (fun x=>x.Item==id) (fun i _=>(.inr ((i:Int),()):Unit⊕(Int×Unit))) (.inl ()) hl
  (by simp only[b5v,dge,yaa])
  (fun i x hx=>by
   have hi:=(zL hx)
   simp only[b5v,dlt hi,d8,hx,yac,f7 (show i<9223372036854775807 by omega)])
 rw[show c9 b5v (l,id,0,())=_ from h,←a1x];have:=a00 (p:=fun x:Loan=>x.Item==id) (g:=fun i _=>(.inr ((i:Int),()):Unit⊕(Int×Unit))) (d:=.inl ()) (fun z=>match (some z:Option (Unit⊕(Int×Unit))) with|some (.inl _)=>some (-1)|some (.inr (v,_))=>some v|none=>none) (l:=l) (i:=0);exact this.trans ((a00 (p:=fun x:Loan=>x.Item==id) (g:=fun i _=>(i:Int)) (d:=-1) (fun z=>some z) (l:=l) (i:=0)).symm)
theorem g9e {l:List Loan} {id:Int} (hl:l.length<1000000000):qcy l id=some (a4n l id):=by
 unfold qcy a4n;rw[f2f hl];rcases o6 (fun x:Loan=>x.Item==id) l with ⟨h1,h2⟩|⟨i,x,h1,h2,h3,h4⟩
 ·simp only[h1,h2,a88,yac]
 ·simp only[h1,h4,a39,yaa,d8,h2]
theorem a8u {c:Circ} {item:Int} (hl:c.Holds.length<1000000000):qai c item=some (o3 c item):=by
 unfold qai o3;have h:=u7 (step:=b5x) (fun i=>(item,(i:Int),c,b5k,())) c.Holds (fun x=>x.Got==item) (fun _ x=>(.inr (true,x,()):(Hold×Unit)⊕(Bool×Hold×Unit))) (.inl (b5k,())) hl
  (by simp only[b5x,dge,yaa])
  (fun i x hx=>by
   have hi:=(zL hx)
   simp only[b5x,dlt hi,d8,hx,yac,f7 (show i<9223372036854775807 by omega)])
 rw[show c9 b5x (item,0,c,(⟨0,0,0,0,0,0,0,0,0,0,0⟩:Hold),())=_ from h,a9a];cases c.Holds.find? (fun x=>x.Got==item)<;>rfl
def a4b (c:Circ) (i:Nat) (x:Item):Bool:=
 !(decide (x.ID<1)||decide (9999<x.ID)||p8 c.Items i (fun y=>decide (x.ID≤y.ID))||decide (x.Record<1)||decide (9999<x.Record)||decide (x.Branch<1)||decide (4<x.Branch))&&
 !(decide (x.Kind<1)||decide (9<x.Kind)||decide (x.Price<0)||decide (100000000<x.Price)||decide (200<(x.Call.length:Int))||!(vld x.Call))&&
 !(!((y9 x.Branch c.Moves x.ID).2.2==0)||!(s9 (y9 x.Branch c.Moves x.ID).1 x.Custody))
def a5j (c:Circ):Bool:=!(decide (64<(c.Items.length:Int))||decide (2000<(c.Moves.length:Int)))&&(a1f (a4b c) 0 c.Items&&c.Moves.all (fun m=>(c.Items.find? (fun x=>x.ID==m.Item)).isSome))
structure Short (c:Circ):Prop where
 items:c.Items.length<1000000000
 patrons:c.Patrons.length<1000000000
 loans:c.Loans.length<1000000000
 holds:c.Holds.length<1000000000
 charges:c.Charges.length<1000000000
 rules:c.Rules.length<1000000000
 moves:c.Moves.length<1000000000
 call:∀x∈c.Items,x.Call.length<10000000
 name:∀x∈c.Patrons,x.Name.length<10000000
 cal0:c.Cals.x0.Closed.length<1000000000
 cal1:c.Cals.x1.Closed.length<1000000000
 cal2:c.Cals.x2.Closed.length<1000000000
 cal3:c.Cals.x3.Closed.length<1000000000
theorem e0q {c:Circ} (hs:Short c):c9 c5x (0,c,())=some (bif a1f (a4b c) 0 c.Items then .inl (c,()) else .inr (false,())):=by
 have h:=m0 (step:=c5x) (fun i=>((i:Int),c,())) c.Items (a4b c) (.inr (false,())) (.inl (c,())) hs.items
  (by simp only[c5x,dge,yaa])
  (fun i x hx=>by
   have hi:=(zL hx)
   have hm:=yaf hx;have hv:=f2e (s:=x.Call) (by have:=hs.call x hm;omega);have hr:=g8y (branch:=x.Branch) (item:=x.ID) hs.moves;unfold a4b;rcases i with _|j
   ·simp -zeta only[c5x,dlt hi,d8,hx,a0i,o5,b37,yaa,yac,p8,f7 (show 0<9223372036854775807 by omega),hv,hr];dsimp only;generalize (decide (x.ID<1)||decide (9999<x.ID)||false||decide (x.Record<1)||decide (9999<x.Record)||decide (x.Branch<1)||decide (4<x.Branch))=b1;generalize (decide (x.Kind<1)||decide (9<x.Kind)||decide (x.Price<0)||decide (100000000<x.Price)||decide (200<(x.Call.length:Int))||!(vld x.Call))=b2;generalize (!((y9 x.Branch c.Moves x.ID).2.2==0)||!(s9 (y9 x.Branch c.Moves x.ID).1 x.Custody))=b3;cases b1<;>cases b2<;>cases b3<;>rfl
   ·have hj:c.Items[j]?=some c.Items[j]:=yab (by omega);have:=hs.items;simp -zeta only[c5x,dlt hi,d8,hx,a0i,o5,e34,a3z (show j<1000000000 by omega),hj,yaa,yac,yaQ,p8,f7 (show j+1<9223372036854775807 by omega),hv,hr];dsimp only;generalize (decide (x.ID<1)||decide (9999<x.ID)||decide (x.ID≤c.Items[j].ID)||decide (x.Record<1)||decide (9999<x.Record)||decide (x.Branch<1)||decide (4<x.Branch))=b1;generalize (decide (x.Kind<1)||decide (9<x.Kind)||decide (x.Price<0)||decide (100000000<x.Price)||decide (200<(x.Call.length:Int))||!(vld x.Call))=b2;generalize (!((y9 x.Branch c.Moves x.ID).2.2==0)||!(s9 (y9 x.Branch c.Moves x.ID).1 x.Custody))=b3;cases b1<;>cases b2<;>cases b3<;>rfl)
 exact h
theorem d3b {c:Circ} (hs:Short c):c9 b3c (0,c,())=some (bif c.Moves.all (fun m=>(c.Items.find? (fun x=>x.ID==m.Item)).isSome) then .inl () else .inr (false,())):=by
 have h:=m0 (step:=b3c) (fun i=>((i:Int),c,())) c.Moves (fun _ m=>(c.Items.find? (fun x=>x.ID==m.Item)).isSome) (.inr (false,())) (.inl ()) hs.moves
  (by simp only[b3c,dge,yaa])
  (fun i x hx=>by
   have hi:=(zL hx)
   have:=hs.moves;simp only[b3c,dlt hi,d8,hx,yac,f7 (show i<9223372036854775807 by omega)];rcases b0x (item:=x.Item) hs.items with ⟨h1,h2⟩|⟨k,y,h1,h2,h3,h4⟩
   ·simp only[h1,h2,a88,yac,ybZ,yaa]
   ·simp only[h1,h4,a39,yaa,Option.isSome_some,yac])
 rw[show c9 b3c (0,c,())=_ from h,o8]
theorem h2g {c:Circ} (hs:Short c):qw c=some (a5j c):=by
 unfold qw a5j;simp -zeta only[a0i];dsimp only;rw[e0q hs];cases (decide (64<(c.Items.length:Int))||decide (2000<(c.Moves.length:Int))) with
 |true=>rfl
 |false=>
  cases a1f (a4b c) 0 c.Items with
  |false=>rfl
  |true=>
   simp only[yaa,yac,d3b hs];cases c.Moves.all (fun m=>(c.Items.find? (fun x=>x.ID==m.Item)).isSome)<;>rfl
def a2w (c:Circ) (n:Loan):Bool:=match c.Items.find? (fun x=>x.ID==n.Item) with
 |some x=>!(!(a3j c.Patrons n.Patron).2||!(a1j x.Custody)||!(x.Custody.Who==n.Patron))
 |none=>false
def a1q (c:Circ):Bool:=c.Loans.all (a2w c)&&c.Items.all (fun x=>(a4n c.Loans x.ID).2==a1j x.Custody)
theorem h2f {c:Circ} (hs:Short c):qv c=some (a1q c):=by
 have h1:=m0 (step:=c5w) (fun i=>((i:Int),c,())) c.Loans (fun _=>a2w c) (.inr (false,())) (.inl (c,())) hs.loans
  (by simp only[c5w,dge,yaa])
  (fun i x hx=>by
   have hi:=(zL hx)
   have:=hs.loans;unfold a2w;rcases b0x (item:=x.Item) hs.items with ⟨h1,h2⟩|⟨k,y,h1,h2,h3,h4⟩
   ·simp -zeta only[c5w,dlt hi,d8,hx,yac,a0i,b24 hs.patrons,h1,h2,a88,Bool.true_or]
    try rfl
   ·simp -zeta only[c5w,dlt hi,d8,hx,yac,a0i,b24 hs.patrons,h1,h2,h4,a39,ybd,d97,f7 (show i<9223372036854775807 by omega)];dsimp only;cases (!(a3j c.Patrons x.Patron).2||!(a1j y.Custody)||!(y.Custody.Who==x.Patron))<;>rfl)
 have h2:=m0 (step:=b6j) (fun i=>((i:Int),c,())) c.Items (fun _ x=>(a4n c.Loans x.ID).2==a1j x.Custody) (.inr (false,())) (.inl ()) hs.items
  (by simp only[b6j,dge,yaa])
  (fun i x hx=>by
   have hi:=(zL hx)
   have:=hs.items;simp only[b6j,dlt hi,d8,hx,yac,g9e hs.loans,d97,f7 (show i<9223372036854775807 by omega)];cases (a4n c.Loans x.ID).2==a1j x.Custody<;>rfl)
 unfold qv a1q;rw[show c9 c5w (0,c,())=_ from h1,o8];cases c.Loans.all (a2w c) with
 |false=>rfl
 |true=>
  simp only[yac];rw[show c9 b6j (0,c,())=_ from h2,o8];cases c.Items.all (fun x=>(a4n c.Loans x.ID).2==a1j x.Custody)<;>rfl
def a2u (c:Circ) (h:Hold):Bool:=
 !(!(a3j c.Patrons h.Patron).2||decide (c.NextHold≤h.ID))&&(h.State==1||(match c.Items.find? (fun x=>x.ID==h.Got) with
  |some x=>!(!(x.Record==h.Record))&&!(h.State==3&&(!(x.Custody.State==5)||!(x.Custody.Branch==h.Pickup)||!(x.Custody.Who==h.Patron)))&&
   !(h.State==2&&(!(x.Custody.State==6)||!(x.Custody.To==h.Pickup)||!(x.Custody.Who==h.Patron)))
  |none=>false))
def a03 (c:Circ) (x:Item):Bool:=!(x.Custody.State==5)||!(!(o3 c x.ID).2||!((o3 c x.ID).1.State==3))
def a3s (c:Circ):Bool:=c.Holds.all (a2u c)&&c.Items.all (a03 c)
theorem h2h {c:Circ} (hs:Short c):qx c=some (a3s c):=by
 have h1:=m0 (step:=c5y) (fun i=>((i:Int),c,())) c.Holds (fun _=>a2u c) (.inr (false,())) (.inl (c,())) hs.holds
  (by simp only[c5y,dge,yaa])
  (fun i x hx=>by
   have hi:=(zL hx)
   have:=hs.holds;unfold a2u;rcases b0x (item:=x.Got) hs.items with ⟨h1,h2⟩|⟨k,y,h1,h2,h3,h4⟩
   ·simp -zeta only[c5y,dlt hi,d8,hx,yac,a0i,b24 hs.patrons,h1,h2,a88,f7 (show i<9223372036854775807 by omega)];dsimp only;cases (!(a3j c.Patrons x.Patron).2||decide (c.NextHold≤x.ID)) with
    |true=>rfl
    |false=>cases x.State==1<;>rfl
   ·simp -zeta only[c5y,dlt hi,d8,hx,yac,a0i,o5,b24 hs.patrons,h1,h2,h4,a39,yaa,f7 (show i<9223372036854775807 by omega)];dsimp only;generalize (!(a3j c.Patrons x.Patron).2||decide (c.NextHold≤x.ID))=b1;generalize (x.State==1)=b2;generalize (!(y.Record==x.Record))=b3;generalize (!(y.Custody.State==5)||!(y.Custody.Branch==x.Pickup)||!(y.Custody.Who==x.Patron))=b4;generalize (!(y.Custody.State==6)||!(y.Custody.To==x.Pickup)||!(y.Custody.Who==x.Patron))=b5;generalize (x.State==3)=b6;generalize (x.State==2)=b7;cases b1<;>cases b2<;>cases b3<;>cases b4<;>cases b5<;>cases b6<;>cases b7<;>rfl)
 have h2:=m0 (step:=b6k) (fun i=>((i:Int),c,())) c.Items (fun _=>a03 c) (.inr (false,())) (.inl ()) hs.items
  (by simp only[b6k,dge,yaa])
  (fun i x hx=>by
   have hi:=(zL hx)
   have:=hs.items;unfold a03;simp -zeta only[b6k,dlt hi,d8,hx,yac,a0i,a8u hs.holds,f7 (show i<9223372036854775807 by omega)];dsimp only;cases x.Custody.State==5 with
   |false=>rfl
   |true=>
    generalize (!(o3 c x.ID).2||!((o3 c x.ID).1.State==3))=b;cases b<;>rfl)
 unfold qx a3s;rw[show c9 c5y (0,c,())=_ from h1,o8];cases c.Holds.all (a2u c) with
 |false=>rfl
 |true=>
  simp only[yac];rw[show c9 b6k (0,c,())=_ from h2,o8];cases c.Items.all (a03 c)<;>rfl
end
section
open Ev
open Go (IntKind)
def a2q (c:Circ):Bool:=y5 c.Cals.x0==0&&(y5 c.Cals.x1==0&&(y5 c.Cals.x2==0&&y5 c.Cals.x3==0))
theorem d9r {c:Circ} (hs:Short c):c9 c2b (0,c,())=some (bif a2q c then .inl (c,()) else .inr (false,())):=by
 have s0:c2b (0,c,())=bif y5 c.Cals.x0==0 then some (.inl (1,c,())) else some (.inr (.inr (false,()))):=by
  show (match qt c.Cals.x0 with|some r=>(bif !(r==0) then (some (.inr (.inr (false,()))):Option ((Int×Circ×Unit)⊕((Circ×Unit)⊕(Bool×Unit)))) else some (.inl (1,c,())))|none=>none)=_
  rw[e0o hs.cal0];dsimp only;cases y5 c.Cals.x0==0<;>rfl
 have s1:c2b (1,c,())=bif y5 c.Cals.x1==0 then some (.inl (2,c,())) else some (.inr (.inr (false,()))):=by
  show (match qt c.Cals.x1 with|some r=>(bif !(r==0) then (some (.inr (.inr (false,()))):Option ((Int×Circ×Unit)⊕((Circ×Unit)⊕(Bool×Unit)))) else some (.inl (2,c,())))|none=>none)=_
  rw[e0o hs.cal1];dsimp only;cases y5 c.Cals.x1==0<;>rfl
 have s2:c2b (2,c,())=bif y5 c.Cals.x2==0 then some (.inl (3,c,())) else some (.inr (.inr (false,()))):=by
  show (match qt c.Cals.x2 with|some r=>(bif !(r==0) then (some (.inr (.inr (false,()))):Option ((Int×Circ×Unit)⊕((Circ×Unit)⊕(Bool×Unit)))) else some (.inl (3,c,())))|none=>none)=_
  rw[e0o hs.cal2];dsimp only;cases y5 c.Cals.x2==0<;>rfl
 have s3:c2b (3,c,())=bif y5 c.Cals.x3==0 then some (.inl (4,c,())) else some (.inr (.inr (false,()))):=by
  show (match qt c.Cals.x3 with|some r=>(bif !(r==0) then (some (.inr (.inr (false,()))):Option ((Int×Circ×Unit)⊕((Circ×Unit)⊕(Bool×Unit)))) else some (.inl (4,c,())))|none=>none)=_
  rw[e0o hs.cal3];dsimp only;cases y5 c.Cals.x3==0<;>rfl
 have s4:c2b (4,c,())=some (.inr (.inl (c,()))):=rfl;refine o9 5 (by rw[m7];omega) ?_;unfold a2q;simp only[o4,s0,s1,s2,s3,s4];cases y5 c.Cals.x0==0 with
 |false=>rfl
 |true=>
  simp only[yac,o4,s1];cases y5 c.Cals.x1==0 with
  |false=>rfl
  |true=>
   simp only[yac,o4,s2];cases y5 c.Cals.x2==0 with
   |false=>rfl
   |true=>
    simp only[yac,o4,s3];cases y5 c.Cals.x3==0 with
    |false=>rfl
    |true=>simp only[yac,o4,s4];rfl
def a0h (c:Circ) (x:Charge):Bool:=!(!(a3j c.Patrons x.Patron).2||decide (c.NextCharge≤x.ID))
theorem d2p {c:Circ} (hs:Short c):c9 b2u (0,c,())=some (bif c.Charges.all (a0h c) then .inl (c,()) else .inr (false,())):=by
 have h:=m0 (step:=b2u) (fun i=>((i:Int),c,())) c.Charges (fun _=>a0h c) (.inr (false,())) (.inl (c,())) hs.charges
  (by simp only[b2u,dge,yaa])
  (fun i x hx=>by
   have hi:=(zL hx)
   have:=hs.charges;unfold a0h;simp -zeta only[b2u,dlt hi,d8,hx,yac,a0i,b24 hs.patrons,f7 (show i<9223372036854775807 by omega)];dsimp only;cases (!(a3j c.Patrons x.Patron).2||decide (c.NextCharge≤x.ID))<;>rfl)
 rw[show c9 b2u (0,c,())=_ from h,o8]
def a3l (c:Circ):Bool:=!(decide (c.Today<0)||decide (109572<c.Today)||decide (c.NextHold<1)||decide (100000<c.NextHold)||decide (c.NextCharge<1)||decide (100000<c.NextCharge))
def a2v (c:Circ):Bool:=!(!(a02 c.Patrons==0)||!(y8 c.Loans==0)||!(w6 c.Holds==0)||!(m8 c.Charges==0)||!(a2b c.Rules==0))
def a35 (c:Circ):Bool:=a3l c&&(a2v c&&(a2q c&&(c.Charges.all (a0h c)&&(a5j c&&(a1q c&&a3s c)))))
theorem g8r {c:Circ} (hs:Short c):q8 c=some (a35 c):=by
 unfold q8 a35 a3l a2v;simp -zeta only[a0i,o5,g82 hs.patrons hs.name,g81 hs.loans,h2a hs.holds,f2h hs.charges,h19 hs.rules];dsimp only;rw[d9r hs];generalize (decide (c.Today<0)||decide (109572<c.Today)||decide (c.NextHold<1)||decide (100000<c.NextHold)||decide (c.NextCharge<1)||decide (100000<c.NextCharge))=b1;generalize (!(a02 c.Patrons==0)||!(y8 c.Loans==0)||!(w6 c.Holds==0)||!(m8 c.Charges==0)||!(a2b c.Rules==0))=b2;cases b1 with
 |true=>rfl
 |false=>
  cases b2 with
  |true=>rfl
  |false=>
   cases a2q c with
   |false=>rfl
   |true=>
    simp only[yaa,yac,d2p hs];cases c.Charges.all (a0h c) with
    |false=>rfl
    |true=>
     simp -zeta only[yaa,yac,h2g hs,h2f hs,h2h hs,o5]
     try dsimp only
     cases a5j c<;>cases a1q c<;>cases a3s c<;>rfl
def b3p (c:Circ):Bool:=
 !(decide (10<(c.Items.length:Int))||decide (8<(c.Patrons.length:Int))||decide (12<(c.Holds.length:Int))||decide (12<(c.Loans.length:Int))||decide (30<(c.Charges.length:Int))||decide (10<(c.Rules.length:Int))||decide (200<(c.Moves.length:Int)))&&
 (c.Items.all (fun x=>!(decide (300<(x.Call.length:Int))))&&(c.Patrons.all (fun x=>!(decide (300<(x.Name.length:Int))))&&
  (!(decide (20<(c.Cals.x0.Closed.length:Int)))&&(!(decide (20<(c.Cals.x1.Closed.length:Int)))&&(!(decide (20<(c.Cals.x2.Closed.length:Int)))&&!(decide (20<(c.Cals.x3.Closed.length:Int))))))))
theorem h14 (c:Circ):qa c=some (b3p c):=by
 unfold qa b3p;simp -zeta only[a0i,o5];dsimp only;cases hb:(decide (10<(c.Items.length:Int))||decide (8<(c.Patrons.length:Int))||decide (12<(c.Holds.length:Int))||decide (12<(c.Loans.length:Int))||decide (30<(c.Charges.length:Int))||decide (10<(c.Rules.length:Int))||decide (200<(c.Moves.length:Int))) with
 |true=>rfl
 |false=>
  simp only[yai,yag]at hb;have h1:=m0 (step:=d2r) (fun i=>((i:Int),c,())) c.Items (fun _ x=>!(decide (300<(x.Call.length:Int)))) (.inr (false,())) (.inl (c,())) (by omega)
   (by simp only[d2r,dge,yaa])
   (fun i x hx=>by
    have hi:=(zL hx)
    simp only[d2r,dlt hi,d8,hx,yac,f7 (show i<9223372036854775807 by omega)];cases decide (300<(x.Call.length:Int))<;>rfl)
  have h2:=m0 (step:=d2s) (fun i=>((i:Int),c,())) c.Patrons (fun _ x=>!(decide (300<(x.Name.length:Int)))) (.inr (false,())) (.inl (c,())) (by omega)
   (by simp only[d2s,dge,yaa])
   (fun i x hx=>by
    have hi:=(zL hx)
    simp only[d2s,dlt hi,d8,hx,yac,f7 (show i<9223372036854775807 by omega)];cases decide (300<(x.Name.length:Int))<;>rfl)
  have h3:c9 a9z (0,c,())=some (bif (!(decide (20<(c.Cals.x0.Closed.length:Int)))&&(!(decide (20<(c.Cals.x1.Closed.length:Int)))&&(!(decide (20<(c.Cals.x2.Closed.length:Int)))&&!(decide (20<(c.Cals.x3.Closed.length:Int)))))) then .inl () else .inr (false,())):=by
   have s0:a9z (0,c,())=bif decide (20<(c.Cals.x0.Closed.length:Int)) then some (.inr (.inr (false,()))) else some (.inl (1,c,())):=rfl;have s1:a9z (1,c,())=bif decide (20<(c.Cals.x1.Closed.length:Int)) then some (.inr (.inr (false,()))) else some (.inl (2,c,())):=rfl;have s2:a9z (2,c,())=bif decide (20<(c.Cals.x2.Closed.length:Int)) then some (.inr (.inr (false,()))) else some (.inl (3,c,())):=rfl;have s3:a9z (3,c,())=bif decide (20<(c.Cals.x3.Closed.length:Int)) then some (.inr (.inr (false,()))) else some (.inl (4,c,())):=rfl;have s4:a9z (4,c,())=some (.inr (.inl ())):=rfl;refine o9 5 (by rw[m7];omega) ?_;simp only[o4,s0];cases decide (20<(c.Cals.x0.Closed.length:Int)) with
   |true=>rfl
   |false=>
    simp only[yaa,o4,s1];cases decide (20<(c.Cals.x1.Closed.length:Int)) with
    |true=>rfl
    |false=>
     simp only[yaa,o4,s2];cases decide (20<(c.Cals.x2.Closed.length:Int)) with
     |true=>rfl
     |false=>
      simp only[yaa,o4,s3];cases decide (20<(c.Cals.x3.Closed.length:Int)) with
      |true=>rfl
      |false=>simp only[yaa,o4,s4];rfl
  simp only[yaa,yaq,yaQ];rw[show c9 d2r (0,c,())=_ from h1,o8];cases c.Items.all (fun x=>!(decide (300<(x.Call.length:Int)))) with
  |false=>rfl
  |true=>
   simp only[yac,yaQ];rw[show c9 d2s (0,c,())=_ from h2,o8];cases c.Patrons.all (fun x=>!(decide (300<(x.Name.length:Int)))) with
   |false=>rfl
   |true=>
    simp only[yac,yaQ,h3];cases (!(decide (20<(c.Cals.x0.Closed.length:Int)))&&(!(decide (20<(c.Cals.x1.Closed.length:Int)))&&(!(decide (20<(c.Cals.x2.Closed.length:Int)))&&!(decide (20<(c.Cals.x3.Closed.length:Int))))))<;>rfl
structure SmallP (c:Circ):Prop where
 items:c.Items.length≤10
 patrons:c.Patrons.length≤8
 holds:c.Holds.length≤12
 loans:c.Loans.length≤12
 charges:c.Charges.length≤30
 rules:c.Rules.length≤10
 moves:c.Moves.length≤200
 call:∀x∈c.Items,x.Call.length≤300
 name:∀x∈c.Patrons,x.Name.length≤300
 cal0:c.Cals.x0.Closed.length≤20
 cal1:c.Cals.x1.Closed.length≤20
 cal2:c.Cals.x2.Closed.length≤20
 cal3:c.Cals.x3.Closed.length≤20
theorem f4d {c:Circ} (h:b3p c=true):SmallP c:=by
 unfold b3p at h;simp only[yad,yan,yai,yag,yaj]at h;obtain ⟨⟨⟨⟨⟨⟨⟨h1,h2⟩,h3⟩,h4⟩,h5⟩,h6⟩,h7⟩,h8,h9,h10,h11,h12,h13⟩:=h;exact ⟨by omega,by omega,by omega,by omega,by omega,by omega,by omega,fun x hx=>by have:=h8 x hx;omega,fun x hx=>by have:=h9 x hx;omega,by omega,by omega,by omega,by omega⟩
theorem SmallP.short {c:Circ} (h:SmallP c):Short c:=by
 obtain ⟨h1,h2,h3,h4,h5,h6,h7,h8,h9,h10,h11,h12,h13⟩:=h;exact ⟨by omega,by omega,by omega,by omega,by omega,by omega,by omega,fun x hx=>by have:=h8 x hx;omega,fun x hx=>by have:=h9 x hx;omega,by omega,by omega,by omega,by omega⟩
end
section
open Ev
open Go (IntKind)
theorem g8s {γ0:Type} {p:γ0→Patron→Option Bool} {q:Patron→Bool} {s:List Patron} {g:γ0} (hs:s.length<1000000000) (hp:∀x∈s,p g x=some (q x)):qa1 p s g=some (a6w q s):=by
 have h:=u7 (step:=b5m p) (fun i=>(s,g,(s.length:Int),(i:Int),())) s q (fun i _=>(.inr ((i:Int),()):Unit⊕(Int×Unit))) (.inl ()) hs
  (by simp only[b5m,dge,yaa])
  (fun i x hx=>by
   have hi:=(zL hx)
   simp only[b5m,dlt hi,yac,d8,hx,hp x (yaf hx),f7 (show i<9223372036854775807 by omega)])
 unfold qa1;rw[show c9 (b5m p) (s,g,(s.length:Int),0,())=_ from h,←a1x];have:=a00 (p:=q) (g:=fun i _=>(.inr ((i:Int),()):Unit⊕(Int×Unit))) (d:=.inl ()) (fun z=>match (some z:Option (Unit⊕(Int×Unit))) with|some (.inl _)=>some (-1)|some (.inr (v,_))=>some v|none=>none) (l:=s) (i:=0);exact this.trans ((a00 (p:=q) (g:=fun i _=>(i:Int)) (d:=-1) (fun z=>some z) (l:=s) (i:=0)).symm)
theorem f2y {l:List Patron} {id:Int} (hl:l.length<1000000000):qds l id=some (a3j l id):=by
 unfold qds qbm a3j;rw[g8s (q:=fun x=>x.ID==id) hl (fun x _=>rfl)];rcases o6 (fun x:Patron=>x.ID==id) l with ⟨h1,h2⟩|⟨i,x,h1,h2,h3,h4⟩
 ·simp only[h1,h2,a88,yac]
 ·simp only[h1,h4,a39,yaa,d8,h2]
end
end Go.Proofs.YteaknldbhmocpaaGreatDoor
