/- InventorySettles: a part of the proof of the given statement, which is proved without conditions. -/
import Derived.Test.YteaknldbhmocpaaGreatDoorT4
import Derived.Lib.TrimUEq
import Derived.Lib.ValidU
import Derived.Lib.FieldsP
import Derived.Lib.Join
import Derived.Shelf.Strings.OnBuilder
import Derived.Shelf.Strings.FieldsFuncAny
import Derived.Shelf.Unicode.ValidAny
import Derived.Ground.NamesProg
import Derived.Ground.Names2Prog
import Derived.Test.YteaknldbhmocpaaGreatDoorProg
import Derived.WalkKit
import Derived.WalkMore
import Derived.Below
import Derived.Laws.RangeString
import Derived.Laws.Runes
import Derived.LoopTactic
import Derived.Deep.LoopGhost
import Derived.Shelf.Sort.Plain
import Derived.Shelf.Slices.CompactI
import Derived.Shelf.Slices.In.SortNone
import Derived.Lib.RowBridge
import Derived.Test.YteaknldbhmocpaaGreatDoorTie
import Derived.Shelf.LaysM
import Derived.Shelf.Strconv.Itoa3
import Derived.Lib.AppendIntMem
import Derived.KernelRfl
import Derived.Laws.BitsLemmas
set_option linter.all false
namespace Go.Proofs.YteaknldbhmocpaaGreatDoor.Ev
open Go
section
section
variable {κ:Type} {El:κ→Type} {S:Sg κ El} {P:Program}
theorem y2 {α:Type} {L new:List α} {off j:Nat} (h:off+new.length≤L.length):(Go.splice L off new)[j]?=if off≤j∧j<off+new.length then new[j-off]? else L[j]?:=by
 unfold Go.splice;rw[←ybl];exact b8l L new off j h
theorem a6e (sgk:SgOk S) {w w':World} {I J I':Nat→Nat→Prop} {v:Value} {d:D κ El} (h:DR S w I J v d) (hp:a6p d=true) (H:∀b o,I b o→w'.cell? ⟨b,o,none⟩=w.cell? ⟨b,o,none⟩∧I' b o):DR S w' I' I' v d:=
 (h.relendL sgk (J':=I) (a15 hp)).mono H H
theorem a3n (sgk:SgOk S) {k:κ} {x:El k} {j:Nat} {d:D κ El} (h:(S.enc k x)[j]?=some d):a6p d=true:=sgk.plain k x d (yaf h)
theorem d9h {w:World} {I J:Nat→Nat→Prop} {v:Value} {d:D κ El} (h:DR S w I J v d) (hp:a6p d=true):v.oneCell'=true:=
 (h.lone (by cases d<;>simp_all[a6p,solid])).one
structure InsOk (P:Program) (f z E:Nat):Prop where
 shift:∀{w:World} {b n c i vb vo vc:Nat} {L vs:List Value} {t:TypeId},i<n→n+1≤c→n+1≤1073741824→vb≠b→w.heap[b]?=some (.cells L.toArray t (0,0))→L.length=c*z→vs.length=z→
  (∀j v,vs[j]?=some v→w.cell? ⟨vb,vo+j,none⟩=some v)→(∀v∈(L.drop (i*z)).take ((n-i)*z),v.oneCell'=true)→(∀v∈vs,v.oneCell'=true)→
  Calls P f #[.slice (some ⟨b,0,none⟩) n c,.int .i64 i,.slice (some ⟨vb,vo,none⟩) 1 vc] w fun e w'=>
   e=.returned (.slice (some ⟨b,0,none⟩) (n+1) c)∧w'=(w.drew.setRow b (Go.splice L ((i+1)*z) ((L.drop (i*z)).take ((n-i)*z))).toArray).setRow b (Go.splice (Go.splice L ((i+1)*z) ((L.drop (i*z)).take ((n-i)*z))) (i*z) vs).toArray
 room:∀{w:World} {b n c vb vo vc:Nat} {L vs:List Value} {t:TypeId},n+1≤c→n+1≤1073741824→w.heap[b]?=some (.cells L.toArray t (0,0))→L.length=c*z→vs.length=z→
  (∀j v,vs[j]?=some v→w.cell? ⟨vb,vo+j,none⟩=some v)→(∀v∈vs,v.oneCell'=true)→
  Calls P f #[.slice (some ⟨b,0,none⟩) n c,.int .i64 n,.slice (some ⟨vb,vo,none⟩) 1 vc] w fun e w'=>
   e=.returned (.slice (some ⟨b,0,none⟩) (n+1) c)∧w'=w.setRow b (Go.splice L (n*z) vs).toArray
 new:∀{w:World} {base:Option Addr} {n c vb vo vc:Nat} {olds vs:List Value},n≤c→c<n+1→n+1≤1073741824→vs.length=z→(base=none→n=0)→olds.length=n*z→
  (∀a,base=some a→∀j v,olds[j]?=some v→w.cell? (a.add j)=some v)→(∀j v,vs[j]?=some v→w.cell? ⟨vb,vo+j,none⟩=some v)→
  Calls P f #[.slice base n c,.int .i64 n,.slice (some ⟨vb,vo,none⟩) 1 vc] w fun e w'=>
   ∃cap zs,e=.returned (.slice (some ⟨w.heap.size,0,none⟩) (n+1) cap)∧w'=w.drew.alloc (.cells (olds++(vs++zs)).toArray E)∧n+1≤cap∧zs.length=(cap-(n+1))*z
 grow:∀{w:World} {b n c i vb vo vc:Nat} {L vs:List Value} {t:TypeId},i<n→n≤c→c<n+1→n+1≤1073741824→vb≠b→w.heap[b]?=some (.cells L.toArray t (0,0))→L.length=c*z→vs.length=z→
  (∀j v,vs[j]?=some v→w.cell? ⟨vb,vo+j,none⟩=some v)→(∀v∈(L.drop (i*z)).take ((n-i)*z),v.oneCell'=true)→(∀v∈vs,v.oneCell'=true)→
  Calls P f #[.slice (some ⟨b,0,none⟩) n c,.int .i64 i,.slice (some ⟨vb,vo,none⟩) 1 vc] w fun e w'=>
   ∃cap row,e=.returned (.slice (some ⟨w.heap.size,0,none⟩) (n+1) cap)∧n+1≤cap∧row.length=cap*z∧row.take (i*z)=L.take (i*z)∧
    w'.heap=(w.heap.push (.cells (Go.splice (Go.splice row (i*z) vs) ((i+1)*z) ((L.drop (i*z)).take ((n-i)*z))).toArray E))∧w'.os=w.os∧w'.output=w.output∧w'.tape=w.tape
theorem b1w {k:κ} {xs:List (El k)} {y:El k} {i:Nat} {L vs M:List Value} {Q:Value→D κ El→Prop} (sgk:SgOk S) (hi:i≤xs.length)
 (h1:∀(i:Nat) (hi:i<xs.length) (j:Nat) (d:D κ El),(S.enc k xs[i])[j]?=some d→∃v,L[i*S.sz k+j]?=some v∧Q v d)
 (h2:∀(j:Nat) (d:D κ El),(S.enc k y)[j]?=some d→∃v,vs[j]?=some v∧Q v d)
 (m1:∀p:Nat,p<i*S.sz k→M[p]?=L[p]?) (m2:∀j:Nat,j<S.sz k→M[i*S.sz k+j]?=vs[j]?) (m3:∀p:Nat,i*S.sz k≤p→p<xs.length*S.sz k→M[p+S.sz k]?=L[p]?) :
 ∀(i':Nat) (hi':i'<(xs.take i++y::xs.drop i).length) (j:Nat) (d:D κ El),(S.enc k (xs.take i++y::xs.drop i)[i'])[j]?=some d→∃v,M[i'*S.sz k+j]?=some v∧Q v d:=by
 intro i' hi' j d hj;have hj':j<S.sz k:=by have:=(zL hj);rwa [sgk.sz]at this
 have hl:(xs.take i).length=i:=by simp;omega
 by_cases hlt:i'<i
 ·have e:(xs.take i++y::xs.drop i)[i']=xs[i']'(by omega):=by rw[ybH (by omega)];simp
  rw[e]at hj;obtain ⟨v,a,b⟩:=h1 i' (by omega) j d hj;exact ⟨v,by rw[m1 _ (a3d hj' hlt)];exact a,b⟩
 ·by_cases heq:i'=i
  ·subst heq;have e:(xs.take i'++y::xs.drop i')[i']=y:=by rw[ybC (by omega)];simp[hl]
   rw[e]at hj;obtain ⟨v,a,b⟩:=h2 j d hj;exact ⟨v,by rw[m2 j hj'];exact a,b⟩
  ·obtain ⟨p,rfl⟩:∃p,i'=p+1:=⟨i'-1,by omega⟩
   have hp:p<xs.length:=by simp at hi';omega
   have e:(xs.take i++y::xs.drop i)[p+1]=xs[p]:=by
    rw[ybC (by omega)];have e2:p+1-(xs.take i).length=(p-i)+1:=by omega
    simp only[e2,List.getElem_cons_succ,List.getElem_drop];congr 1;omega
   rw[e]at hj;obtain ⟨v,a,b⟩:=h1 p hp j d hj;refine ⟨v,?_,b⟩;have:=m3 (p*S.sz k+j) (by have:=yaq (S.sz k) (show i≤p by omega);omega) (a3d hj' hp);rw[←a,←this];congr 1;rw[ya2];omega
theorem f6q (sgk:SgOk S) {f E:Nat} {fn:Func} {code:Code} (fok:FnOk P f fn code) (hmd:S.md f=.cons) {k:κ} (W:InsOk P f (S.sz k) E)
 {xs:List (El k)} {y:El k} {i:Nat} {ds:List (D κ El)} (hi:i≤xs.length) (hlim:xs.length+1≤1073741824) (hwl:WL ds [.lst k xs,.int .i64 (i:Int),.lst k [y]]) :
 Con P S f ds [] (.lst k (xs.take i++y::xs.drop i)) []:=by
 unfold Con;rw[hmd];intro _ k' xs' ds0 hds k2 xs2 hd w I J mb v0 vs hp ho ha;subst hds;cases hd
 have hw0:=hwl.2 0 _ _ rfl rfl;cases hw0 with
 |leaf _ _ hw0=>
 cases hw0
 have ha:=WL.args (cs':=[.int .i64 (i:Int),.lst k [y]]) ⟨by simpa using hwl.1,fun q d d' h1 h2=>hwl.2 (q+1) d d' (by simpa using h1) (by simpa using h2)⟩ ha;obtain ⟨base,c,rfl,hnc,hz⟩:=ho;obtain ⟨hvs,hav⟩:=ha;obtain ⟨u1,u2,rfl⟩:∃u1 u2,vs = #[u1,u2]:=by
  simp at hvs;exact ⟨vs[0],vs[1],by
   apply Array.ext
   ·simp[hvs]
   ·intro j h1 h2;simp at h2;rcases (show j=0∨j=1 by omega) with rfl|rfl<;>rfl⟩
 have hu1:u1=.int .i64 i:=(hav 0 u1 _ rfl rfl).int_inv;have hu2:=hav 1 u2 _ rfl rfl;subst hu1;obtain ⟨n,hn⟩:∃n,n=xs.length:=⟨_,rfl⟩
 have hpos:=sgk.pos k;cases hu2 with
 |lst vb vo vc _ _ cv hvcap hvc hvv=>
 obtain ⟨us,hus⟩:∃us,us=(List.range (S.sz k)).map (cv 0):=⟨_,rfl⟩
 have husl:us.length=S.sz k:=by rw[hus];simp
 have hug:∀j,j<S.sz k→us[j]?=some (cv 0 j):=fun j hj=>by rw[hus];simp[hj]
 have huc:∀j v,us[j]?=some v→w.cell? ⟨vb,vo+j,none⟩=some v:=fun j v hj=>by
  have hlt:=(zL hj)
  rw[husl]at hlt;rw[hug j hlt]at hj;cases hj
  have:=(hvc 0 j (by simp) hlt).1;simpa using this
 have huI:∀j,j<S.sz k→I vb (vo+j):=fun j hlt=>by have:=(hvc 0 j (by simp) hlt).2;simpa using this
 have hud:∀j d,(S.enc k y)[j]?=some d→∃v,us[j]?=some v∧DR S w I J v d:=fun j d hj=>by
  have hlt:=(zL hj)
  rw[sgk.sz]at hlt;exact ⟨_,hug j hlt,hvv 0 (by simp) j d hj⟩
 have hu1c:∀v∈us,v.oneCell'=true:=fun v hv=>by
  obtain ⟨j,hj⟩:=yaI hv;have hlt:=(zL hj)
  have hlt':j<(S.enc k y).length:=by rw[sgk.sz,←husl];exact hlt
  obtain ⟨v',e1,e2⟩:=hud j _ (yab hlt');rw[hj]at e1;cases e1
  exact d9h e2 (sgk.plain k y _ (ybv hlt'))
 have hIw:∀b o,I b o→b<w.heap.size:=hp.ib;have hres:(xs.take i++y::xs.drop i).length=n+1:=by simp;omega
 unfold a1f;rw[MuLone.run_callFunc_enter fok.at_ fok.name fok.body _ w];simp only;show Calls P f #[.slice base xs.length c,.int .i64 (i:Int),.slice (some ⟨vb,vo,none⟩) 1 vc] w _
 rcases hz with ⟨rfl,rfl⟩|⟨b,vals,t,rfl,rfl,hb,hvsz,hel⟩
 ·have hx0:xs=[]:=yaA (by omega);subst hx0;have hi0:i=0:=by simpa using hi
  subst hi0;have hnew:=W.new (w:=w) (base:=base) (n:=0) (c:=0) (vb:=vb) (vo:=vo) (vc:=vc) (olds:=[]) (vs:=us) (by omega) (by omega) (by omega) husl (fun _=>rfl) (by simp) (fun a _ j v hj=>by simp at hj) huc;refine hnew.mono (fun e w' he=>?_);obtain ⟨cap,zs,rfl,rfl,hcap,hzl⟩:=he;refine ⟨I,⟨by rw[World.size_alloc];show w.heap.size≤w.heap.size+1;omega,rfl,rfl,rfl,fun q hq _=>?_,fun _ _ h=>h,fun _ _ h=>.inl h,fun q o h=>by have:=hIw q o h;rw[World.size_alloc];show q<w.heap.size+1;omega⟩,
   some ⟨w.heap.size,0,none⟩,cap,by simp,by simp;omega,.inr ⟨w.heap.size,_,E,rfl,a3i w.drew _,?_,.inl (yat _),fun o h=>absurd (hIw _ _ h) (by omega),?_⟩⟩
  ·simp only[World.alloc];rw[ybQ,yar (by show ¬q=w.heap.size;omega)];rfl
  ·simp[husl,hzl];obtain ⟨q,rfl⟩:∃q,cap=q+1:=⟨cap-1,by omega⟩
   rw[Nat.add_sub_cancel,ya2];omega
  ·intro i' hi' j d hj;have:=b1w (L:=[]) (vs:=us) (M:=us++zs) (Q:=fun v d=>DR S (w.drew.alloc (.cells ([]++(us++zs)).toArray E)) I I v d) sgk (i:=0) (xs:=[]) (y:=y) (by simp) (fun i hi=>absurd hi (by simp))
    (fun j d hj=>by
     obtain ⟨v,a,b⟩:=hud j d hj;exact ⟨v,a,a6e sgk b (a3n sgk hj) (fun q o h=>⟨by
      have:=hIw q o h;simp only[World.cell?,World.alloc];rw[ybQ,yar (by show ¬q=w.heap.size;omega)];rfl,h⟩)⟩)
    (fun p hp=>absurd hp (by omega)) (fun j hj=>by rw[Nat.zero_mul,yaH,yax (by omega)]) (fun p _ hp=>by simp at hp) i' hi' j d hj
   simpa using this
 ·have hbw:b<w.heap.size:=(yah.1 hb).1;have hbI:∀o,¬I b o:=fun o h=>(hp.jb b o (hp.ij b o h)).2 (by simp)
  have hne:vb≠b:=fun e=>by subst e;exact hbI _ (huI 0 hpos)
  obtain ⟨L,hL⟩:∃L,L=vals.toList:=⟨_,rfl⟩
  have hLa:vals=L.toArray:=by rw[hL]
  have hLl:L.length=c*S.sz k:=by rw[hL];simpa using hvsz
  rw[hLa]at hb;have hel':∀i (hi:i<xs.length) j d,(S.enc k xs[i])[j]?=some d→∃v,L[i*S.sz k+j]?=some v∧DR S w I J v d:=fun i hi j d hj=>by
   obtain ⟨v,a,e⟩:=hel i hi j d hj;exact ⟨v,by rw[hL];simpa using a,e⟩
  have hnL:n*S.sz k≤L.length:=by rw[hLl];exact yaq _ (by omega)
  have hone:∀v∈L.take (n*S.sz k),v.oneCell'=true:=fun v hv=>by
   obtain ⟨p,hp'⟩:=yaI hv;have hlt:=(zL hp')
   simp only[ya5]at hlt;have h1:p / S.sz k<n:=(Nat.div_lt_iff_lt_mul hpos).2 (by omega);have h2:=Nat.mod_lt p hpos;have h3:p % S.sz k<(S.enc k (xs[p / S.sz k]'(by omega))).length:=by rw[sgk.sz];exact h2
   obtain ⟨v',a,e⟩:=hel' (p / S.sz k) (by omega) _ _ (yab h3);rw[Nat.div_add_mod']at a;rw[yaz,yaJ (by omega),a]at hp';cases hp'
   exact d9h e (sgk.plain k _ _ (ybv h3))
  have hC1:(L.drop (i*S.sz k)).take ((n-i)*S.sz k)=(L.take (n*S.sz k)).drop (i*S.sz k):=by
   rw[List.drop_take];congr 1;rw[Nat.sub_mul]
  have hone1:∀v∈(L.drop (i*S.sz k)).take ((n-i)*S.sz k),v.oneCell'=true:=fun v hv=>hone v (by rw[hC1]at hv;exact List.mem_of_mem_drop hv)
  have hin:i*S.sz k≤n*S.sz k:=yaq _ (by omega);have hi1:(i+1)*S.sz k=i*S.sz k+S.sz k:=by rw[ya2,ybZ]
  have hn1:(n+1)*S.sz k=n*S.sz k+S.sz k:=by rw[ya2,ybZ]
  obtain ⟨C1,hC⟩:∃C1,C1=(L.drop (i*S.sz k)).take ((n-i)*S.sz k):=⟨_,rfl⟩
  have hC1l:C1.length=n*S.sz k-i*S.sz k:=by rw[hC,hC1];simp;omega
  have hC1g:∀q,q<n*S.sz k-i*S.sz k→C1[q]?=L[i*S.sz k+q]?:=fun q hq=>by rw[hC,hC1,ybK,yaz,yaJ (by omega)]
  have inpl:∀(M:List Value) (w':World),M.length=L.length→(w'=w.setRow b M.toArray∨∃M0:Array Value,w'=(w.drew.setRow b M0).setRow b M.toArray)→n+1≤c→
   (∀p:Nat,p<i*S.sz k→M[p]?=L[p]?)→(∀j:Nat,j<S.sz k→M[i*S.sz k+j]?=us[j]?)→(∀p:Nat,i*S.sz k≤p→p<xs.length*S.sz k→M[p+S.sz k]?=L[p]?)→
   ∃I',GrowM [b] w w' I I'∧h2m S w' I' w.heap.size [b] k (xs.take i++y::xs.drop i) (.slice (some ⟨b,0,none⟩) (n+1) c):=by
   intro M w' hMl hw' hroom m1 m2 m3;have hheap:w'.heap[b]?=some (.cells M.toArray t (0,0)):=by
    rcases hw' with rfl|⟨M0,rfl⟩
    ·exact setRow_heap _ _ _ _ _ _ hb
    ·exact setRow_heap _ _ _ _ _ _ (setRow_heap w.drew _ _ _ _ _ hb)
   have hoth:∀q,q≠b→w'.heap[q]?=w.heap[q]?:=fun q hq=>by
    rcases hw' with rfl|⟨M0,rfl⟩
    ·exact setRow_other _ _ _ _ hq
    ·rw[setRow_other _ _ _ _ hq,setRow_other _ _ _ _ hq];rfl
   have hsz:w'.heap.size=w.heap.size:=by
    rcases hw' with rfl|⟨M0,rfl⟩<;>simp only[setRow_size]<;>rfl
   refine ⟨I,⟨by omega,by rcases hw' with rfl|⟨M0,rfl⟩<;>rfl,by rcases hw' with rfl|⟨M0,rfl⟩<;>rfl,by rcases hw' with rfl|⟨M0,rfl⟩<;>rfl,fun q hq hm=>hoth q (by simpa using hm),fun _ _ h=>h,fun _ _ h=>.inl h,fun q o h=>by have:=hIw q o h;omega⟩,
    some ⟨b,0,none⟩,c,by rw[hres],by omega,.inr ⟨b,_,t,rfl,hheap,by simp[hMl,hLl],.inr (by simp),hbI,?_⟩⟩
   intro i' hi' j d hj;have:=b1w (L:=L) (vs:=us) (M:=M) (Q:=fun v d=>DR S w' I I v d) sgk (by omega)
    (fun i hi j d hj=>by
     obtain ⟨v,a,e⟩:=hel' i hi j d hj;exact ⟨v,a,a6e sgk e (a3n sgk hj) (fun q o h=>⟨by simp only[World.cell?];rw[hoth q (fun e=>by subst e;exact hbI o h)],h⟩)⟩)
    (fun j d hj=>by
     obtain ⟨v,a,e⟩:=hud j d hj;exact ⟨v,a,a6e sgk e (a3n sgk hj) (fun q o h=>⟨by simp only[World.cell?];rw[hoth q (fun e=>by subst e;exact hbI o h)],h⟩)⟩) m1 m2 m3 i' hi' j d hj
   simpa using this
  have newb:∀(M:List Value) (cap:Nat) (w':World),M.length=cap*S.sz k→w'.heap=w.heap.push (.cells M.toArray E)→w'.os=w.os→w'.output=w.output→w'.tape=w.tape→n+1≤cap→
   (∀p:Nat,p<i*S.sz k→M[p]?=L[p]?)→(∀j:Nat,j<S.sz k→M[i*S.sz k+j]?=us[j]?)→(∀p:Nat,i*S.sz k≤p→p<xs.length*S.sz k→M[p+S.sz k]?=L[p]?)→
   ∃I',GrowM [b] w w' I I'∧h2m S w' I' w.heap.size [b] k (xs.take i++y::xs.drop i) (.slice (some ⟨w.heap.size,0,none⟩) (n+1) cap):=by
   intro M cap w' hMl hheap h1 h2 h3 hcap m1 m2 m3;have hoth:∀q,q<w.heap.size→w'.heap[q]?=w.heap[q]?:=fun q hq=>by rw[hheap,ybQ,yar (by omega)]
   refine ⟨I,⟨by rw[hheap];simp,h1,h2,h3,fun q hq _=>hoth q hq,fun _ _ h=>h,fun _ _ h=>.inl h,fun q o h=>by have:=hIw q o h;rw[hheap];simp;omega⟩,
    some ⟨w.heap.size,0,none⟩,cap,by rw[hres],by omega,.inr ⟨w.heap.size,_,E,rfl,by rw[hheap];exact Array.getElem?_push_size,by simp[hMl],.inl (yat _),fun o h=>absurd (hIw _ _ h) (by omega),?_⟩⟩
   intro i' hi' j d hj;have:=b1w (L:=L) (vs:=us) (M:=M) (Q:=fun v d=>DR S w' I I v d) sgk (by omega)
    (fun i hi j d hj=>by
     obtain ⟨v,a,e⟩:=hel' i hi j d hj;exact ⟨v,a,a6e sgk e (a3n sgk hj) (fun q o h=>⟨by simp only[World.cell?];rw[hoth q (hIw q o h)],h⟩)⟩)
    (fun j d hj=>by
     obtain ⟨v,a,e⟩:=hud j d hj;exact ⟨v,a,a6e sgk e (a3n sgk hj) (fun q o h=>⟨by simp only[World.cell?];rw[hoth q (hIw q o h)],h⟩)⟩) m1 m2 m3 i' hi' j d hj
   simpa using this
  rw[←hn]at hi hlim hnc ⊢;by_cases hroom:n+1≤c
  ·have hn1c:(n+1)*S.sz k≤L.length:=by rw[hLl];exact yaq _ hroom
   by_cases hlt:i<n
   ·refine (W.shift (vc:=vc) hlt hroom hlim hne hb hLl husl huc hone1 hu1c).mono (fun e w' he=>?_);obtain ⟨rfl,rfl⟩:=he;rw[←hC];have l1:(Go.splice L ((i+1)*S.sz k) C1).length=L.length:=length_splice _ _ _ (by omega);refine inpl _ _ ?_ (.inr ⟨_,rfl⟩) hroom ?_ ?_ ?_
    ·rw[length_splice _ _ _ (by omega),l1]
    ·intro p hp';rw[y2 (by omega),yar (by omega),y2 (by omega),yar (by omega)]
    ·intro j hj;rw[y2 (by omega),yaJ (by omega)];congr 1;omega
    ·intro p h1 h2;rw[←hn]at h2;rw[y2 (by omega),yar (by omega),y2 (by omega),yaJ (by omega),hC1g _ (by omega)];congr 1;omega
   ·have hie:i=n:=by omega
    subst hie;refine (W.room (vc:=vc) hroom hlim hb hLl husl huc hu1c).mono (fun e w' he=>?_);obtain ⟨rfl,rfl⟩:=he;refine inpl _ _ (length_splice _ _ _ (by omega)) (.inl rfl) hroom ?_ ?_ ?_
    ·intro p hp';rw[y2 (by omega),yar (by omega)]
    ·intro j hj;rw[y2 (by omega),yaJ (by omega)];congr 1;omega
    ·intro p h1 h2;rw[←hn]at h2;omega
  ·by_cases hlt:i<n
   ·refine (W.grow (vc:=vc) hlt hnc (by omega) hlim hne hb hLl husl huc hone1 hu1c).mono (fun e w' he=>?_);obtain ⟨cap,row,rfl,hcap,hrl,hrt,hheap,q1,q2,q3⟩:=he;rw[←hC]at hheap;have hrl':(n+1)*S.sz k≤row.length:=by rw[hrl];exact yaq _ hcap
    have l1:(Go.splice row (i*S.sz k) us).length=row.length:=length_splice _ _ _ (by omega);refine newb _ cap w' ?_ hheap q1 q2 q3 hcap ?_ ?_ ?_
    ·rw[length_splice _ _ _ (by omega),l1,hrl]
    ·intro p hp';rw[y2 (by omega),yar (by omega),y2 (by omega),yar (by omega)];have e1:(row.take (i*S.sz k))[p]?=row[p]?:=by rw[yaz,yaJ hp']
     have e2:(L.take (i*S.sz k))[p]?=L[p]?:=by rw[yaz,yaJ hp']
     rw[←e1,hrt,e2]
    ·intro j hj;rw[y2 (by omega),yar (by omega),y2 (by omega),yaJ (by omega)];congr 1;omega
    ·intro p h1 h2;rw[←hn]at h2;rw[y2 (by omega),yaJ (by omega),hC1g _ (by omega)];congr 1;omega
   ·have hie:i=n:=by omega
    subst hie;refine (W.new (base:=some ⟨b,0,none⟩) (vc:=vc) (olds:=L.take (i*S.sz k)) hnc (by omega) hlim husl (fun h=>by cases h) (by simp;omega) (fun a ha j v hj=>?_) huc).mono (fun e w' he=>?_)
    ·cases ha
     rw[yaz]at hj;split at hj
     ·rw[a0l,yaH];simp only[World.cell?,hb];simpa using hj
     ·cases hj
    ·obtain ⟨cap,zs,rfl,rfl,hcap,hzl⟩:=he;obtain ⟨q,rfl⟩:∃q,cap=q+(i+1):=⟨cap-(i+1),by omega⟩
     rw[Nat.add_sub_cancel]at hzl;have hTl:(L.take (i*S.sz k)).length=i*S.sz k:=by simp;omega
     refine newb _ (q+(i+1)) _ ?_ rfl rfl rfl rfl hcap ?_ ?_ ?_
     ·simp only[yaM,hTl,husl,hzl];rw[ya2,hi1];omega
     ·intro p hp';rw[yax (by omega),yaz,yaJ hp']
     ·intro j hj;rw[yay (by omega),yax (by omega)];congr 1;omega
     ·intro p h1 h2;rw[←hn]at h2;omega
theorem b60 (sgk:SgOk S) {f E:Nat} {fn:Func} {code:Code} (fok:FnOk P f fn code) (hmd:S.md f=.cons) {k:κ} (W:InsOk P f (S.sz k) E)
 {xs vs r:List (El k)} {i:Int} {ds:List (D κ El)} (hwl:WL ds [.lst k xs,.int .i64 i,.lst k vs]) (hr:b1x xs i vs=some r):Con P S f ds [] (.lst k r) []:=by
 unfold b1x at hr;split at hr
 ·rename_i y;rw[b9]at hr;split at hr
  ·rename_i h;simp only[yad,yae]at h;cases hr
   obtain ⟨n,rfl⟩:=Int.eq_ofNat_of_zero_le h.1.1;exact f6q sgk fok hmd W (i:=n) (by omega) h.2 hwl
  ·cases hr
 ·cases hr
end
end
section
section
variable {κ:Type} {El:κ→Type} {S:Sg κ El} {P:Program}
structure DelOk (P:Program) (f z:Nat):Prop where
 non:∀{w:World} {base:Option Addr} {n c i:Nat},n≤c→i≤n→Calls P f #[.slice base n c,.int .i64 i,.int .i64 i] w fun e w'=>e=.returned (.slice base n c)∧w'=w
 som:∀{w:World} {b n c i j:Nat} {L:List Value} {t:TypeId},i<j→j≤n→n≤c→w.heap[b]?=some (.cells L.toArray t (0,0))→L.length=c*z→(∀v∈(L.drop (j*z)).take ((n-j)*z),v.oneCell'=true)→
  Calls P f #[.slice (some ⟨b,0,none⟩) n c,.int .i64 i,.int .i64 j] w fun e w'=>
   e=.returned (.slice (some ⟨b,0,none⟩) (i+(n-j)) c)∧∃(M0:Array Value) (zs:List Value),zs.length=(j-i)*z∧w'=(w.drew.setRow b M0).setRow b (Go.splice (Go.splice L (i*z) ((L.drop (j*z)).take ((n-j)*z))) ((i+(n-j))*z) zs).toArray
theorem f6p (sgk:SgOk S) {f:Nat} {fn:Func} {code:Code} (fok:FnOk P f fn code) (hmd:S.md f=.cons) {k:κ} (W:DelOk P f (S.sz k))
 {xs:List (El k)} {i j:Nat} {ds:List (D κ El)} (hij:i≤j) (hj:j≤xs.length) (hwl:WL ds [.lst k xs,.int .i64 (i:Int),.int .i64 (j:Int)]) :
 Con P S f ds [] (.lst k (xs.take i++xs.drop j)) []:=by
 unfold Con;rw[hmd];intro _ k' xs' ds0 hds k2 xs2 hd w I J mb v0 vs hp ho ha;subst hds;cases hd
 have hw0:=hwl.2 0 _ _ rfl rfl;cases hw0 with
 |leaf _ _ hw0=>
 cases hw0
 have ha:=WL.args (cs':=[.int .i64 (i:Int),.int .i64 (j:Int)]) ⟨by simpa using hwl.1,fun q d d' h1 h2=>hwl.2 (q+1) d d' (by simpa using h1) (by simpa using h2)⟩ ha;obtain ⟨base,c,rfl,hnc,hz⟩:=ho;obtain ⟨hvs,hav⟩:=ha;obtain ⟨u1,u2,rfl⟩:∃u1 u2,vs = #[u1,u2]:=by
  simp at hvs;exact ⟨vs[0],vs[1],by
   apply Array.ext
   ·simp[hvs]
   ·intro j h1 h2;simp at h2;rcases (show j=0∨j=1 by omega) with rfl|rfl<;>rfl⟩
 have hu1:u1=.int .i64 i:=(hav 0 u1 _ rfl rfl).int_inv;have hu2:u2=.int .i64 j:=(hav 1 u2 _ rfl rfl).int_inv;subst hu1 hu2;obtain ⟨n,hn⟩:∃n,n=xs.length:=⟨_,rfl⟩
 have hpos:=sgk.pos k;have hIw:∀b o,I b o→b<w.heap.size:=hp.ib;have hres:(xs.take i++xs.drop j).length=i+(n-j):=by simp;omega
 unfold a1f;rw[MuLone.run_callFunc_enter fok.at_ fok.name fok.body _ w];simp only;show Calls P f #[.slice base xs.length c,.int .i64 (i:Int),.int .i64 (j:Int)] w _
 by_cases heq:i=j
 ·subst heq;refine (W.non hnc hj).mono (fun e w' he=>?_);obtain ⟨rfl,rfl⟩:=he;have e:xs.take i++xs.drop i=xs:=by simp
  rw[e];refine ⟨I,⟨yat _,rfl,rfl,rfl,fun _ _ _=>rfl,fun _ _ h=>h,fun _ _ h=>.inl h,hIw⟩,base,c,rfl,hnc,?_⟩;rcases hz with ⟨h,_⟩|⟨b,vals,t,rfl,rfl,hb,hvsz,hel⟩
  ·exact .inl h
  ·have hbI:∀o,¬I b o:=fun o h=>(hp.jb b o (hp.ij b o h)).2 (by simp)
   refine .inr ⟨b,vals,t,rfl,hb,hvsz,.inr (by simp),hbI,fun q hq j d hj=>?_⟩;obtain ⟨v,a,e⟩:=hel q hq j d hj;exact ⟨v,a,a6e sgk e (a3n sgk hj) (fun _ _ h=>⟨rfl,h⟩)⟩
 ·have hlt:i<j:=by omega
  rcases hz with ⟨rfl,rfl⟩|⟨b,vals,t,rfl,rfl,hb,hvsz,hel⟩
  ·exfalso;omega
  ·have hbw:b<w.heap.size:=(yah.1 hb).1;have hbI:∀o,¬I b o:=fun o h=>(hp.jb b o (hp.ij b o h)).2 (by simp)
   obtain ⟨L,hL⟩:∃L,L=vals.toList:=⟨_,rfl⟩
   have hLa:vals=L.toArray:=by rw[hL]
   have hLl:L.length=c*S.sz k:=by rw[hL];simpa using hvsz
   rw[hLa]at hb;have hel':∀i (hi:i<xs.length) j d,(S.enc k xs[i])[j]?=some d→∃v,L[i*S.sz k+j]?=some v∧DR S w I J v d:=fun i hi j d hj=>by
    obtain ⟨v,a,e⟩:=hel i hi j d hj;exact ⟨v,by rw[hL];simpa using a,e⟩
   have hnL:n*S.sz k≤L.length:=by rw[hLl];exact yaq _ (by omega)
   have hone:∀v∈L.take (n*S.sz k),v.oneCell'=true:=fun v hv=>by
    obtain ⟨p,hp'⟩:=yaI hv;have hlt:=(zL hp')
    simp only[ya5]at hlt;have h1:p / S.sz k<n:=(Nat.div_lt_iff_lt_mul hpos).2 (by omega);have h2:=Nat.mod_lt p hpos;have h3:p % S.sz k<(S.enc k (xs[p / S.sz k]'(by omega))).length:=by rw[sgk.sz];exact h2
    obtain ⟨v',a,e⟩:=hel' (p / S.sz k) (by omega) _ _ (yab h3);rw[Nat.div_add_mod']at a;rw[yaz,yaJ (by omega),a]at hp';cases hp'
    exact d9h e (sgk.plain k _ _ (ybv h3))
   have hjn:j*S.sz k≤n*S.sz k:=yaq _ (by omega);have hC1:(L.drop (j*S.sz k)).take ((n-j)*S.sz k)=(L.take (n*S.sz k)).drop (j*S.sz k):=by
    rw[List.drop_take];congr 1;rw[Nat.sub_mul]
   have hone1:∀v∈(L.drop (j*S.sz k)).take ((n-j)*S.sz k),v.oneCell'=true:=fun v hv=>hone v (by rw[hC1]at hv;exact List.mem_of_mem_drop hv)
   obtain ⟨C1,hC⟩:∃C1,C1=(L.drop (j*S.sz k)).take ((n-j)*S.sz k):=⟨_,rfl⟩
   have hC1l:C1.length=n*S.sz k-j*S.sz k:=by rw[hC,hC1];simp;omega
   have hC1g:∀q,q<n*S.sz k-j*S.sz k→C1[q]?=L[j*S.sz k+q]?:=fun q hq=>by rw[hC,hC1,ybK,yaz,yaJ (by omega)]
   have hij':i*S.sz k≤j*S.sz k:=yaq _ (by omega);have hm:(i+(n-j))*S.sz k=i*S.sz k+(n*S.sz k-j*S.sz k):=by rw[ya2,Nat.sub_mul]
   have hz2:(j-i)*S.sz k=j*S.sz k-i*S.sz k:=by rw[Nat.sub_mul]
   refine (W.som hlt hj hnc hb hLl (by rw[←hn];exact hone1)).mono (fun e w' he=>?_);obtain ⟨rfl,M0,zs,hzl,rfl⟩:=he;rw[←hn,←hC];have l1:(Go.splice L (i*S.sz k) C1).length=L.length:=length_splice _ _ _ (by omega);have l2:(Go.splice (Go.splice L (i*S.sz k) C1) ((i+(n-j))*S.sz k) zs).length=L.length:=by rw[length_splice _ _ _ (by omega),l1]
   generalize hM:Go.splice (Go.splice L (i*S.sz k) C1) ((i+(n-j))*S.sz k) zs=M at l2 ⊢;have hMg:∀p,p<(i+(n-j))*S.sz k→M[p]?=if p<i*S.sz k then L[p]? else L[p+(j*S.sz k-i*S.sz k)]?:=fun p hp=>by
    rw[←hM,y2 (by omega),yar (by omega),y2 (by omega)];by_cases h:p<i*S.sz k
    ·rw[yar (by omega),yaJ h]
    ·rw[yaJ (by omega),yar h,hC1g _ (by omega)];congr 1;omega
   have hheap:((w.drew.setRow b M0).setRow b M.toArray).heap[b]?=some (.cells M.toArray t (0,0)):=setRow_heap _ _ _ _ _ _ (setRow_heap w.drew _ _ _ _ _ hb);have hoth:∀q,q≠b→((w.drew.setRow b M0).setRow b M.toArray).heap[q]?=w.heap[q]?:=fun q hq=>by rw[setRow_other _ _ _ _ hq,setRow_other _ _ _ _ hq];rfl
   have hsz:((w.drew.setRow b M0).setRow b M.toArray).heap.size=w.heap.size:=by simp only[setRow_size];rfl
   refine ⟨I,⟨by omega,rfl,rfl,rfl,fun q hq hm=>hoth q (by simpa using hm),fun _ _ h=>h,fun _ _ h=>.inl h,fun q o h=>by have:=hIw q o h;omega⟩,
    some ⟨b,0,none⟩,c,by rw[hres],by omega,.inr ⟨b,_,t,rfl,hheap,by simp[l2,hLl],.inr (by simp),hbI,?_⟩⟩
   intro q hq s d hs;have hs':s<S.sz k:=by have:=(zL hs);rwa [sgk.sz]at this
   rw[hres]at hq;have hlt2:=a3d hs' hq;by_cases hqi:q<i
   ·have e:(xs.take i++xs.drop j)[q]'(by omega)=xs[q]'(by omega):=by rw[ybH (by simp;omega)];simp
    rw[e]at hs;obtain ⟨v,a,e2⟩:=hel' q (by omega) s d hs;refine ⟨v,?_,a6e sgk e2 (a3n sgk hs) (fun q o h=>⟨by simp only[World.cell?];rw[hoth q (fun e=>by subst e;exact hbI o h)],h⟩)⟩;rw[←a,ybq,hMg _ hlt2,yaJ (a3d hs' hqi)]
   ·have e:(xs.take i++xs.drop j)[q]'(by omega)=xs[q+(j-i)]'(by omega):=by
     have hl:(xs.take i).length=i:=by simp;omega
     rw[ybC (by omega)];simp only[hl,List.getElem_drop];congr 1;omega
    rw[e]at hs;obtain ⟨v,a,e2⟩:=hel' (q+(j-i)) (by omega) s d hs;refine ⟨v,?_,a6e sgk e2 (a3n sgk hs) (fun q o h=>⟨by simp only[World.cell?];rw[hoth q (fun e=>by subst e;exact hbI o h)],h⟩)⟩;have hqz:i*S.sz k≤q*S.sz k:=yaq _ (by omega);rw[←a,ybq,hMg _ hlt2,yar (by omega)];congr 1;rw[ya2,hz2];omega
theorem e5p (sgk:SgOk S) {f:Nat} {fn:Func} {code:Code} (fok:FnOk P f fn code) (hmd:S.md f=.cons) {k:κ} (W:DelOk P f (S.sz k))
 {xs r:List (El k)} {i j:Int} {ds:List (D κ El)} (hwl:WL ds [.lst k xs,.int .i64 i,.int .i64 j]) (hr:b1h xs i j=some r):Con P S f ds [] (.lst k r) []:=by
 unfold b1h at hr;rw[b9]at hr;split at hr
 ·rename_i h;simp only[yad,yae]at h;cases hr
  obtain ⟨n,rfl⟩:=Int.eq_ofNat_of_zero_le h.1.1.1;obtain ⟨m,rfl⟩:=Int.eq_ofNat_of_zero_le (Int.le_trans h.1.1.1 h.1.1.2);exact f6p sgk fok hmd W (i:=n) (j:=m) (by omega) (by omega) hwl
 ·cases hr
end
end
section
def d4v (c:Nat):Bool:=decide (c<32)||(decide (127≤c)&&decide (c≤159))||decide (65535<c)
theorem a6u {c:Nat}:d4v c=true↔c<32∨(127≤c∧c≤159)∨65535<c:=by
 unfold d4v;simp only[yba,yad,yae];omega
set_option maxHeartbeats 2000000 in
theorem b4x {l:List UInt8} (hl:l≠[]):dcd l=if ((Lib.decodeL l).1=65533∧(Lib.decodeL l).2=1)∨d4v (Lib.decodeL l).1=true then (0,0) else Lib.decodeL l:=by
 cases l with
 |nil=>exact absurd rfl hl
 |cons a r=>
  rw[Lib.decodeL_N];have ha:=a.toNat_lt;simp only[a6u];rcases r with _|⟨b,_|⟨c,_|⟨d,r⟩⟩⟩
  ·simp only[List.getD_cons_zero,List.getD_cons_succ,List.getD_nil,yaB,yaS];obtain ⟨X,hX⟩:∃X,Lib.decodeN (0+1) a.toNat (0:UInt8).toNat (0:UInt8).toNat (0:UInt8).toNat=X:=⟨_,rfl⟩
   rw[hX];unfold Lib.decodeN at hX;unfold dcd;dsimp only;split at hX
   ·subst hX
    repeat' split
    all_goals first|with_reducible rfl|(exfalso;omega)
   ·rw[yar (by omega),yar (by omega),yar (by omega)]at hX;subst hX
    repeat' split
    all_goals first|with_reducible rfl|(exfalso;omega)
  ·simp only[List.getD_cons_zero,List.getD_cons_succ,List.getD_nil,yaB,yaS];have hb:=b.toNat_lt;obtain ⟨X,hX⟩:∃X,Lib.decodeN (0+1+1) a.toNat b.toNat (0:UInt8).toNat (0:UInt8).toNat=X:=⟨_,rfl⟩
   rw[hX];unfold Lib.decodeN at hX;unfold dcd;dsimp only
   repeat' split at hX
   all_goals subst hX
   all_goals dsimp only
   all_goals repeat' split
   all_goals first|with_reducible rfl|(exfalso;omega)|(simp only[ya3,and_true];omega)
  ·simp only[List.getD_cons_zero,List.getD_cons_succ,List.getD_nil,yaB,yaS];have hb:=b.toNat_lt;have hc:=c.toNat_lt;obtain ⟨X,hX⟩:∃X,Lib.decodeN (0+1+1+1) a.toNat b.toNat c.toNat (0:UInt8).toNat=X:=⟨_,rfl⟩
   rw[hX];unfold Lib.decodeN at hX;unfold dcd;dsimp only
   repeat' split at hX
   all_goals subst hX
   all_goals dsimp only
   all_goals repeat' split
   all_goals first|with_reducible rfl|(exfalso;omega)|(simp only[ya3,and_true];omega)
  ·simp only[List.getD_cons_zero,List.getD_cons_succ,List.getD_nil,yaB,yaS];have hb:=b.toNat_lt;have hc:=c.toNat_lt;have hd:=d.toNat_lt;obtain ⟨X,hX⟩:∃X,Lib.decodeN (r.length+1+1+1+1) a.toNat b.toNat c.toNat d.toNat=X:=⟨_,rfl⟩
   rw[hX];unfold Lib.decodeN at hX;unfold dcd;dsimp only
   repeat' split at hX
   all_goals subst hX
   all_goals dsimp only
   all_goals repeat' split
   all_goals first|with_reducible rfl|(exfalso;omega)|(simp only[ya3,and_true];omega)
def okN:Nat→List UInt8→Bool
 |0,_=>true
 |n+1,l=>if l=[] then true else if d4v (Lib.decodeL l).1 then false else okN n (l.drop (Lib.decodeL l).2)
theorem a5i {l:List UInt8} (hl:l≠[]):1≤(Lib.decodeL l).2∧(Lib.decodeL l).2≤l.length:=by
 cases l with
 |nil=>exact absurd rfl hl
 |cons a r=>
  rw[Lib.decodeL_N];unfold Lib.decodeN;have:1≤(a::r).length:=by simp
  repeat' split
  all_goals simp only
  all_goals omega
theorem g57:∀(n:Nat) (l:List UInt8),d3o n l=(Lib.validGoD n l&&okN n l):=by
 intro n
 induction n with
 |zero=>intro l;rfl
 |succ n ih=>
  intro l;simp only[d3o,Lib.validGoD,okN];by_cases hl:l=[]
  ·simp[hl]
  ·simp only[hl,ybk];rw[b4x hl];by_cases h1:(Lib.decodeL l).1=65533∧(Lib.decodeL l).2=1
   ·simp[h1]
   ·by_cases h2:d4v (Lib.decodeL l).1=true
    ·simp[h2]
    ·have:=a5i hl;have hne:¬(((Lib.decodeL l).1=65533∧(Lib.decodeL l).2=1)∨d4v (Lib.decodeL l).1=true):=fun h=>h.elim h1 h2
     rw[yar hne,yar (show ¬(Lib.decodeL l).2=0 by omega),yar h1,yar h2];exact ih _
theorem e8o:∀(n m:Nat) (l:List UInt8),l.length≤n→l.length≤m→okN n l=okN m l:=by
 intro n
 induction n with
 |zero=>intro m l h1 h2;have:l=[]:=ybp.1 (by omega);subst this;cases m<;>simp[okN]
 |succ n ih=>
  intro m l h1 h2;by_cases hl:l=[]
  ·subst hl;cases m<;>simp[okN]
  ·have hp:=a5i hl;have:0<l.length:=List.length_pos_iff.2 hl;obtain ⟨m,rfl⟩:∃k,m=k+1:=⟨m-1,by omega⟩
   simp only[okN,hl,ybk];split
   ·rfl
   ·exact ih m _ (by rw[ya9];omega) (by rw[ya9];omega)
theorem d7x (xs:List (List UInt8)) (y sep:List UInt8):Lib.join (xs++[y]) sep=if xs=[] then y else Lib.join xs sep++(sep++y):=by
 cases xs with
 |nil=>simp[Lib.join_one]
 |cons x xs=>
  rw[List.cons_append,Lib.join_cons,Lib.join_cons];simp[Lib.joinTail]
def pcs (l:List UInt8) (acc:List (Nat×Nat)):List (List UInt8):=acc.map fun x=>(l.take x.2).drop x.1
def J (l:List UInt8) (acc:List (Nat×Nat)):List UInt8:=Lib.join (pcs l acc) [32]
theorem g6p (l:List UInt8):J l []=[]:=rfl
theorem d3y (l:List UInt8) (acc:List (Nat×Nat)) (a b:Nat):J l (acc++[(a,b)])=if acc=[] then (l.take b).drop a else J l acc++([32]++(l.take b).drop a):=by
 unfold J pcs;rw[List.map_append,List.map_singleton,d7x];simp only[List.map_eq_nil_iff]
theorem h33 {l:List UInt8}:∀{acc:List (Nat×Nat)},(∀x∈acc,x.1<x.2∧x.2≤l.length)→acc≠[]→J l acc≠[]:=by
 intro acc h hne;obtain ⟨x,r,rfl⟩:=List.exists_cons_of_ne_nil hne;have hx:=h x (by simp);unfold J pcs;rw[ybo,Lib.join_cons];intro e;have:=congrArg List.length e;simp only[yaM,ya9,ya5,yaS]at this;omega
theorem d5f {s:ByteArray} {l:List UInt8} (hl:s.data.toList=l) (p:Nat→Bool) (hp:∀c,p c=blk c):∀(f pos:Nat) (st:Option Nat) (acc:List (Nat×Nat)) (gap:Bool),
 s.size≤pos+f→pos≤s.size→d3o f (l.drop pos)=true→(∀a,st=some a→a<pos∧gap=false)→(st=none→gap=true∨acc=[])→(∀x∈acc,x.1<x.2∧x.2≤l.length)→
 J l (Lib.closeSpans s (Lib.spansFromP p s f pos st acc))=b8u f (l.drop pos) (match st with|some a=>J l (acc++[(a,pos)])|none=>J l acc) gap:=by
 have hsz:s.size=l.length:=by rw[Lib.size_eq,hl]
 intro f
 induction f with
 |zero=>
  intro pos st acc gap h1 h2 hv hs hn hacc;have:pos=s.size:=by omega
  subst this;simp only[Lib.spansFromP,b8u];cases st with
  |none=>rfl
  |some a=>rfl
 |succ f ih=>
  intro pos st acc gap h1 h2 hv hs hn hacc;by_cases hlt:pos<s.size
  ·have hne:l.drop pos≠[]:=by simp;omega
   have hdec:Lib.decodeL (l.drop pos)=Utf8.decode s pos:=by rw[←hl];exact Lib.decodeL_drop s pos
   have hpos:=a5i hne;rw[ya9]at hpos;have hv2:=hv;simp only[d3o,hne,ybk]at hv2;have hd:=b4x hne;split at hd
   ·rw[hd]at hv2;simp at hv2
   ·rename_i hnb;have hz:¬(dcd (l.drop pos)).2=0:=by rw[hd];omega
    rw[yar hz,List.drop_drop,hd,hdec]at hv2;have hw:wid (l.drop pos)=(Utf8.decode s pos).2:=by unfold wid;rw[hd,hdec,yar (by rw[←hdec];omega)]
    rw[hdec]at hpos;obtain ⟨k,hk⟩:∃k,(Utf8.decode s pos).2=k:=⟨_,rfl⟩
    rw[b8u,yar hne,List.drop_drop,hw,hd,hdec];simp only[Lib.spansFromP,hlt,ybB,hp];rw[hk]at hpos hv2 ⊢;have htk:∀a,a≤pos→(l.take pos).drop a++(l.drop pos).take k=(l.take (pos+k)).drop a:=by
     intro a ha;rw[List.take_add,List.drop_append_of_le_length (by simp;omega)]
    cases hb:blk (Utf8.decode s pos).1 with
    |true=>
     simp only[ybB];cases st with
     |none=>exact ih (pos+k) none acc true (by omega) (by omega) hv2 (fun a h=>by cases h) (fun _=>.inl rfl) hacc
     |some a=>
      have:=(hs a rfl).1;exact ih (pos+k) none (acc++[(a,pos)]) true (by omega) (by omega) hv2 (fun a h=>by cases h) (fun _=>.inl rfl) (fun x hx=>by
       rcases yau.1 hx with h|h
       ·exact hacc x h
       ·simp only[ybI]at h;subst h;exact ⟨this,by simp only;omega⟩)
    |false=>
     simp only[yaF,ybk];cases st with
     |some a=>
      obtain ⟨ha,hg⟩:=hs a rfl;subst hg;rw[ih (pos+k) (some a) acc false (by omega) (by omega) hv2 (fun b h=>by cases h;exact ⟨by omega,rfl⟩) (fun h=>by cases h) hacc];simp only[yaV,yaF,ybk];congr 1;rw[d3y,d3y];split
      ·exact (htk a (by omega)).symm
      ·rw[←htk a (by omega)];simp
     |none=>
      rw[ih (pos+k) (some pos) acc false (by omega) (by omega) hv2 (fun b h=>by cases h;exact ⟨by omega,rfl⟩) (fun h=>by cases h) hacc];congr 1;dsimp only;rw[d3y];have e:=htk pos (yat _);rw[@List.drop_eq_nil_of_le _ (l.take pos) _ (by simp;omega),ya7]at e;rcases hn rfl with hg|hacc0
      ·subst hg;by_cases h0:acc=[]
       ·subst h0;simp[g6p,e]
       ·have:=h33 hacc h0;have hb2:(J l acc==[])=false:=by simpa using this
        simp[h0,hb2,e]
      ·subst hacc0;simp[g6p,e]
  ·have:pos=s.size:=by omega
   subst this;have hnil:l.drop s.size=[]:=by rw[hsz];simp
   rw[Lib.spansFromP_end _ _ _ _ _ _ hlt,b8u,yaJ hnil];cases st with
   |none=>rfl
   |some a=>rfl
theorem d1a {s:ByteArray} {p:Nat→Bool} (hp:∀c,p c=blk c) (hv:vld s.data.toList=true):Lib.join ((Lib.goFieldsP p s).map (·.data.toList)) [32]=cln s.data.toList:=by
 have h:=d5f (s:=s) rfl p hp s.size 0 none [] false (by omega) (by omega) (by rw[List.drop_zero,Lib.size_eq];exact hv) (fun a h=>by cases h) (fun _=>.inr rfl) (fun x h=>by cases h);rw[List.drop_zero]at h;have hc:cln s.data.toList=b8u s.size s.data.toList [] false:=by unfold cln;rw[Lib.size_eq]
 rw[hc];refine Eq.trans ?_ h;unfold J pcs Lib.goFieldsP Lib.spansOfP;rw[List.map_map];congr 1;refine List.map_congr_left (fun x _=>?_);show (s.extract x.1 x.2).data.toList=(s.data.toList.take x.2).drop x.1
 rw[Lib.extract_data,List.drop_take]
theorem e2s (p:Nat→Bool) (s:ByteArray):∀(f pos:Nat) (st:Option Nat) (acc:List (Nat×Nat)),(Lib.spansFromP p s f pos st acc).1.length≤acc.length+f:=by
 intro f
 induction f with
 |zero=>intro pos st acc;exact yat _
 |succ f ih=>
  intro pos st acc;unfold Lib.spansFromP;split
  ·split
   ·cases st with
    |none=>exact ya6 (ih _ _ _) (by omega)
    |some a=>exact ya6 (ih _ _ _) (by simp;omega)
   ·cases st with
    |none=>exact ya6 (ih _ _ _) (by omega)
    |some a=>exact ya6 (ih _ _ _) (by omega)
  ·simp
theorem d1i (p:Nat→Bool) (s:ByteArray):(Lib.goFieldsP p s).length≤s.size+1:=by
 have:=e2s p s s.size 0 none [];unfold Lib.goFieldsP Lib.spansOfP Lib.closeSpans;rw[yaU];split
 ·rw[yaM];simp at this ⊢;omega
 ·simp at this;omega
theorem e5n:∀(n:Nat) (l out:List UInt8) (gap:Bool),(b8u n l out gap).length≤out.length+2*l.length:=by
 intro n
 induction n with
 |zero=>intro l out gap;simp[b8u]
 |succ n ih=>
  intro l out gap;rw[b8u];split
  ·omega
  ·have hw:1≤wid l:=by unfold wid;split<;>omega
   have hl:0<l.length:=List.length_pos_iff.2 (by assumption);split
   ·have:=ih (l.drop (wid l)) out true;rw[ya9]at this;omega
   ·have:=ih (l.drop (wid l)) ((if gap&&!(out==[]) then out++[32] else out)++l.take (wid l)) false;rw[ya9]at this;have h2:(if gap&&!(out==[]) then out++[32] else out).length≤out.length+1:=by split<;>simp
    simp only[yaM,ya5]at this;omega
theorem f6o (s:ByteArray):(cln s.data.toList).length≤2*s.size:=by
 have:=e5n s.data.toList.length s.data.toList [] false;rw[Lib.size_eq];simpa[cln]using this
end
end Go.Proofs.YteaknldbhmocpaaGreatDoor.Ev
namespace Go.Proofs
open Go.Shelf
def Tryz.laysValid_ren:Go.Shelf.Ren:=⟨fun|196=>231|259=>280|n=>n,fun|9=>9|4=>4|3=>3|5=>5|12=>12|119=>257|0=>0|46=>110|139=>260|138=>259|53=>166|n=>n,fun|3=>1|4=>2|n=>n⟩
theorem Tryz.laysValid:Go.Proofs.Lays.n196 Tryz.prog Tryz.laysValid_ren:={
 mixed:=by kernel_rfl
 f196:=Tryz.func231.trans (congrArg some (by kernel_rfl))
 f259:=Tryz.func280.trans (congrArg some (by kernel_rfl))
 t0:=Tryz.underlying0
 a0:=Tryz.isAgg0
 z0:=Tryz.sizeOf0
 v0:=Tryz.zeroValue0
 t3:=Tryz.underlying3
 a3:=Tryz.isAgg3
 z3:=Tryz.sizeOf3
 v3:=Tryz.zeroValue3
 t4:=Tryz.underlying4
 a4:=Tryz.isAgg4
 z4:=Tryz.sizeOf4
 v4:=Tryz.zeroValue4
 t5:=Tryz.underlying5
 a5:=Tryz.isAgg5
 z5:=Tryz.sizeOf5
 v5:=Tryz.zeroValue5
 t9:=Tryz.underlying9
 a9:=Tryz.isAgg9
 z9:=Tryz.sizeOf9
 v9:=Tryz.zeroValue9
 t12:=Tryz.underlying12
 a12:=Tryz.isAgg12
 z12:=Tryz.sizeOf12
 v12:=Tryz.zeroValue12
 t46:=Tryz.underlying110
 a46:=Tryz.isAgg110
 z46:=Tryz.sizeOf110
 v46:=Tryz.zeroValue110
 t53:=Tryz.underlying166
 a53:=Tryz.isAgg166
 z53:=Tryz.sizeOf166
 v53:=Tryz.zeroValue166
 t119:=Tryz.underlying257
 a119:=Tryz.isAgg257
 z119:=Tryz.sizeOf257
 t138:=Tryz.underlying259
 a138:=Tryz.isAgg259
 z138:=Tryz.sizeOf259
 v138:=Tryz.zeroValue259
 t139:=Tryz.underlying260
 a139:=Tryz.isAgg260
 z139:=Tryz.sizeOf260
 v139:=Tryz.zeroValue260
 g3:=by kernel_rfl
 g4:=by kernel_rfl}
def Tryz.lays156_ren:Go.Shelf.Ren:=⟨fun|156=>281|165=>302|166=>303|169=>304|240=>318|241=>319|276=>327|277=>328|n=>n,fun|31=>46|9=>9|3=>3|4=>4|0=>0|20=>20|72=>279|76=>282|70=>277|37=>226|75=>281|127=>298|164=>302|5=>5|80=>284|n=>n,fun|n=>n⟩
theorem Tryz.lays156:Go.Proofs.Lays.n156 Tryz.prog Tryz.lays156_ren:={
 mixed:=by kernel_rfl
 f156:=Tryz.func281.trans (congrArg some (by kernel_rfl))
 f165:=Tryz.func302.trans (congrArg some (by kernel_rfl))
 f166:=Tryz.func303.trans (congrArg some (by kernel_rfl))
 f169:=Tryz.func304.trans (congrArg some (by kernel_rfl))
 f240:=Tryz.func318.trans (congrArg some (by kernel_rfl))
 f241:=Tryz.func319.trans (congrArg some (by kernel_rfl))
 f276:=Tryz.func327.trans (congrArg some (by kernel_rfl))
 f277:=Tryz.func328.trans (congrArg some (by kernel_rfl))
 t0:=Tryz.underlying0
 a0:=Tryz.isAgg0
 z0:=Tryz.sizeOf0
 v0:=Tryz.zeroValue0
 t3:=Tryz.underlying3
 a3:=Tryz.isAgg3
 z3:=Tryz.sizeOf3
 v3:=Tryz.zeroValue3
 t4:=Tryz.underlying4
 a4:=Tryz.isAgg4
 z4:=Tryz.sizeOf4
 v4:=Tryz.zeroValue4
 t9:=Tryz.underlying9
 a9:=Tryz.isAgg9
 z9:=Tryz.sizeOf9
 v9:=Tryz.zeroValue9
 t20:=Tryz.underlying20
 a20:=Tryz.isAgg20
 z20:=Tryz.sizeOf20
 v20:=Tryz.zeroValue20
 t31:=Tryz.underlying46
 a31:=Tryz.isAgg46
 z31:=Tryz.sizeOf46
 v31:=Tryz.zeroValue46
 t37:=Tryz.underlying226
 a37:=Tryz.isAgg226
 z37:=Tryz.sizeOf226
 v37:=Tryz.zeroValue226
 t70:=Tryz.underlying277
 a70:=Tryz.isAgg277
 z70:=Tryz.sizeOf277
 v70:=Tryz.zeroValue277
 t72:=Tryz.underlying279
 a72:=Tryz.isAgg279
 z72:=Tryz.sizeOf279
 v72:=Tryz.zeroValue279
 t75:=Tryz.underlying281
 a75:=Tryz.isAgg281
 z75:=Tryz.sizeOf281
 v75:=Tryz.zeroValue281
 t76:=Tryz.underlying282
 a76:=Tryz.isAgg282
 z76:=Tryz.sizeOf282
 v76:=Tryz.zeroValue282
 t127:=Tryz.underlying298
 a127:=Tryz.isAgg298
 z127:=Tryz.sizeOf298
 v127:=Tryz.zeroValue298
 t164:=Tryz.underlying302
 a164:=Tryz.isAgg302
 z164:=Tryz.sizeOf302
 v164:=Tryz.zeroValue302}
theorem Tryz.Builder_Extra_156:Builder.Extra Tryz.prog Tryz.lays156_ren:={
 sizeBuilder:=by kernel_rfl
 liesBuilder:=by kernel_rfl
 t5:=Tryz.underlying5
 a5:=Tryz.isAgg5
 z5:=Tryz.sizeOf5
 v5:=Tryz.zeroValue5
 infoByte:=by kernel_rfl
 cellsByte:=by kernel_rfl
 sizeByte:=by kernel_rfl
 neB5:=by decide}
open Go.RowKit in
theorem Tryz.strings_Join (bk o c:Nat) (xs:List ByteArray) (sep:ByteArray) (w:World) (hcells:∀(j:Nat) x,xs[j]?=some x→w.cell? ⟨bk,o+j,none⟩=some (.string x)) (hbk:bk<w.heap.size) (hN:xs.length≤140737488355328) (hcap:xs.length≤c) (hlen:(Lib.join (xs.map (·.data.toList)) sep.data.toList).length≤140737488355328) :
 Calls Tryz.prog 281 #[.slice (some ⟨bk,o,none⟩) xs.length c,.string sep] w fun e w'=>e=.returned (.string ⟨(Lib.join (xs.map (·.data.toList)) sep.data.toList).toArray⟩)∧Below w.heap.size w w':=Any.strings_Join Tryz.lays156 Tryz.Builder_Extra_156 bk o c xs sep w hcells hbk hN hcap hlen
def Tryz.lays229_ren:Go.Shelf.Ren:=⟨fun|229=>282|n=>n,fun|9=>9|40=>265|31=>46|152=>285|3=>3|0=>0|4=>4|21=>21|154=>287|n=>n,fun|n=>n⟩
theorem Tryz.lays229:Go.Proofs.Lays.n229 Tryz.prog Tryz.lays229_ren:={
 mixed:=by kernel_rfl
 f229:=Tryz.func282.trans (congrArg some (by kernel_rfl))
 t0:=Tryz.underlying0
 a0:=Tryz.isAgg0
 z0:=Tryz.sizeOf0
 v0:=Tryz.zeroValue0
 t3:=Tryz.underlying3
 a3:=Tryz.isAgg3
 z3:=Tryz.sizeOf3
 v3:=Tryz.zeroValue3
 t4:=Tryz.underlying4
 a4:=Tryz.isAgg4
 z4:=Tryz.sizeOf4
 v4:=Tryz.zeroValue4
 t9:=Tryz.underlying9
 a9:=Tryz.isAgg9
 z9:=Tryz.sizeOf9
 v9:=Tryz.zeroValue9
 t21:=Tryz.underlying21
 a21:=Tryz.isAgg21
 z21:=Tryz.sizeOf21
 v21:=Tryz.zeroValue21
 t31:=Tryz.underlying46
 a31:=Tryz.isAgg46
 z31:=Tryz.sizeOf46
 v31:=Tryz.zeroValue46
 t40:=Tryz.underlying265
 a40:=Tryz.isAgg265
 z40:=Tryz.sizeOf265
 v40:=Tryz.zeroValue265
 t152:=Tryz.underlying285
 a152:=Tryz.isAgg285
 z152:=Tryz.sizeOf285
 v152:=Tryz.zeroValue285
 t154:=Tryz.underlying287
 a154:=Tryz.isAgg287
 z154:=Tryz.sizeOf287
 v154:=Tryz.zeroValue287}
open Go.RowKit Go.Lib in
theorem Tryz.strings_FieldsFunc_runes (g:Nat) (lb:Array Value) (eg:∀args w,(callFunc g args).run Tryz.prog w=.ok (.enter g args) w) (p:Nat→Bool) (s:ByteArray) (w:World) (hs:s.size≤4294967296) (hp:PredAtRunes Tryz.prog g lb p w) :
 Calls Tryz.prog 282 #[.string s,.func (.func g) #[] lb] w fun e w'=>∃A,e=.returned (.slice (some ⟨A,0,none⟩) (Lib.goFieldsP p s).length (Lib.goFieldsP p s).length)∧w.heap.size≤A∧
  w'.ownsRow w.heap.size 9 1 (.slice (some ⟨A,0,none⟩) (Lib.goFieldsP p s).length (Lib.goFieldsP p s).length) (Lib.goFieldsP p s).length ((Lib.goFieldsP p s).map Value.string)∧Below w.heap.size w w':=Any.strings_FieldsFunc_runes Tryz.lays229 g lb eg p s w hs hp (by kernel_rfl) (by kernel_rfl)
open Go.RowKit in
theorem Tryz.strings_Join_none (a:Option Addr) (c:Nat) (sep:ByteArray) (w:World) :
 Calls Tryz.prog 281 #[.slice a 0 c,.string sep] w fun e w'=>e=.returned (.string ⟨#[]⟩)∧w'=w:=Any.strings_Join_none Tryz.lays156 Tryz.Builder_Extra_156 a c sep w
end Go.Proofs
namespace Go.Proofs.YteaknldbhmocpaaGreatDoor
open Go Ev
open Go.Lib Go.RowKit
theorem e0p {X:Ending} (b:Bool) {b':Bool} (h:X=.returned (.bool b)) (e:b=b'):X=.returned (.bool b'):=e▸h
set_option maxHeartbeats 4000000 in
set_option maxRecDepth 1000000 in
theorem d3n (s:ByteArray) (w:World) (hs:s.size≤1073741824) (hT:Lib.Utf8Tabs 1 2 w) :
 Calls Tryz.prog 159 #[.string s] w fun e w'=>e=.returned (.bool (vld s.data.toList))∧Below w.heap.size w w':=by
 have cV:Calls Tryz.prog 231 #[.string s] w _:=Any.utf8_ValidString Tryz.laysValid s w (by omega) hT;have hvl:vld s.data.toList=(Lib.validD s.data.toList&&okN s.size s.data.toList):=by rw[Lib.size_eq];exact g57 _ _
 rw[hvl];clear hvl;generalize Lib.validD s.data.toList=V at cV ⊢;cases V with
 |false=>
  rw[yaV]
  go_enter Tryz.func159,Tryz.ntmps159
  go_wp2_with (go_at_call 231;refine cV.mono ?_;rintro e w' ⟨rfl,hb⟩)
  go_ret
  exact ⟨rfl,hb⟩
 |true=>
  rw[yaQ]
  go_enter Tryz.func159,Tryz.ntmps159
  go_wp2_with (go_at_call 231;refine cV.mono ?_;rintro e w' ⟨rfl,hb⟩)
  go_loopg [4] (s.size+1) (fun gk s4 wx=>∃pos:Nat,wx.heap[w'.heap.size]?=some (.stringIter s pos)∧Below w.heap.size w wx∧
   okN gk (s.data.toList.drop pos)=okN s.size s.data.toList∧s.size≤pos+gk∧pos≤s.size)
  case atStart=>
   refine ⟨0,World.iter_heap w' s 0,hb.alloc hb.size _,?_,by omega,by omega⟩;rw[List.drop_zero];exact e8o _ _ _ (by rw[←Lib.size_eq];omega) (by rw[←Lib.size_eq];omega)
  case round=>
   obtain ⟨pos,hit,hbw,hok,hfu,hps⟩:=hrel;have hdec:Lib.decodeL (s.data.toList.drop pos)=Utf8.decode s pos:=Lib.decodeL_drop s pos;by_cases hlt:pos<s.size
   ·obtain ⟨g',rfl⟩:∃g',gk=g'+1:=⟨gk-1,by omega⟩
    have hnx:∀ty,(Instr.next (.pointer (some ⟨w'.heap.size,0,none⟩)) true ty).run Tryz.prog wr=_:=fun ty=>Lib.run_next_any_at wr w'.heap.size s pos ty hit hlt
    have hne:s.data.toList.drop pos≠[]:=by rw[Ne,List.drop_eq_nil_iff,←Lib.size_eq];omega
    have hwd:=a5i hne;rw[hdec,ya9,←Lib.size_eq]at hwd;simp only[okN,hne,ybk,hdec,List.drop_drop]at hok;obtain ⟨R,hR⟩:∃R,(Utf8.decode s pos).1=R:=⟨_,rfl⟩
    obtain ⟨K,hK⟩:∃K,(Utf8.decode s pos).2=K:=⟨_,rfl⟩
    rw[hR,hK]at hnx hok;rw[hK]at hwd;have hit2:=Lib.iterAt_heap wr w'.heap.size s pos (pos+K) hit;have hbw2:=Lib.below_iterAt hbw (k:=w'.heap.size) hb.size s (pos+K);by_cases h1:R<32
    ·have hz:(R:Int)<32:=by omega
     have hb1:d4v R=true:=a6u.2 (.inl h1);rw[yaJ hb1]at hok
     go_wp2
     go_ret
     first|exact ⟨rfl,hbw2⟩|exact ⟨e0p false rfl hok,hbw2⟩
    ·have hz:¬(R:Int)<32:=by omega
     by_cases h2:127≤R
     ·have hz2:(127:Int)≤(R:Int):=by omega
      by_cases h3:R≤159
      ·have hz3:(R:Int)≤159:=by omega
       have hb1:d4v R=true:=a6u.2 (.inr (.inl ⟨h2,h3⟩));rw[yaJ hb1]at hok
       go_wp2
       go_ret
       first|exact ⟨rfl,hbw2⟩|exact ⟨e0p false rfl hok,hbw2⟩
      ·have hz3:¬(R:Int)≤159:=by omega
       by_cases h4:65535<R
       ·have hz4:(65535:Int)<(R:Int):=by omega
        have hb1:d4v R=true:=a6u.2 (.inr (.inr h4));rw[yaJ hb1]at hok
        go_wp2
        go_ret
        first|exact ⟨rfl,hbw2⟩|exact ⟨e0p false rfl hok,hbw2⟩
       ·have hz4:¬(65535:Int)<(R:Int):=by omega
        have hb1:¬d4v R=true:=fun h=>by rw[a6u]at h;omega
        rw[yar hb1]at hok
        go_wp2
        go_roundg g'
        case measure=>omega
        case rel=>exact ⟨pos+K,hit2,hbw2,hok,by omega,by omega⟩
     ·have hz2:¬(127:Int)≤(R:Int):=by omega
      have hz4:¬(65535:Int)<(R:Int):=by omega
      have hb1:¬d4v R=true:=fun h=>by rw[a6u]at h;omega
      rw[yar hb1]at hok
      go_wp2
      go_roundg g'
      case measure=>omega
      case rel=>exact ⟨pos+K,hit2,hbw2,hok,by omega,by omega⟩
   ·have:pos=s.size:=by omega
    subst this;have hnx:∀ty,(Instr.next (.pointer (some ⟨w'.heap.size,0,none⟩)) true ty).run Tryz.prog wr=_:=fun ty=>Lib.run_next_end_at wr w'.heap.size s s.size ty hit hlt
    have hnil:s.data.toList.drop s.size=[]:=by rw[Lib.size_eq];simp
    have hok2:okN s.size s.data.toList=true:=by rw[←hok,hnil];cases gk<;>simp[okN]
    go_wp2
    go_ret
    first|exact ⟨rfl,hbw⟩|exact ⟨e0p true rfl hok2.symm,hbw⟩
set_option maxRecDepth 1000000 in
theorem d0w (R:Nat) (hR:R≤1114111) (w:World):Calls Tryz.prog 283 #[.int .i32 (R:Int)] w fun e w'=>e=.returned (.bool (blk R))∧∃q,w'=w.drewN q:=by
 by_cases h1:R=32
 ·subst h1
  go_enter Tryz.func283,Tryz.ntmps283
  go_wp2
  go_ret
  exact ⟨rfl,0,rfl⟩
 ·have z1:¬(R:Int)=32:=by omega
  by_cases h2:R=160
  ·subst h2
   go_enter Tryz.func283,Tryz.ntmps283
   go_wp2
   go_ret
   exact ⟨rfl,0,rfl⟩
  ·have z2:¬(R:Int)=160:=by omega
   have hb:blk R=false:=by unfold blk;simp[h1,h2]
   go_enter Tryz.func283,Tryz.ntmps283
   go_wp2
   go_ret
   exact ⟨e0p ((R:Int)==32||(R:Int)==160) rfl (by rw[hb,yal];exact ⟨by simp;omega,by simp;omega⟩),0,rfl⟩
set_option maxHeartbeats 4000000 in
set_option maxRecDepth 1000000 in
theorem d09 (s:ByteArray) (w:World) (hs:s.size≤1073741824) (hv:vld s.data.toList=true) :
 Calls Tryz.prog 236 #[.string s] w fun e w'=>e=.returned (.string ⟨(cln s.data.toList).toArray⟩)∧Below w.heap.size w w':=by
 have eg:∀args w,(callFunc 283 args).run Tryz.prog w=.ok (.enter 283 args) w:=enters_of Tryz.func283 kr rfl;have hp:PredAtRunes Tryz.prog 283 #[] blk w:=fun W x hx hb=>by
  exact d0w x hx W
 have cF:=Tryz.strings_FieldsFunc_runes 283 #[] eg blk s w (by omega) hp;have hj:=d1a (s:=s) (p:=blk) (fun _=>rfl) hv;have hlen:(cln s.data.toList).length≤2*s.size:=f6o s;obtain ⟨Fs,hFs⟩:∃Fs,Lib.goFieldsP blk s=Fs:=⟨_,rfl⟩
 have hfl:=d1i blk s;rw[hFs]at hj cF hfl;have cJ:∀A W,Below w.heap.size w W→W.ownsRow w.heap.size 9 1 (.slice (some ⟨A,0,none⟩) Fs.length Fs.length) Fs.length (Fs.map Value.string)→
  Calls Tryz.prog 281 #[.slice (some ⟨A,0,none⟩) Fs.length Fs.length,.string ⟨#[32]⟩] W fun e w'=>e=.returned (.string ⟨(cln s.data.toList).toArray⟩)∧Below w.heap.size w w':=by
  intro A W hb hrow;by_cases h0:Fs=[]
  ·subst h0;have:=Tryz.strings_Join_none (some ⟨A,0,none⟩) 0 ⟨#[32]⟩ W;refine this.mono ?_;rintro e w' ⟨rfl,rfl⟩;rw[←hj];exact ⟨rfl,hb⟩
  ·obtain ⟨-,h|⟨g,cap,cur,hv2,hbg,hh,hn,hmx,hcs,hct⟩⟩:=hrow
   ·exact absurd (ybp.1 h.2) h0
   ·injection hv2 with e1 e2 e3;injection e1 with e1;injection e1 with e1;subst e1;have hj2:(Lib.join (Fs.map (·.data.toList)) (⟨#[32]⟩:ByteArray).data.toList)=cln s.data.toList:=hj;have:=Tryz.strings_Join A 0 Fs.length Fs ⟨#[32]⟩ W (fun j x hx=>by
     rw[yb0]at hct;have hj3:j<Fs.length:=(zL hx)
     have e4:cur.toList[j]?=some (Value.string x):=by
      rw[←List.getElem?_take_of_lt hj3,hct,yaR,hx];rfl
     rw[yav]at e4;rw[yaH];simp only[World.cell?,hh];exact e4) (yah.1 hh).1 (by omega) (yat _) (by rw[hj2];omega)
    refine this.mono ?_;rintro e w' ⟨rfl,hb2⟩;rw[hj2];exact ⟨rfl,hb.trans (hb2.mono hb.size)⟩
 clear hj hlen hFs hfl
 go_enter Tryz.func236,Tryz.ntmps236
 go_wp2_with (first|(go_at_call 282;refine cF.mono ?_;rintro e w' ⟨A,rfl,hA,hrow,hb⟩)|(go_at_call 281;refine (cJ A _ hb hrow).mono ?_;rintro e w'' ⟨rfl,hb2⟩))
 go_ret
 exact ⟨rfl,hb2⟩
end Go.Proofs.YteaknldbhmocpaaGreatDoor
namespace Go.Proofs
open Go.Shelf
def Tryz.lays189_ren:Go.Shelf.Ren:=⟨fun|189=>34|125=>74|257=>73|128=>143|129=>144|294=>134|295=>135|296=>136|297=>137|298=>138|299=>139|216=>140|300=>141|301=>142|328=>204|329=>205|330=>206|331=>207|332=>208|215=>209|343=>265|n=>n,fun|28=>28|3=>3|46=>110|0=>0|51=>164|53=>166|4=>4|183=>156|182=>155|131=>161|5=>5|9=>9|218=>208|222=>212|228=>248|229=>185|n=>n,fun|n=>n⟩
theorem Tryz.lays189:Go.Proofs.Lays.n189 Tryz.prog Tryz.lays189_ren:={
 mixed:=by kernel_rfl
 f125:=Tryz.func74.trans (congrArg some (by kernel_rfl))
 f128:=Tryz.func143.trans (congrArg some (by kernel_rfl))
 f129:=Tryz.func144.trans (congrArg some (by kernel_rfl))
 f189:=Tryz.func34.trans (congrArg some (by kernel_rfl))
 f215:=Tryz.func209.trans (congrArg some (by kernel_rfl))
 f216:=Tryz.func140.trans (congrArg some (by kernel_rfl))
 f257:=Tryz.func73.trans (congrArg some (by kernel_rfl))
 f294:=Tryz.func134.trans (congrArg some (by kernel_rfl))
 f295:=Tryz.func135.trans (congrArg some (by kernel_rfl))
 f296:=Tryz.func136.trans (congrArg some (by kernel_rfl))
 f297:=Tryz.func137.trans (congrArg some (by kernel_rfl))
 f298:=Tryz.func138.trans (congrArg some (by kernel_rfl))
 f299:=Tryz.func139.trans (congrArg some (by kernel_rfl))
 f300:=Tryz.func141.trans (congrArg some (by kernel_rfl))
 f301:=Tryz.func142.trans (congrArg some (by kernel_rfl))
 f328:=Tryz.func204.trans (congrArg some (by kernel_rfl))
 f329:=Tryz.func205.trans (congrArg some (by kernel_rfl))
 f330:=Tryz.func206.trans (congrArg some (by kernel_rfl))
 f331:=Tryz.func207.trans (congrArg some (by kernel_rfl))
 f332:=Tryz.func208.trans (congrArg some (by kernel_rfl))
 f343:=Tryz.func265.trans (congrArg some (by kernel_rfl))
 t0:=Tryz.underlying0
 a0:=Tryz.isAgg0
 z0:=Tryz.sizeOf0
 v0:=Tryz.zeroValue0
 t3:=Tryz.underlying3
 a3:=Tryz.isAgg3
 z3:=Tryz.sizeOf3
 v3:=Tryz.zeroValue3
 t4:=Tryz.underlying4
 a4:=Tryz.isAgg4
 z4:=Tryz.sizeOf4
 v4:=Tryz.zeroValue4
 t5:=Tryz.underlying5
 a5:=Tryz.isAgg5
 z5:=Tryz.sizeOf5
 v5:=Tryz.zeroValue5
 t9:=Tryz.underlying9
 a9:=Tryz.isAgg9
 z9:=Tryz.sizeOf9
 v9:=Tryz.zeroValue9
 t28:=Tryz.underlying28
 a28:=Tryz.isAgg28
 z28:=Tryz.sizeOf28
 v28:=Tryz.zeroValue28
 t46:=Tryz.underlying110
 a46:=Tryz.isAgg110
 z46:=Tryz.sizeOf110
 v46:=Tryz.zeroValue110
 t51:=Tryz.underlying164
 a51:=Tryz.isAgg164
 z51:=Tryz.sizeOf164
 v51:=Tryz.zeroValue164
 t53:=Tryz.underlying166
 a53:=Tryz.isAgg166
 z53:=Tryz.sizeOf166
 v53:=Tryz.zeroValue166
 t131:=Tryz.underlying161
 a131:=Tryz.isAgg161
 z131:=Tryz.sizeOf161
 v131:=Tryz.zeroValue161
 t182:=Tryz.underlying155
 a182:=Tryz.isAgg155
 z182:=Tryz.sizeOf155
 v182:=Tryz.zeroValue155
 t183:=Tryz.underlying156
 a183:=Tryz.isAgg156
 z183:=Tryz.sizeOf156
 v183:=Tryz.zeroValue156
 t218:=Tryz.underlying208
 a218:=Tryz.isAgg208
 z218:=Tryz.sizeOf208
 v218:=Tryz.zeroValue208
 t222:=Tryz.underlying212
 a222:=Tryz.isAgg212
 z222:=Tryz.sizeOf212
 v222:=Tryz.zeroValue212
 t228:=Tryz.underlying248
 a228:=Tryz.isAgg248
 z228:=Tryz.sizeOf248
 v228:=Tryz.zeroValue248
 t229:=Tryz.underlying185
 a229:=Tryz.isAgg185
 z229:=Tryz.sizeOf185
 v229:=Tryz.zeroValue185}
def Tryz.laysNm220_ren:Go.Shelf.Ren:=⟨fun|20=>35|n=>n,fun|22=>28|3=>3|4=>4|0=>0|n=>n,fun|n=>n⟩
theorem Tryz.laysNm220:Go.Proofs.Lays2.n20 Tryz.prog Tryz.laysNm220_ren:={
 mixed:=by kernel_rfl
 f20:=Tryz.func35.trans (congrArg some (by kernel_rfl))
 t0:=Tryz.underlying0
 a0:=Tryz.isAgg0
 z0:=Tryz.sizeOf0
 v0:=Tryz.zeroValue0
 t3:=Tryz.underlying3
 a3:=Tryz.isAgg3
 z3:=Tryz.sizeOf3
 v3:=Tryz.zeroValue3
 t4:=Tryz.underlying4
 a4:=Tryz.isAgg4
 z4:=Tryz.sizeOf4
 v4:=Tryz.zeroValue4
 t22:=Tryz.underlying28
 a22:=Tryz.isAgg28
 z22:=Tryz.sizeOf28
 v22:=Tryz.zeroValue28
 i3:=by kernel_rfl}
end Go.Proofs
namespace Go.Proofs.YteaknldbhmocpaaGreatDoor
open Go Ev
section
open Go.Sort
set_option maxRecDepth 100000
theorem c25 {w:World} {I J:Nat→Nat→Prop} {xs:List Int} {blk:Nat} {vals:Array Value} {t:TypeId} (hb:w.heap[blk]?=some (.cells vals t (0,0)))
 (hc:∀i (hi:i<xs.length) j d,(sg.enc Kd.ki64 xs[i])[j]?=some d→∃v,vals[i*sg.sz Kd.ki64+j]?=some v∧DR sg w I J v d):∀i (hi:i<xs.length),vals[i]?=some (.int .i64 xs[i]):=by
 intro i hi;obtain ⟨v,h1,h2⟩:=hc i hi 0 (.int .i64 xs[i]) rfl;rw[h2.int_inv]at h1;have h1:vals[i*1+0]?=_:=h1;rw[yb0,ybe]at h1;exact h1
theorem c23 {w:World} {xs:List Int} {blk:Nat} {vals:Array Value} {t:TypeId} (hb:w.heap[blk]?=some (.cells vals t (0,0))) (hc:∀i (hi:i<xs.length),vals[i]?=some (.int .i64 xs[i])) :
 Holds (Value.int .i64) w blk 0 xs.toArray:=by
 intro j hj;have hj:j<xs.length:=by simpa using hj
 refine ⟨?_,?_⟩
 ·simp only[World.cell?,hb,yaH,hc j hj];simp[hj]
 ·simp[World.frozen?,hb]
theorem e0q {w:World} {I J:Nat→Nat→Prop} {ys:List Int} {blk q:Nat} {vals:Array Value} {t:TypeId} {os:Array Obj} (hp:Pre sg w I J [blk]) (hb:w.heap[blk]?=some (.cells vals t (0,0))) (hy:ys.length≤vals.size) :
 GrowM [blk] w (grow (putRow (Value.int .i64) (Sort.ahead w q) blk 0 ys.toArray) os) I I∧
 ∃vals',(grow (putRow (Value.int .i64) (Sort.ahead w q) blk 0 ys.toArray) os).heap[blk]?=some (.cells vals' t (0,0))∧vals'.size=vals.size∧∀i (hi:i<ys.length),vals'[i]?=some (.int .i64 ys[i]):=by
 have hlt:blk<w.heap.size:=(yah.1 hb).1;have hh:(grow (putRow (Value.int .i64) (Sort.ahead w q) blk 0 ys.toArray) os).heap=w.heap.modify blk (onCells (putCells (Value.int .i64) 0 ys.toArray))++os:=rfl;have hsz:(w.heap.modify blk (onCells (putCells (Value.int .i64) 0 ys.toArray))).size=w.heap.size:=by simp
 have hget:∀b,b<w.heap.size→(grow (putRow (Value.int .i64) (Sort.ahead w q) blk 0 ys.toArray) os).heap[b]?=if blk=b then (w.heap[b]?).map (onCells (putCells (Value.int .i64) 0 ys.toArray)) else w.heap[b]?:=by
  intro b hb;rw[hh,ybw (by rw[hsz];exact hb),Array.getElem?_modify]
 refine ⟨⟨?_,rfl,rfl,rfl,fun b h1 h2=>?_,fun _ _ h=>h,fun _ _ h=>.inl h,fun b o h=>?_⟩,putCells (Value.int .i64) 0 ys.toArray vals,?_,?_,?_⟩
 ·rw[hh,Array.size_append,hsz];omega
 ·rw[hget b h1,yar (fun e=>h2 (by simp[e]))]
 ·have:=hp.ib b o h;rw[hh,Array.size_append,hsz];omega
 ·rw[hget blk hlt,yaJ rfl,hb];rfl
 ·simp[putCells]
 ·intro i hi;unfold putCells;rw[Array.getElem?_mapIdx,yan (by omega)];simp[hi]
theorem c0m {mb:List Nat} {w:World} {I:Nat→Nat→Prop} (h:∀b o,I b o→b<w.heap.size):GrowM mb w w I I:=⟨yat _,rfl,rfl,rfl,fun _ _ _=>rfl,fun _ _ h=>h,fun _ _ h=>.inl h,h⟩
theorem c7c {w:World} {I J:Nat→Nat→Prop} {vs:Array Value} (h:b6j sg w I J vs []):vs = #[]:=by
 have h1:vs.size=0:=h.1;exact Array.eq_empty_of_size_eq_zero h1
theorem h2x:fnB Tryz.prog 34 Tryz.f34 []=true:=kr
theorem d5z:∀ds a r,d35.dec ds=some a→f2r a=some r→Con Tryz.prog sg 34 ds [] (f4a.enc r) []:=by
 intro ds a r hd hf;obtain ⟨code,fok,-,-⟩:=u9 Tryz.func34 h2x;have hac:j9 d35:=j9.cons (f8.lst _) j9.nil;have hds:=hac ds a hd;have hmd:sg.md 34=.inpl:=kr;unfold Con;rw[hmd];obtain ⟨zs,u⟩:=a;have hds:WL ds [.lst .ki64 zs]:=hds;have hf:(bif decide (zs.length≤LIM) then some (zs.mergeSort fun x y=>decide (x≤y)) else none)=some r:=hf;intro _ k xs ds0 he xs' hr w I J mb v0 vs hp ho hargs;subst he;have hr:(D.lst Kd.ki64 r:DD)=D.lst k xs':=hr;cases hr
 have hw0:=hds.2 0 _ _ rfl rfl;cases hw0 with
 |leaf _ _ hw0=>
 cases hw0
 have hargs:=WL.args (cs':=[]) ⟨by simpa using hds.1,fun q d d' h1 h2=>by simp at h2⟩ hargs;have:=c7c hargs;subst this;cases hlim:decide (zs.length≤LIM) with
 |false=>rw[hlim]at hf;cases hf
 |true=>
  rw[hlim]at hf;have hl:=yaO hlim;unfold LIM at hl;have hf:some (zs.mergeSort fun x y=>decide (x≤y))=some r:=hf;cases hf
  have hlen:=List.length_mergeSort (le:=fun x y:Int=>decide (x≤y)) zs;unfold a1f;rw[show (#[v0]++(#[]:Array Value)) = #[v0] from rfl,MuLone.run_callFunc_enter fok.at_ fok.name fok.body _ w];simp only;obtain ⟨base,cap,rfl,hcap,ho⟩:=ho;rcases ho with ⟨rfl,rfl⟩|⟨blk,vals,t,rfl,rfl,hb,hv,hc⟩
  ·have hz:zs=[]:=ybp.1 (by omega);subst hz;have h:=Any.slices_Sort_int_none Tryz.lays189 base 0 w;refine h.mono (fun e w' he=>?_);obtain ⟨rfl,rfl⟩:=he;exact ⟨rfl,hlen,I,c0m hp.ib,base,0,by rw[List.mergeSort_nil],by simp,.inl ⟨rfl,rfl⟩⟩
  ·have hc2:=c25 hb hc;have hv:vals.size=cap*1:=hv;have h:=Any.slices_Sort_int Tryz.lays189 blk 0 cap zs w (c23 hb hc2) (yah.1 hb).1 (by omega);refine h.mono (fun e w' he=>?_);obtain ⟨rfl,n,os,rfl⟩:=he;obtain ⟨g,vals',h1,h2,h3⟩:=e0q (q:=n) (os:=os) (ys:=zs.mergeSort fun x y=>decide (x≤y)) hp hb (by omega);refine ⟨rfl,hlen,I,g,some ⟨blk,0,none⟩,cap,by rw[hlen],by omega,.inr ⟨blk,vals',t,rfl,rfl,h1,by rw[h2];exact hv,?_⟩⟩;intro i hi j d hd;cases j with
   |zero=>
    have hd:some (D.int .i64 (zs.mergeSort fun x y=>decide (x≤y))[i]:DD)=some d:=hd;cases hd
    refine ⟨.int .i64 (zs.mergeSort fun x y=>decide (x≤y))[i],?_,.int _ _⟩;show vals'[i*1+0]?=_
    rw[yb0,ybe];exact h3 i hi
   |succ j=>
    have hd:(none:Option DD)=some d:=hd;cases hd
theorem h2y:fnB Tryz.prog 35 Tryz.f35 [4,9]=true:=kr
theorem c38:∀ds a r,d34.dec ds=some a→f2q a=some r→Con Tryz.prog sg 35 ds [] (f36.enc r) []:=by
 intro ds a r hd hf;obtain ⟨code,fok,-,-⟩:=u9 Tryz.func35 h2y;have hac:j9 d34:=j9.cons (f8.lst _) j9.nil;have hds:=hac ds a hd;have hmd:sg.md 35=.cons:=kr;unfold Con;rw[hmd];obtain ⟨zs,u⟩:=a;have hds:WL ds [.lst .ki64 zs]:=hds;have hf:(bif decide (zs.length≤LIM) then some (Go.Lib.compact zs) else none)=some r:=hf;intro _ k xs ds0 he k' xs' hr w I J mb v0 vs hp ho hargs;subst he;have hr:(D.lst Kd.ki64 r:DD)=D.lst k' xs':=hr;cases hr
 have hw0:=hds.2 0 _ _ rfl rfl;cases hw0 with
 |leaf _ _ hw0=>
 cases hw0
 have hargs:=WL.args (cs':=[]) ⟨by simpa using hds.1,fun q d d' h1 h2=>by simp at h2⟩ hargs;have:=c7c hargs;subst this;cases hlim:decide (zs.length≤LIM) with
 |false=>rw[hlim]at hf;cases hf
 |true=>
  rw[hlim]at hf;have hl:=yaO hlim;unfold LIM at hl;have hf:some (Go.Lib.compact zs)=some r:=hf;cases hf
  have hlen:=Go.Lib.compact_length_le zs;unfold a1f;rw[show (#[v0]++(#[]:Array Value)) = #[v0] from rfl,MuLone.run_callFunc_enter fok.at_ fok.name fok.body _ w];simp only;obtain ⟨base,cap,rfl,hcap,ho⟩:=ho;rcases ho with ⟨rfl,rfl⟩|⟨blk,vals,t,rfl,rfl,hb,hv,hc⟩
  ·have hz:zs=[]:=ybp.1 (by omega);subst hz;have h:=Any.slices_Compact_int_empty Tryz.laysNm220 base 0 w;refine h.mono (fun e w' he=>?_);obtain ⟨rfl,rfl⟩:=he;exact ⟨I,c0m hp.ib,base,0,rfl,by simp[Go.Lib.compact,Go.Lib.compactUpTo],.inl rfl⟩
  ·have hc2:=c25 hb hc;have hv:vals.size=cap*1:=hv;have h:=Any.slices_Compact_int Tryz.laysNm220 blk 0 cap zs w (c23 hb hc2) (by omega) hcap;refine h.mono (fun e w' he=>?_);obtain ⟨rfl,n,rfl⟩:=he;have e0:∀W:World,W=grow W #[]:=fun W=>by unfold grow;simp
   rw[e0 (putRow _ _ _ _ _)];obtain ⟨g,vals',h1,h2,h3⟩:=e0q (q:=n) (os:=#[]) (ys:=Go.Lib.compact zs++List.replicate (zs.length-(Go.Lib.compact zs).length) 0) hp hb (by simp;omega);refine ⟨I,g,some ⟨blk,0,none⟩,cap,rfl,by omega,.inr ⟨blk,vals',t,rfl,h1,by rw[h2];exact hv,.inr (by simp),fun o hI=>?_,?_⟩⟩
   ·exact absurd (by simp) (hp.jb blk o (hp.ij blk o hI)).2
   ·intro i hi j d hd;cases j with
    |zero=>
     have hd:some (D.int .i64 (Go.Lib.compact zs)[i]:DD)=some d:=hd;cases hd
     refine ⟨.int .i64 (Go.Lib.compact zs)[i],?_,.int _ _⟩;show vals'[i*1+0]?=_
     rw[yb0,ybe];have:=h3 i (by simp;omega);rw[ybH hi]at this;exact this
    |succ j=>
     have hd:(none:Option DD)=some d:=hd;cases hd
end
section
theorem a8m:∃i0 z,Tryz.prog.info? 61=some i0∧i0.zero=some z∧z.cells.size=10∧i0.size=10∧i0.bytes≤128:=by
 have h:(match Tryz.prog.info? 61 with|some i=>(match i.zero with|some z=>Nat.beq z.cells.size 10&&Nat.beq i.size 10&&Nat.ble i.bytes 128|none=>false)|none=>false)=true:=kr;split at h
 ·rename_i i hi;split at h
  ·rename_i z hz;simp only[yad]at h;exact ⟨i,z,hi,hz,ybn h.1.1,ybn h.1.2,yaW h.2⟩
  ·cases h
 ·cases h
set_option maxHeartbeats 4000000 in
set_option maxRecDepth 100000 in
theorem b4a {w:World} {b n c i vb vo vc:Nat} {L vs:List Value} {t:TypeId} (hi:i<n) (hroom:n+1≤c) (hlim:n+1≤1073741824) (hvb:vb≠b)
 (hb:w.heap[b]?=some (.cells L.toArray t (0,0))) (hL:L.length=c*10) (hvl:vs.length=10)
 (hvs:∀j v,vs[j]?=some v→w.cell? ⟨vb,vo+j,none⟩=some v) (h1:∀v∈(L.drop (i*10)).take ((n-i)*10),v.oneCell'=true) (h2:∀v∈vs,v.oneCell'=true) :
 Calls Tryz.prog 121 #[.slice (some ⟨b,0,none⟩) n c,.int .i64 i,.slice (some ⟨vb,vo,none⟩) 1 vc] w fun e w'=>
  e=.returned (.slice (some ⟨b,0,none⟩) (n+1) c)∧w'=(w.drew.setRow b (Go.splice L ((i+1)*10) ((L.drop (i*10)).take ((n-i)*10))).toArray).setRow b (Go.splice (Go.splice L ((i+1)*10) ((L.drop (i*10)).take ((n-i)*10))) (i*10) vs).toArray:=by
 obtain ⟨i0,z0,hi0,hz0,hzs,hsz,hby⟩:=a8m;have hz2:¬((i:Int)=(n:Int)):=by omega
 have hva:∃va ta fa,w.heap[vb]?=some (.cells va ta fa)∧0<va.size:=by
  have h:=hvs 0 _ (yab (by omega));unfold World.cell? at h;split at h
  ·rename_i c0 t0 f0 hc0;exact ⟨c0,t0,f0,hc0,by have:=(yah.1 h).1;omega⟩
  ·cases h
 obtain ⟨va,ta,fa,hva,hva0⟩:=hva;have hov:∀lb cb,(callFunc 188 #[.slice (some ⟨vb,vo,none⟩) 1 vc,.slice (some ⟨b,(i+1)*10,none⟩) lb cb]).run Tryz.prog w=.ok (.value (.bool false)) w:=fun lb cb=>by
  rw[run_callFunc_extern Tryz.func188 kr kr kr (e:=Extern.SlicesOverlaps.overlaps #[22,22] #[4]) kr,
   a3p Tryz.underlying22 hi0 (a:=⟨vb,vo,none⟩) (b:=⟨b,(i+1)*10,none⟩) hvb hva hva0 hb (by simp only[ybA];omega)]
  rfl
 have hLn:(n+1)*10≤L.length:=by rw[hL];exact yaq _ hroom
 obtain ⟨C1,hC1⟩:∃C1,C1=(L.drop (i*10)).take ((n-i)*10):=⟨_,rfl⟩
 have hC1l:C1.length=(n-i)*10:=by rw[hC1];simp;omega
 obtain ⟨M1,hM1⟩:∃M1,M1=Go.splice L ((i+1)*10) C1:=⟨_,rfl⟩
 have hM1l:M1.length=L.length:=by rw[hM1];exact length_splice _ _ _ (by omega)
 rw[←hC1,←hM1];have hcp1:∀ty dc sc,(Builtin.copy_ #[22,22] ty #[.slice (some ⟨b,(i+1)*10,none⟩) (n-i) dc,.slice (some ⟨b,i*10,none⟩) (n+1-i) sc]).run Tryz.prog w.drew=.ok (goInt ((n-i:Nat):Int)) (w.drew.setRow b M1.toArray):=fun ty dc sc=>by
  have hmin:Nat.min (n+1-i) (n-i)=n-i:=by show min _ _=_;omega
  have:=a0e (P:=Tryz.prog) (w:=w.drew) (sT:=22) (ty:=ty) (dCap:=dc) (sCap:=sc) (dLen:=n-i) (sLen:=n+1-i) (o:=(i+1)*10) (a:=⟨b,i*10,none⟩) Tryz.underlying22 hi0 hsz hb (cs:=C1) (by rw[hmin];exact hC1l)
   (fun j v hj=>by
    rw[Addr.add_lit];show w.cell? _=_
    simp only[World.cell?,hb];rw[hC1,yaz]at hj;split at hj
    ·simpa using hj
    ·cases hj) (by omega) (by rw[hC1];exact h1)
  rw[hmin,←hM1]at this;exact this
 have hcp2:∀(W:World),W=(w.drew.setRow b M1.toArray)→∀ty dc,(Builtin.copy_ #[22,22] ty #[.slice (some ⟨b,i*10,none⟩) (n+1-i) dc,.slice (some ⟨vb,vo,none⟩) 1 vc]).run Tryz.prog W=.ok (goInt 1) (W.setRow b (Go.splice M1 (i*10) vs).toArray):=fun W hW ty dc=>by
  have hmin:Nat.min 1 (n+1-i)=1:=by show min _ _=_;omega
  have:=a0e (P:=Tryz.prog) (w:=W) (sT:=22) (ty:=ty) (dCap:=dc) (sCap:=vc) (dLen:=n+1-i) (sLen:=1) (o:=i*10) (a:=⟨vb,vo,none⟩) Tryz.underlying22 hi0 hsz (g:=b) (t:=t) (L:=M1) (by rw[hW];exact setRow_heap _ _ _ _ _ _ hb) (cs:=vs) (by rw[hmin];omega)
   (fun j v hj=>by
    rw[Addr.add_lit,hW,cell_setRow_other _ _ _ _ hvb];exact hvs j v hj) (by omega) h2
  rw[hmin]at this;exact this
 have hw1:IntKind.i64.wrap ((i:Int)+1)=(i:Int)+1:=by rw[IntKind.wrap_i64];omega
 have hb1:(0:Int)≤(i:Int)+1:=by omega
 have hin:i≤n:=by omega
 have htn:((i:Int)+1).toNat=i+1:=by omega
 have hb2:¬(c=i+1):=by omega
 have hb3:(i:Int)≤(n:Int)+1:=by omega
 have hb4:¬(c=i):=by omega
 have mixed:Tryz.prog.follows .mixedOrders=true:=kr;clear hC1 hM1 hC1l hM1l h1 h2 hvs hL
 go_enter Tryz.func121,Tryz.ntmps121
 go_wp2_with (simp only[hov])
 go_region_law_o (refine a3b rfl _ _ 22 22 rfl _ _ (by simp[Act.eval,Act.put]) (by simp[Act.eval,Act.put]) (hcp1 _ _ _) ?_)
 go_wp2_with (at_builtin;refine b3w rfl _ _ 22 22 rfl _ _ rfl rfl (hcp2 _ rfl _ _) ?_)
 go_ret
 exact ⟨rfl,rfl⟩
theorem b4m {i0:TypeInfo} {k c:Nat} (h:c<k) (hk:k≤1073741824) (hby:i0.bytes≤128):Builtin.nextslicecap k c*i0.bytes≤281474976710656:=
 growslice_fits h (ya6 (ybT hk hby) (by decide))
set_option maxHeartbeats 4000000 in
set_option maxRecDepth 100000 in
theorem b7r {w:World} {b n c vb vo vc:Nat} {L vs:List Value} {t:TypeId} (hroom:n+1≤c) (hlim:n+1≤1073741824)
 (hb:w.heap[b]?=some (.cells L.toArray t (0,0))) (hL:L.length=c*10) (hvl:vs.length=10)
 (hvs:∀j v,vs[j]?=some v→w.cell? ⟨vb,vo+j,none⟩=some v) (h2:∀v∈vs,v.oneCell'=true) :
 Calls Tryz.prog 121 #[.slice (some ⟨b,0,none⟩) n c,.int .i64 n,.slice (some ⟨vb,vo,none⟩) 1 vc] w fun e w'=>
  e=.returned (.slice (some ⟨b,0,none⟩) (n+1) c)∧w'=w.setRow b (Go.splice L (n*10) vs).toArray:=by
 obtain ⟨i0,z0,hi0,hz0,hzs,hsz,hby⟩:=a8m;have hLn:(n+1)*10≤L.length:=by rw[hL];exact yaq _ hroom
 have hf:=run_firstCells_some (P:=Tryz.prog) w i0.size 1 ⟨vb,vo,none⟩ 1 vc vs (by omega) (fun j v hj=>by rw[Addr.add_lit];exact hvs j v hj);have hap:∀ty,(Builtin.append_ #[22,22] ty #[.slice (some ⟨b,0,none⟩) n c,.slice (some ⟨vb,vo,none⟩) 1 vc]).run Tryz.prog w=.ok (.slice (some ⟨b,0,none⟩) (n+1) c) (w.setRow b (Go.splice L (n*10) vs).toArray):=fun ty=>by
  have:=a1s (P:=Tryz.prog) (w:=w) (ty:=ty) (ts:=#[22,22]) rfl rfl Tryz.underlying22 Tryz.underlying22 hi0 hf hroom hb (by simp only[ybA];rw[hsz];omega) h2;rw[hsz]at this;simpa[Go.splice]using this
 go_enter Tryz.func121,Tryz.ntmps121
 go_wp2_with (at_builtin;refine a0f rfl _ _ _ _ rfl _ _ rfl rfl (hap _) ?_)
 all_goals (go_ret;exact ⟨rfl,rfl⟩)
set_option maxHeartbeats 4000000 in
set_option maxRecDepth 100000 in
theorem c0s {w:World} {base:Option Addr} {n c vb vo vc:Nat} {olds vs:List Value} (hnc:n≤c) (hroom:c<n+1) (hlim:n+1≤1073741824) (hvl:vs.length=10)
 (hnil:base=none→n=0) (hol:olds.length=n*10) (hos:∀a,base=some a→∀j v,olds[j]?=some v→w.cell? (a.add j)=some v)
 (hvs:∀j v,vs[j]?=some v→w.cell? ⟨vb,vo+j,none⟩=some v) :
 Calls Tryz.prog 121 #[.slice base n c,.int .i64 n,.slice (some ⟨vb,vo,none⟩) 1 vc] w fun e w'=>
  ∃cap zs,e=.returned (.slice (some ⟨w.heap.size,0,none⟩) (n+1) cap)∧w'=w.drew.alloc (.cells (olds++(vs++zs)).toArray 61)∧n+1≤cap∧zs.length=(cap-(n+1))*10:=by
 obtain ⟨i0,z0,hi0,hz0,hzs,hsz,hby⟩:=a8m;have hf:=run_firstCells_some (P:=Tryz.prog) w.drew i0.size 1 ⟨vb,vo,none⟩ 1 vc vs (by omega) (fun j v hj=>by rw[Addr.add_lit];exact hvs j v hj);have hold:(Builtin.firstCells i0.size n (.slice base n c)).run Tryz.prog w.drew=.ok olds.toArray w.drew:=by
  cases base with
  |none=>
   have h0:=hnil rfl;subst h0;rw[ybp.1 (by omega:olds.length=0)];exact run_firstCells_none w.drew _ 0 0 c
  |some a=>exact run_firstCells_some w.drew _ n a n c olds (by rw[hsz];omega) (fun j v hj=>hos a rfl j v hj)
 have hap:∀ty,(Builtin.append_ #[22,22] ty #[.slice base n c,.slice (some ⟨vb,vo,none⟩) 1 vc]).run Tryz.prog w=_:=fun ty=>
  a1t (P:=Tryz.prog) (w:=w) (ty:=ty) (ts:=#[22,22]) rfl rfl Tryz.underlying22 Tryz.underlying22 hi0 hz0 hf hold hroom (by omega) (b4m hroom hlim hby)
 have hge:=a1b w (n+1) c 61;obtain ⟨G,hG⟩:∃G,G=grownCap w (n+1) c 61:=⟨_,rfl⟩
 obtain ⟨zs,hzs'⟩:∃zs,zs=(Builtin.zeroCells z0.cells (G-(n+1))).toList:=⟨_,rfl⟩
 rw[←hG]at hap hge;rw[←hzs']at hap;have hzl:zs.length=(G-(n+1))*10:=by rw[hzs',ya4,size_zeroCells,hzs]
 clear hG hzs'
 go_enter Tryz.func121,Tryz.ntmps121
 cases base with
 |none=>
  have h0:=hnil rfl;subst h0
  go_wp2_with (at_builtin;refine a0f rfl _ _ _ _ rfl _ _ rfl rfl (hap _) ?_)
  all_goals (go_ret;first|exact ⟨_,_,rfl,rfl,hge,hzl⟩|exact ⟨_,rfl,_,rfl,hge,hzl⟩)
 |some a=>
  obtain ⟨ab,ao,asp⟩:=a
  go_wp2_with (at_builtin;refine a0f rfl _ _ _ _ rfl _ _ rfl rfl (hap _) ?_)
  all_goals (go_ret;first|exact ⟨_,_,rfl,rfl,hge,hzl⟩|exact ⟨_,rfl,_,rfl,hge,hzl⟩)
set_option maxHeartbeats 4000000 in
set_option maxRecDepth 100000 in
theorem b7q {w:World} {b n c i vb vo vc:Nat} {L vs:List Value} {t:TypeId} (hi:i<n) (hnc:n≤c) (hroom:c<n+1) (hlim:n+1≤1073741824) (hvb:vb≠b)
 (hb:w.heap[b]?=some (.cells L.toArray t (0,0))) (hL:L.length=c*10) (hvl:vs.length=10)
 (hvs:∀j v,vs[j]?=some v→w.cell? ⟨vb,vo+j,none⟩=some v) (h1:∀v∈(L.drop (i*10)).take ((n-i)*10),v.oneCell'=true) (h2:∀v∈vs,v.oneCell'=true) :
 Calls Tryz.prog 121 #[.slice (some ⟨b,0,none⟩) n c,.int .i64 i,.slice (some ⟨vb,vo,none⟩) 1 vc] w fun e w'=>
  ∃cap row,e=.returned (.slice (some ⟨w.heap.size,0,none⟩) (n+1) cap)∧n+1≤cap∧row.length=cap*10∧row.take (i*10)=L.take (i*10)∧
   w'.heap=(w.heap.push (.cells (Go.splice (Go.splice row (i*10) vs) ((i+1)*10) ((L.drop (i*10)).take ((n-i)*10))).toArray 61))∧w'.os=w.os∧w'.output=w.output∧w'.tape=w.tape:=by
 obtain ⟨i0,z0,hi0,hz0,hzs,hsz,hby⟩:=a8m;have hz2:¬((i:Int)=(n:Int)):=by omega
 have hz3:(c:Int)<(n:Int)+1:=by omega
 have hLn:n*10≤L.length:=by rw[hL];exact yaq _ hnc
 have hbw:b<w.heap.size:=(yah.1 hb).1;have hvw:vb<w.heap.size:=by
  have h:=hvs 0 _ (yab (by omega));unfold World.cell? at h;split at h
  ·rename_i c0 t0 f0 hc0;exact (yah.1 hc0).1
  ·cases h
 have hkk:(n:Int)+1-(i:Int)=((n+1-i:Nat):Int):=by omega
 have hik:i+(n+1-i)=n+1:=by omega
 have hTl:(L.take (i*10)).length=i*10:=by simp;omega
 have hold:(Builtin.firstCells i0.size i (.slice (some ⟨b,0,none⟩) i c)).run Tryz.prog w.drew=.ok (L.take (i*10)).toArray w.drew:=by
  refine run_firstCells_some w.drew _ i ⟨b,0,none⟩ i c (L.take (i*10)) (by rw[hsz];exact hTl) (fun j v hj=>?_);rw[Addr.add_lit,yaH];show w.cell? _=_
  simp only[World.cell?,hb];rw[yaz]at hj;split at hj
  ·simpa using hj
  ·cases hj
 have hrz:∀ty,(Builtin.append_ #[22,3] ty #[.slice (some ⟨b,0,none⟩) i c,.int .i64 ((n:Int)+1-(i:Int))]).run Tryz.prog w =
  .ok (.slice (some ⟨w.heap.size,0,none⟩) (n+1) (grownCap w (n+1) c 61)) (w.drew.alloc (.cells ((L.take (i*10)).toArray++Builtin.zeroCells z0.cells (n+1-i)++Builtin.zeroCells z0.cells (grownCap w (n+1) c 61-(n+1))) 61)):=fun ty=>by
  have h:=Lib.run_append_grow_zeros w 22 3 ty 61 i0 _ .i64 .i64 Tryz.underlying22 Tryz.underlying3 hi0 hz0 (some ⟨b,0,none⟩) i c _ hold (n+1-i) (by omega) (by omega) (by omega) (by omega)
   (ya6 (ybT (show n+1-i≤1073741824 by omega) hby) (by decide)) (by rw[hik];exact b4m hroom hlim hby)
  rw[hik]at h;rw[hkk];exact h
 have hge:=a1b w (n+1) c 61;obtain ⟨G,hG⟩:∃G,G=grownCap w (n+1) c 61:=⟨_,rfl⟩
 rw[←hG]at hrz hge;have hG63:G≤9223372036854775807:=by
  have:=grownCap_le_maxLen w (n+1) c 61 (by unfold maxLen;omega);rw[←hG]at this;unfold maxLen at this;omega
 obtain ⟨R,hR⟩:∃R:List Value,R=L.take (i*10)++((Builtin.zeroCells z0.cells (n+1-i)).toList++(Builtin.zeroCells z0.cells (G-(n+1))).toList):=⟨_,rfl⟩
 have hRl:R.length=G*10:=by
  rw[hR];simp only[yaM,ya4,size_zeroCells,hzs,hTl];rw[←ya2,←ya2];congr 1;omega
 have hRt:R.take (i*10)=L.take (i*10):=by rw[hR,List.take_append_of_le_length (by omega),ybU (by omega)]
 have hRe:(L.take (i*10)).toArray++Builtin.zeroCells z0.cells (n+1-i)++Builtin.zeroCells z0.cells (G-(n+1))=R.toArray:=by
  rw[hR];apply Array.ext';simp
 rw[hRe]at hrz;obtain ⟨C1,hC1⟩:∃C1,C1=(L.drop (i*10)).take ((n-i)*10):=⟨_,rfl⟩
 have hC1l:C1.length=(n-i)*10:=by rw[hC1];simp;omega
 have hGn:(n+1)*10≤R.length:=by rw[hRl];exact yaq _ hge
 obtain ⟨M1,hM1⟩:∃M1,M1=Go.splice R (i*10) vs:=⟨_,rfl⟩
 have hM1l:M1.length=R.length:=by rw[hM1];exact length_splice _ _ _ (by omega)
 rw[←hC1];obtain ⟨gb,hgb⟩:∃gb,gb=w.heap.size:=⟨_,rfl⟩
 have hnew:∀W:World,W.heap=w.heap.push (.cells R.toArray 61)→W.heap[gb]?=some (.cells R.toArray 61 (0,0)):=fun W hW=>by rw[hW,hgb];simp
 have hpast:∀W:World,W.heap=w.heap.push (.cells R.toArray 61)→∀k,k<w.heap.size→W.heap[k]?=w.heap[k]?:=fun W hW k hk=>by rw[hW,ybz hk];simp[hk]
 have hcpA:∀(W:World),W.heap=w.heap.push (.cells R.toArray 61)→∀ty dc,(Builtin.copy_ #[22,22] ty #[.slice (some ⟨gb,i*10,none⟩) (n+1-i) dc,.slice (some ⟨vb,vo,none⟩) 1 vc]).run Tryz.prog W=.ok (goInt 1) (W.setRow gb M1.toArray):=fun W hW ty dc=>by
  have hmin:Nat.min 1 (n+1-i)=1:=by show min _ _=_;omega
  have:=a0e (P:=Tryz.prog) (w:=W) (sT:=22) (ty:=ty) (dCap:=dc) (sCap:=vc) (dLen:=n+1-i) (sLen:=1) (o:=i*10) (a:=⟨vb,vo,none⟩) Tryz.underlying22 hi0 hsz (g:=gb) (t:=61) (L:=R) (hnew W hW) (cs:=vs) (by rw[hmin];omega)
   (fun j v hj=>by
    rw[Addr.add_lit];unfold World.cell?;rw[show W.heap[(⟨vb,vo+j,none⟩:Addr).block]?=w.heap[vb]? from hpast W hW vb hvw];exact hvs j v hj) (by omega) h2
  rw[hmin,←hM1]at this;exact this
 have hcpB:∀(W W0:World),W0.heap=w.heap.push (.cells R.toArray 61)→W.heap=(W0.setRow gb M1.toArray).heap→∀ty dc sc,(Builtin.copy_ #[22,22] ty #[.slice (some ⟨gb,(i+1)*10,none⟩) (n-i) dc,.slice (some ⟨b,i*10,none⟩) (n-i) sc]).run Tryz.prog W=.ok (goInt ((n-i:Nat):Int)) (W.setRow gb (Go.splice M1 ((i+1)*10) C1).toArray):=fun W W0 hW0 hW ty dc sc=>by
  have hmin:Nat.min (n-i) (n-i)=n-i:=by show min _ _=_;omega
  have:=a0e (P:=Tryz.prog) (w:=W) (sT:=22) (ty:=ty) (dCap:=dc) (sCap:=sc) (dLen:=n-i) (sLen:=n-i) (o:=(i+1)*10) (a:=⟨b,i*10,none⟩) Tryz.underlying22 hi0 hsz (g:=gb) (t:=61) (L:=M1) (by rw[hW];exact setRow_heap _ _ _ _ _ _ (hnew W0 hW0)) (cs:=C1) (by rw[hmin];exact hC1l)
   (fun j v hj=>by
    rw[Addr.add_lit];unfold World.cell?;have e:W.heap[(⟨b,i*10+j,none⟩:Addr).block]?=w.heap[b]?:=by
     show W.heap[b]?=_
     rw[hW,setRow_other _ _ _ _ (by omega),hpast W0 hW0 b hbw]
    rw[e,hb];rw[hC1,yaz]at hj;split at hj
    ·simpa using hj
    ·cases hj) (by omega) (by rw[hC1];exact h1)
  rw[hmin]at this;exact this
 have hw1:IntKind.i64.wrap ((i:Int)+1)=(i:Int)+1:=by rw[IntKind.wrap_i64];omega
 have hb1:(0:Int)≤(i:Int)+1:=by omega
 have hin:i≤n:=by omega
 have htn:((i:Int)+1).toNat=i+1:=by omega
 have hb3:(i:Int)≤(n:Int):=by omega
 have hGi:¬(G=i):=by omega
 have hGim:¬(G=i+1):=by omega
 have hci:¬(c=i):=by omega
 have hmixed:Tryz.prog.follows .mixedOrders=true:=kr;have mixed:=hmixed;have hfin:∀W W0:World,W0.heap=w.heap.push (.cells R.toArray 61)→W.heap=(W0.setRow gb M1.toArray).heap→(W.setRow gb (Go.splice M1 ((i+1)*10) C1).toArray).heap=w.heap.push (.cells (Go.splice M1 ((i+1)*10) C1).toArray 61):=fun W W0 hW0 hW=>by
  have h1:W.heap[gb]?=some (.cells M1.toArray 61 (0,0)):=by rw[hW];exact setRow_heap _ _ _ _ _ _ (hnew W0 hW0)
  have hsz0:W.heap.size=w.heap.size+1:=by rw[hW,setRow_size,hW0];simp
  apply Array.ext_getElem?;intro k;by_cases hk:k=gb
  ·subst hk;rw[setRow_heap _ _ _ _ _ _ h1,hgb];simp
  ·rw[setRow_other _ _ _ _ hk];by_cases hk2:k<w.heap.size
   ·rw[hW,setRow_other _ _ _ _ hk,hpast W0 hW0 k hk2,ybz hk2];simp[hk2]
   ·rw[ybm (by omega),ybm (by simp;omega)]
 have hMM:Go.splice (Go.splice R (i*10) vs) ((i+1)*10) C1=Go.splice M1 ((i+1)*10) C1:=by rw[hM1]
 subst hgb;have hcpA':=hcpA ((w.alloc (.cells R.toArray 61)).drew) rfl;clear hkk hcpA hik hold hG hR hRe hC1 hM1 hC1l hM1l h1 h2 hvs hL hTl
 go_enter Tryz.func121,Tryz.ntmps121
 go_wp2_with (at_builtin;refine a0f rfl _ _ _ _ rfl _ _ rfl rfl (hrz _) ?_)
 go_region_law_o (refine a3b rfl _ _ 22 22 rfl (.slice (some ⟨w.heap.size,(i+1)*10,none⟩) (n-i) (G-(i+1))) (.slice (some ⟨b,i*10,none⟩) (n-i) (c-i)) (by simp[Act.eval,Act.put]) (by simp[Act.eval,Act.put]) (hcpB (((w.alloc (.cells R.toArray 61)).drew.setRow w.heap.size M1.toArray).drew) (w.drew.alloc (.cells R.toArray 61)) rfl rfl 3 (G-(i+1)) (c-i)) ?_)
 go_wp2
 go_ret
 refine ⟨G,R,rfl,hge,hRl,hRt,?_,rfl,rfl,rfl⟩;rw[hMM];exact hfin _ (w.drew.alloc (.cells R.toArray 61)) rfl rfl
end
section
theorem a8n:∃i0 z,Tryz.prog.info? 79=some i0∧i0.zero=some z∧z.cells.size=6∧i0.size=6∧i0.bytes≤128:=by
 have h:(match Tryz.prog.info? 79 with|some i=>(match i.zero with|some z=>Nat.beq z.cells.size 6&&Nat.beq i.size 6&&Nat.ble i.bytes 128|none=>false)|none=>false)=true:=kr;split at h
 ·rename_i i hi;split at h
  ·rename_i z hz;simp only[yad]at h;exact ⟨i,z,hi,hz,ybn h.1.1,ybn h.1.2,yaW h.2⟩
  ·cases h
 ·cases h
set_option maxHeartbeats 4000000 in
set_option maxRecDepth 100000 in
theorem b4b {w:World} {b n c i vb vo vc:Nat} {L vs:List Value} {t:TypeId} (hi:i<n) (hroom:n+1≤c) (hlim:n+1≤1073741824) (hvb:vb≠b)
 (hb:w.heap[b]?=some (.cells L.toArray t (0,0))) (hL:L.length=c*6) (hvl:vs.length=6)
 (hvs:∀j v,vs[j]?=some v→w.cell? ⟨vb,vo+j,none⟩=some v) (h1:∀v∈(L.drop (i*6)).take ((n-i)*6),v.oneCell'=true) (h2:∀v∈vs,v.oneCell'=true) :
 Calls Tryz.prog 201 #[.slice (some ⟨b,0,none⟩) n c,.int .i64 i,.slice (some ⟨vb,vo,none⟩) 1 vc] w fun e w'=>
  e=.returned (.slice (some ⟨b,0,none⟩) (n+1) c)∧w'=(w.drew.setRow b (Go.splice L ((i+1)*6) ((L.drop (i*6)).take ((n-i)*6))).toArray).setRow b (Go.splice (Go.splice L ((i+1)*6) ((L.drop (i*6)).take ((n-i)*6))) (i*6) vs).toArray:=by
 obtain ⟨i0,z0,hi0,hz0,hzs,hsz,hby⟩:=a8n;have hz2:¬((i:Int)=(n:Int)):=by omega
 have hva:∃va ta fa,w.heap[vb]?=some (.cells va ta fa)∧0<va.size:=by
  have h:=hvs 0 _ (yab (by omega));unfold World.cell? at h;split at h
  ·rename_i c0 t0 f0 hc0;exact ⟨c0,t0,f0,hc0,by have:=(yah.1 h).1;omega⟩
  ·cases h
 obtain ⟨va,ta,fa,hva,hva0⟩:=hva;have hov:∀lb cb,(callFunc 262 #[.slice (some ⟨vb,vo,none⟩) 1 vc,.slice (some ⟨b,(i+1)*6,none⟩) lb cb]).run Tryz.prog w=.ok (.value (.bool false)) w:=fun lb cb=>by
  rw[run_callFunc_extern Tryz.func262 kr kr kr (e:=Extern.SlicesOverlaps.overlaps #[24,24] #[4]) kr,
   a3p Tryz.underlying24 hi0 (a:=⟨vb,vo,none⟩) (b:=⟨b,(i+1)*6,none⟩) hvb hva hva0 hb (by simp only[ybA];omega)]
  rfl
 have hLn:(n+1)*6≤L.length:=by rw[hL];exact yaq _ hroom
 obtain ⟨C1,hC1⟩:∃C1,C1=(L.drop (i*6)).take ((n-i)*6):=⟨_,rfl⟩
 have hC1l:C1.length=(n-i)*6:=by rw[hC1];simp;omega
 obtain ⟨M1,hM1⟩:∃M1,M1=Go.splice L ((i+1)*6) C1:=⟨_,rfl⟩
 have hM1l:M1.length=L.length:=by rw[hM1];exact length_splice _ _ _ (by omega)
 rw[←hC1,←hM1];have hcp1:∀ty dc sc,(Builtin.copy_ #[24,24] ty #[.slice (some ⟨b,(i+1)*6,none⟩) (n-i) dc,.slice (some ⟨b,i*6,none⟩) (n+1-i) sc]).run Tryz.prog w.drew=.ok (goInt ((n-i:Nat):Int)) (w.drew.setRow b M1.toArray):=fun ty dc sc=>by
  have hmin:Nat.min (n+1-i) (n-i)=n-i:=by show min _ _=_;omega
  have:=a0e (P:=Tryz.prog) (w:=w.drew) (sT:=24) (ty:=ty) (dCap:=dc) (sCap:=sc) (dLen:=n-i) (sLen:=n+1-i) (o:=(i+1)*6) (a:=⟨b,i*6,none⟩) Tryz.underlying24 hi0 hsz hb (cs:=C1) (by rw[hmin];exact hC1l)
   (fun j v hj=>by
    rw[Addr.add_lit];show w.cell? _=_
    simp only[World.cell?,hb];rw[hC1,yaz]at hj;split at hj
    ·simpa using hj
    ·cases hj) (by omega) (by rw[hC1];exact h1)
  rw[hmin,←hM1]at this;exact this
 have hcp2:∀(W:World),W=(w.drew.setRow b M1.toArray)→∀ty dc,(Builtin.copy_ #[24,24] ty #[.slice (some ⟨b,i*6,none⟩) (n+1-i) dc,.slice (some ⟨vb,vo,none⟩) 1 vc]).run Tryz.prog W=.ok (goInt 1) (W.setRow b (Go.splice M1 (i*6) vs).toArray):=fun W hW ty dc=>by
  have hmin:Nat.min 1 (n+1-i)=1:=by show min _ _=_;omega
  have:=a0e (P:=Tryz.prog) (w:=W) (sT:=24) (ty:=ty) (dCap:=dc) (sCap:=vc) (dLen:=n+1-i) (sLen:=1) (o:=i*6) (a:=⟨vb,vo,none⟩) Tryz.underlying24 hi0 hsz (g:=b) (t:=t) (L:=M1) (by rw[hW];exact setRow_heap _ _ _ _ _ _ hb) (cs:=vs) (by rw[hmin];omega)
   (fun j v hj=>by
    rw[Addr.add_lit,hW,cell_setRow_other _ _ _ _ hvb];exact hvs j v hj) (by omega) h2
  rw[hmin]at this;exact this
 have hw1:IntKind.i64.wrap ((i:Int)+1)=(i:Int)+1:=by rw[IntKind.wrap_i64];omega
 have hb1:(0:Int)≤(i:Int)+1:=by omega
 have hin:i≤n:=by omega
 have htn:((i:Int)+1).toNat=i+1:=by omega
 have hb2:¬(c=i+1):=by omega
 have hb3:(i:Int)≤(n:Int)+1:=by omega
 have hb4:¬(c=i):=by omega
 have mixed:Tryz.prog.follows .mixedOrders=true:=kr;clear hC1 hM1 hC1l hM1l h1 h2 hvs hL
 go_enter Tryz.func201,Tryz.ntmps201
 go_wp2_with (simp only[hov])
 go_region_law_o (refine a3b rfl _ _ 24 24 rfl _ _ (by simp[Act.eval,Act.put]) (by simp[Act.eval,Act.put]) (hcp1 _ _ _) ?_)
 go_wp2_with (at_builtin;refine b3w rfl _ _ 24 24 rfl _ _ rfl rfl (hcp2 _ rfl _ _) ?_)
 go_ret
 exact ⟨rfl,rfl⟩
theorem b4n {i0:TypeInfo} {k c:Nat} (h:c<k) (hk:k≤1073741824) (hby:i0.bytes≤128):Builtin.nextslicecap k c*i0.bytes≤281474976710656:=
 growslice_fits h (ya6 (ybT hk hby) (by decide))
set_option maxHeartbeats 4000000 in
set_option maxRecDepth 100000 in
theorem b7t {w:World} {b n c vb vo vc:Nat} {L vs:List Value} {t:TypeId} (hroom:n+1≤c) (hlim:n+1≤1073741824)
 (hb:w.heap[b]?=some (.cells L.toArray t (0,0))) (hL:L.length=c*6) (hvl:vs.length=6)
 (hvs:∀j v,vs[j]?=some v→w.cell? ⟨vb,vo+j,none⟩=some v) (h2:∀v∈vs,v.oneCell'=true) :
 Calls Tryz.prog 201 #[.slice (some ⟨b,0,none⟩) n c,.int .i64 n,.slice (some ⟨vb,vo,none⟩) 1 vc] w fun e w'=>
  e=.returned (.slice (some ⟨b,0,none⟩) (n+1) c)∧w'=w.setRow b (Go.splice L (n*6) vs).toArray:=by
 obtain ⟨i0,z0,hi0,hz0,hzs,hsz,hby⟩:=a8n;have hLn:(n+1)*6≤L.length:=by rw[hL];exact yaq _ hroom
 have hf:=run_firstCells_some (P:=Tryz.prog) w i0.size 1 ⟨vb,vo,none⟩ 1 vc vs (by omega) (fun j v hj=>by rw[Addr.add_lit];exact hvs j v hj);have hap:∀ty,(Builtin.append_ #[24,24] ty #[.slice (some ⟨b,0,none⟩) n c,.slice (some ⟨vb,vo,none⟩) 1 vc]).run Tryz.prog w=.ok (.slice (some ⟨b,0,none⟩) (n+1) c) (w.setRow b (Go.splice L (n*6) vs).toArray):=fun ty=>by
  have:=a1s (P:=Tryz.prog) (w:=w) (ty:=ty) (ts:=#[24,24]) rfl rfl Tryz.underlying24 Tryz.underlying24 hi0 hf hroom hb (by simp only[ybA];rw[hsz];omega) h2;rw[hsz]at this;simpa[Go.splice]using this
 go_enter Tryz.func201,Tryz.ntmps201
 go_wp2_with (at_builtin;refine a0f rfl _ _ _ _ rfl _ _ rfl rfl (hap _) ?_)
 all_goals (go_ret;exact ⟨rfl,rfl⟩)
set_option maxHeartbeats 4000000 in
set_option maxRecDepth 100000 in
theorem c0t {w:World} {base:Option Addr} {n c vb vo vc:Nat} {olds vs:List Value} (hnc:n≤c) (hroom:c<n+1) (hlim:n+1≤1073741824) (hvl:vs.length=6)
 (hnil:base=none→n=0) (hol:olds.length=n*6) (hos:∀a,base=some a→∀j v,olds[j]?=some v→w.cell? (a.add j)=some v)
 (hvs:∀j v,vs[j]?=some v→w.cell? ⟨vb,vo+j,none⟩=some v) :
 Calls Tryz.prog 201 #[.slice base n c,.int .i64 n,.slice (some ⟨vb,vo,none⟩) 1 vc] w fun e w'=>
  ∃cap zs,e=.returned (.slice (some ⟨w.heap.size,0,none⟩) (n+1) cap)∧w'=w.drew.alloc (.cells (olds++(vs++zs)).toArray 79)∧n+1≤cap∧zs.length=(cap-(n+1))*6:=by
 obtain ⟨i0,z0,hi0,hz0,hzs,hsz,hby⟩:=a8n;have hf:=run_firstCells_some (P:=Tryz.prog) w.drew i0.size 1 ⟨vb,vo,none⟩ 1 vc vs (by omega) (fun j v hj=>by rw[Addr.add_lit];exact hvs j v hj);have hold:(Builtin.firstCells i0.size n (.slice base n c)).run Tryz.prog w.drew=.ok olds.toArray w.drew:=by
  cases base with
  |none=>
   have h0:=hnil rfl;subst h0;rw[ybp.1 (by omega:olds.length=0)];exact run_firstCells_none w.drew _ 0 0 c
  |some a=>exact run_firstCells_some w.drew _ n a n c olds (by rw[hsz];omega) (fun j v hj=>hos a rfl j v hj)
 have hap:∀ty,(Builtin.append_ #[24,24] ty #[.slice base n c,.slice (some ⟨vb,vo,none⟩) 1 vc]).run Tryz.prog w=_:=fun ty=>
  a1t (P:=Tryz.prog) (w:=w) (ty:=ty) (ts:=#[24,24]) rfl rfl Tryz.underlying24 Tryz.underlying24 hi0 hz0 hf hold hroom (by omega) (b4n hroom hlim hby)
 have hge:=a1b w (n+1) c 79;obtain ⟨G,hG⟩:∃G,G=grownCap w (n+1) c 79:=⟨_,rfl⟩
 obtain ⟨zs,hzs'⟩:∃zs,zs=(Builtin.zeroCells z0.cells (G-(n+1))).toList:=⟨_,rfl⟩
 rw[←hG]at hap hge;rw[←hzs']at hap;have hzl:zs.length=(G-(n+1))*6:=by rw[hzs',ya4,size_zeroCells,hzs]
 clear hG hzs'
 go_enter Tryz.func201,Tryz.ntmps201
 cases base with
 |none=>
  have h0:=hnil rfl;subst h0
  go_wp2_with (at_builtin;refine a0f rfl _ _ _ _ rfl _ _ rfl rfl (hap _) ?_)
  all_goals (go_ret;first|exact ⟨_,_,rfl,rfl,hge,hzl⟩|exact ⟨_,rfl,_,rfl,hge,hzl⟩)
 |some a=>
  obtain ⟨ab,ao,asp⟩:=a
  go_wp2_with (at_builtin;refine a0f rfl _ _ _ _ rfl _ _ rfl rfl (hap _) ?_)
  all_goals (go_ret;first|exact ⟨_,_,rfl,rfl,hge,hzl⟩|exact ⟨_,rfl,_,rfl,hge,hzl⟩)
set_option maxHeartbeats 4000000 in
set_option maxRecDepth 100000 in
theorem b7s {w:World} {b n c i vb vo vc:Nat} {L vs:List Value} {t:TypeId} (hi:i<n) (hnc:n≤c) (hroom:c<n+1) (hlim:n+1≤1073741824) (hvb:vb≠b)
 (hb:w.heap[b]?=some (.cells L.toArray t (0,0))) (hL:L.length=c*6) (hvl:vs.length=6)
 (hvs:∀j v,vs[j]?=some v→w.cell? ⟨vb,vo+j,none⟩=some v) (h1:∀v∈(L.drop (i*6)).take ((n-i)*6),v.oneCell'=true) (h2:∀v∈vs,v.oneCell'=true) :
 Calls Tryz.prog 201 #[.slice (some ⟨b,0,none⟩) n c,.int .i64 i,.slice (some ⟨vb,vo,none⟩) 1 vc] w fun e w'=>
  ∃cap row,e=.returned (.slice (some ⟨w.heap.size,0,none⟩) (n+1) cap)∧n+1≤cap∧row.length=cap*6∧row.take (i*6)=L.take (i*6)∧
   w'.heap=(w.heap.push (.cells (Go.splice (Go.splice row (i*6) vs) ((i+1)*6) ((L.drop (i*6)).take ((n-i)*6))).toArray 79))∧w'.os=w.os∧w'.output=w.output∧w'.tape=w.tape:=by
 obtain ⟨i0,z0,hi0,hz0,hzs,hsz,hby⟩:=a8n;have hz2:¬((i:Int)=(n:Int)):=by omega
 have hz3:(c:Int)<(n:Int)+1:=by omega
 have hLn:n*6≤L.length:=by rw[hL];exact yaq _ hnc
 have hbw:b<w.heap.size:=(yah.1 hb).1;have hvw:vb<w.heap.size:=by
  have h:=hvs 0 _ (yab (by omega));unfold World.cell? at h;split at h
  ·rename_i c0 t0 f0 hc0;exact (yah.1 hc0).1
  ·cases h
 have hkk:(n:Int)+1-(i:Int)=((n+1-i:Nat):Int):=by omega
 have hik:i+(n+1-i)=n+1:=by omega
 have hTl:(L.take (i*6)).length=i*6:=by simp;omega
 have hold:(Builtin.firstCells i0.size i (.slice (some ⟨b,0,none⟩) i c)).run Tryz.prog w.drew=.ok (L.take (i*6)).toArray w.drew:=by
  refine run_firstCells_some w.drew _ i ⟨b,0,none⟩ i c (L.take (i*6)) (by rw[hsz];exact hTl) (fun j v hj=>?_);rw[Addr.add_lit,yaH];show w.cell? _=_
  simp only[World.cell?,hb];rw[yaz]at hj;split at hj
  ·simpa using hj
  ·cases hj
 have hrz:∀ty,(Builtin.append_ #[24,3] ty #[.slice (some ⟨b,0,none⟩) i c,.int .i64 ((n:Int)+1-(i:Int))]).run Tryz.prog w =
  .ok (.slice (some ⟨w.heap.size,0,none⟩) (n+1) (grownCap w (n+1) c 79)) (w.drew.alloc (.cells ((L.take (i*6)).toArray++Builtin.zeroCells z0.cells (n+1-i)++Builtin.zeroCells z0.cells (grownCap w (n+1) c 79-(n+1))) 79)):=fun ty=>by
  have h:=Lib.run_append_grow_zeros w 24 3 ty 79 i0 _ .i64 .i64 Tryz.underlying24 Tryz.underlying3 hi0 hz0 (some ⟨b,0,none⟩) i c _ hold (n+1-i) (by omega) (by omega) (by omega) (by omega)
   (ya6 (ybT (show n+1-i≤1073741824 by omega) hby) (by decide)) (by rw[hik];exact b4n hroom hlim hby)
  rw[hik]at h;rw[hkk];exact h
 have hge:=a1b w (n+1) c 79;obtain ⟨G,hG⟩:∃G,G=grownCap w (n+1) c 79:=⟨_,rfl⟩
 rw[←hG]at hrz hge;have hG63:G≤9223372036854775807:=by
  have:=grownCap_le_maxLen w (n+1) c 79 (by unfold maxLen;omega);rw[←hG]at this;unfold maxLen at this;omega
 obtain ⟨R,hR⟩:∃R:List Value,R=L.take (i*6)++((Builtin.zeroCells z0.cells (n+1-i)).toList++(Builtin.zeroCells z0.cells (G-(n+1))).toList):=⟨_,rfl⟩
 have hRl:R.length=G*6:=by
  rw[hR];simp only[yaM,ya4,size_zeroCells,hzs,hTl];rw[←ya2,←ya2];congr 1;omega
 have hRt:R.take (i*6)=L.take (i*6):=by rw[hR,List.take_append_of_le_length (by omega),ybU (by omega)]
 have hRe:(L.take (i*6)).toArray++Builtin.zeroCells z0.cells (n+1-i)++Builtin.zeroCells z0.cells (G-(n+1))=R.toArray:=by
  rw[hR];apply Array.ext';simp
 rw[hRe]at hrz;obtain ⟨C1,hC1⟩:∃C1,C1=(L.drop (i*6)).take ((n-i)*6):=⟨_,rfl⟩
 have hC1l:C1.length=(n-i)*6:=by rw[hC1];simp;omega
 have hGn:(n+1)*6≤R.length:=by rw[hRl];exact yaq _ hge
 obtain ⟨M1,hM1⟩:∃M1,M1=Go.splice R (i*6) vs:=⟨_,rfl⟩
 have hM1l:M1.length=R.length:=by rw[hM1];exact length_splice _ _ _ (by omega)
 rw[←hC1];obtain ⟨gb,hgb⟩:∃gb,gb=w.heap.size:=⟨_,rfl⟩
 have hnew:∀W:World,W.heap=w.heap.push (.cells R.toArray 79)→W.heap[gb]?=some (.cells R.toArray 79 (0,0)):=fun W hW=>by rw[hW,hgb];simp
 have hpast:∀W:World,W.heap=w.heap.push (.cells R.toArray 79)→∀k,k<w.heap.size→W.heap[k]?=w.heap[k]?:=fun W hW k hk=>by rw[hW,ybz hk];simp[hk]
 have hcpA:∀(W:World),W.heap=w.heap.push (.cells R.toArray 79)→∀ty dc,(Builtin.copy_ #[24,24] ty #[.slice (some ⟨gb,i*6,none⟩) (n+1-i) dc,.slice (some ⟨vb,vo,none⟩) 1 vc]).run Tryz.prog W=.ok (goInt 1) (W.setRow gb M1.toArray):=fun W hW ty dc=>by
  have hmin:Nat.min 1 (n+1-i)=1:=by show min _ _=_;omega
  have:=a0e (P:=Tryz.prog) (w:=W) (sT:=24) (ty:=ty) (dCap:=dc) (sCap:=vc) (dLen:=n+1-i) (sLen:=1) (o:=i*6) (a:=⟨vb,vo,none⟩) Tryz.underlying24 hi0 hsz (g:=gb) (t:=79) (L:=R) (hnew W hW) (cs:=vs) (by rw[hmin];omega)
   (fun j v hj=>by
    rw[Addr.add_lit];unfold World.cell?;rw[show W.heap[(⟨vb,vo+j,none⟩:Addr).block]?=w.heap[vb]? from hpast W hW vb hvw];exact hvs j v hj) (by omega) h2
  rw[hmin,←hM1]at this;exact this
 have hcpB:∀(W W0:World),W0.heap=w.heap.push (.cells R.toArray 79)→W.heap=(W0.setRow gb M1.toArray).heap→∀ty dc sc,(Builtin.copy_ #[24,24] ty #[.slice (some ⟨gb,(i+1)*6,none⟩) (n-i) dc,.slice (some ⟨b,i*6,none⟩) (n-i) sc]).run Tryz.prog W=.ok (goInt ((n-i:Nat):Int)) (W.setRow gb (Go.splice M1 ((i+1)*6) C1).toArray):=fun W W0 hW0 hW ty dc sc=>by
  have hmin:Nat.min (n-i) (n-i)=n-i:=by show min _ _=_;omega
  have:=a0e (P:=Tryz.prog) (w:=W) (sT:=24) (ty:=ty) (dCap:=dc) (sCap:=sc) (dLen:=n-i) (sLen:=n-i) (o:=(i+1)*6) (a:=⟨b,i*6,none⟩) Tryz.underlying24 hi0 hsz (g:=gb) (t:=79) (L:=M1) (by rw[hW];exact setRow_heap _ _ _ _ _ _ (hnew W0 hW0)) (cs:=C1) (by rw[hmin];exact hC1l)
   (fun j v hj=>by
    rw[Addr.add_lit];unfold World.cell?;have e:W.heap[(⟨b,i*6+j,none⟩:Addr).block]?=w.heap[b]?:=by
     show W.heap[b]?=_
     rw[hW,setRow_other _ _ _ _ (by omega),hpast W0 hW0 b hbw]
    rw[e,hb];rw[hC1,yaz]at hj;split at hj
    ·simpa using hj
    ·cases hj) (by omega) (by rw[hC1];exact h1)
  rw[hmin]at this;exact this
 have hw1:IntKind.i64.wrap ((i:Int)+1)=(i:Int)+1:=by rw[IntKind.wrap_i64];omega
 have hb1:(0:Int)≤(i:Int)+1:=by omega
 have hin:i≤n:=by omega
 have htn:((i:Int)+1).toNat=i+1:=by omega
 have hb3:(i:Int)≤(n:Int):=by omega
 have hGi:¬(G=i):=by omega
 have hGim:¬(G=i+1):=by omega
 have hci:¬(c=i):=by omega
 have hmixed:Tryz.prog.follows .mixedOrders=true:=kr;have mixed:=hmixed;have hfin:∀W W0:World,W0.heap=w.heap.push (.cells R.toArray 79)→W.heap=(W0.setRow gb M1.toArray).heap→(W.setRow gb (Go.splice M1 ((i+1)*6) C1).toArray).heap=w.heap.push (.cells (Go.splice M1 ((i+1)*6) C1).toArray 79):=fun W W0 hW0 hW=>by
  have h1:W.heap[gb]?=some (.cells M1.toArray 79 (0,0)):=by rw[hW];exact setRow_heap _ _ _ _ _ _ (hnew W0 hW0)
  have hsz0:W.heap.size=w.heap.size+1:=by rw[hW,setRow_size,hW0];simp
  apply Array.ext_getElem?;intro k;by_cases hk:k=gb
  ·subst hk;rw[setRow_heap _ _ _ _ _ _ h1,hgb];simp
  ·rw[setRow_other _ _ _ _ hk];by_cases hk2:k<w.heap.size
   ·rw[hW,setRow_other _ _ _ _ hk,hpast W0 hW0 k hk2,ybz hk2];simp[hk2]
   ·rw[ybm (by omega),ybm (by simp;omega)]
 have hMM:Go.splice (Go.splice R (i*6) vs) ((i+1)*6) C1=Go.splice M1 ((i+1)*6) C1:=by rw[hM1]
 subst hgb;have hcpA':=hcpA ((w.alloc (.cells R.toArray 79)).drew) rfl;clear hkk hcpA hik hold hG hR hRe hC1 hM1 hC1l hM1l h1 h2 hvs hL hTl
 go_enter Tryz.func201,Tryz.ntmps201
 go_wp2_with (at_builtin;refine a0f rfl _ _ _ _ rfl _ _ rfl rfl (hrz _) ?_)
 go_region_law_o (refine a3b rfl _ _ 24 24 rfl (.slice (some ⟨w.heap.size,(i+1)*6,none⟩) (n-i) (G-(i+1))) (.slice (some ⟨b,i*6,none⟩) (n-i) (c-i)) (by simp[Act.eval,Act.put]) (by simp[Act.eval,Act.put]) (hcpB (((w.alloc (.cells R.toArray 79)).drew.setRow w.heap.size M1.toArray).drew) (w.drew.alloc (.cells R.toArray 79)) rfl rfl 3 (G-(i+1)) (c-i)) ?_)
 go_wp2
 go_ret
 refine ⟨G,R,rfl,hge,hRl,hRt,?_,rfl,rfl,rfl⟩;rw[hMM];exact hfin _ (w.drew.alloc (.cells R.toArray 79)) rfl rfl
end
section
theorem a5m:∃i0 z,Tryz.prog.info? 77=some i0∧i0.zero=some z∧z.cells.size=6∧i0.size=6∧i0.bytes≤128:=by
 have h:(match Tryz.prog.info? 77 with|some i=>(match i.zero with|some z=>Nat.beq z.cells.size 6&&Nat.beq i.size 6&&Nat.ble i.bytes 128|none=>false)|none=>false)=true:=kr;split at h
 ·rename_i i hi;split at h
  ·rename_i z hz;simp only[yad]at h;exact ⟨i,z,hi,hz,ybn h.1.1,ybn h.1.2,yaW h.2⟩
  ·cases h
 ·cases h
set_option maxHeartbeats 4000000 in
set_option maxRecDepth 100000 in
theorem a97 {w:World} {b n c i vb vo vc:Nat} {L vs:List Value} {t:TypeId} (hi:i<n) (hroom:n+1≤c) (hlim:n+1≤1073741824) (hvb:vb≠b)
 (hb:w.heap[b]?=some (.cells L.toArray t (0,0))) (hL:L.length=c*6) (hvl:vs.length=6)
 (hvs:∀j v,vs[j]?=some v→w.cell? ⟨vb,vo+j,none⟩=some v) (h1:∀v∈(L.drop (i*6)).take ((n-i)*6),v.oneCell'=true) (h2:∀v∈vs,v.oneCell'=true) :
 Calls Tryz.prog 249 #[.slice (some ⟨b,0,none⟩) n c,.int .i64 i,.slice (some ⟨vb,vo,none⟩) 1 vc] w fun e w'=>
  e=.returned (.slice (some ⟨b,0,none⟩) (n+1) c)∧w'=(w.drew.setRow b (Go.splice L ((i+1)*6) ((L.drop (i*6)).take ((n-i)*6))).toArray).setRow b (Go.splice (Go.splice L ((i+1)*6) ((L.drop (i*6)).take ((n-i)*6))) (i*6) vs).toArray:=by
 obtain ⟨i0,z0,hi0,hz0,hzs,hsz,hby⟩:=a5m;have hz2:¬((i:Int)=(n:Int)):=by omega
 have hva:∃va ta fa,w.heap[vb]?=some (.cells va ta fa)∧0<va.size:=by
  have h:=hvs 0 _ (yab (by omega));unfold World.cell? at h;split at h
  ·rename_i c0 t0 f0 hc0;exact ⟨c0,t0,f0,hc0,by have:=(yah.1 h).1;omega⟩
  ·cases h
 obtain ⟨va,ta,fa,hva,hva0⟩:=hva;have hov:∀lb cb,(callFunc 284 #[.slice (some ⟨vb,vo,none⟩) 1 vc,.slice (some ⟨b,(i+1)*6,none⟩) lb cb]).run Tryz.prog w=.ok (.value (.bool false)) w:=fun lb cb=>by
  rw[run_callFunc_extern Tryz.func284 kr kr kr (e:=Extern.SlicesOverlaps.overlaps #[23,23] #[4]) kr,
   a3p Tryz.underlying23 hi0 (a:=⟨vb,vo,none⟩) (b:=⟨b,(i+1)*6,none⟩) hvb hva hva0 hb (by simp only[ybA];omega)]
  rfl
 have hLn:(n+1)*6≤L.length:=by rw[hL];exact yaq _ hroom
 obtain ⟨C1,hC1⟩:∃C1,C1=(L.drop (i*6)).take ((n-i)*6):=⟨_,rfl⟩
 have hC1l:C1.length=(n-i)*6:=by rw[hC1];simp;omega
 obtain ⟨M1,hM1⟩:∃M1,M1=Go.splice L ((i+1)*6) C1:=⟨_,rfl⟩
 have hM1l:M1.length=L.length:=by rw[hM1];exact length_splice _ _ _ (by omega)
 rw[←hC1,←hM1];have hcp1:∀ty dc sc,(Builtin.copy_ #[23,23] ty #[.slice (some ⟨b,(i+1)*6,none⟩) (n-i) dc,.slice (some ⟨b,i*6,none⟩) (n+1-i) sc]).run Tryz.prog w.drew=.ok (goInt ((n-i:Nat):Int)) (w.drew.setRow b M1.toArray):=fun ty dc sc=>by
  have hmin:Nat.min (n+1-i) (n-i)=n-i:=by show min _ _=_;omega
  have:=a0e (P:=Tryz.prog) (w:=w.drew) (sT:=23) (ty:=ty) (dCap:=dc) (sCap:=sc) (dLen:=n-i) (sLen:=n+1-i) (o:=(i+1)*6) (a:=⟨b,i*6,none⟩) Tryz.underlying23 hi0 hsz hb (cs:=C1) (by rw[hmin];exact hC1l)
   (fun j v hj=>by
    rw[Addr.add_lit];show w.cell? _=_
    simp only[World.cell?,hb];rw[hC1,yaz]at hj;split at hj
    ·simpa using hj
    ·cases hj) (by omega) (by rw[hC1];exact h1)
  rw[hmin,←hM1]at this;exact this
 have hcp2:∀(W:World),W=(w.drew.setRow b M1.toArray)→∀ty dc,(Builtin.copy_ #[23,23] ty #[.slice (some ⟨b,i*6,none⟩) (n+1-i) dc,.slice (some ⟨vb,vo,none⟩) 1 vc]).run Tryz.prog W=.ok (goInt 1) (W.setRow b (Go.splice M1 (i*6) vs).toArray):=fun W hW ty dc=>by
  have hmin:Nat.min 1 (n+1-i)=1:=by show min _ _=_;omega
  have:=a0e (P:=Tryz.prog) (w:=W) (sT:=23) (ty:=ty) (dCap:=dc) (sCap:=vc) (dLen:=n+1-i) (sLen:=1) (o:=i*6) (a:=⟨vb,vo,none⟩) Tryz.underlying23 hi0 hsz (g:=b) (t:=t) (L:=M1) (by rw[hW];exact setRow_heap _ _ _ _ _ _ hb) (cs:=vs) (by rw[hmin];omega)
   (fun j v hj=>by
    rw[Addr.add_lit,hW,cell_setRow_other _ _ _ _ hvb];exact hvs j v hj) (by omega) h2
  rw[hmin]at this;exact this
 have hw1:IntKind.i64.wrap ((i:Int)+1)=(i:Int)+1:=by rw[IntKind.wrap_i64];omega
 have hb1:(0:Int)≤(i:Int)+1:=by omega
 have hin:i≤n:=by omega
 have htn:((i:Int)+1).toNat=i+1:=by omega
 have hb2:¬(c=i+1):=by omega
 have hb3:(i:Int)≤(n:Int)+1:=by omega
 have hb4:¬(c=i):=by omega
 have mixed:Tryz.prog.follows .mixedOrders=true:=kr;clear hC1 hM1 hC1l hM1l h1 h2 hvs hL
 go_enter Tryz.func249,Tryz.ntmps249
 go_wp2_with (simp only[hov])
 go_region_law_o (refine a3b rfl _ _ 23 23 rfl _ _ (by simp[Act.eval,Act.put]) (by simp[Act.eval,Act.put]) (hcp1 _ _ _) ?_)
 go_wp2_with (at_builtin;refine b3w rfl _ _ 23 23 rfl _ _ rfl rfl (hcp2 _ rfl _ _) ?_)
 go_ret
 exact ⟨rfl,rfl⟩
theorem a9k {i0:TypeInfo} {k c:Nat} (h:c<k) (hk:k≤1073741824) (hby:i0.bytes≤128):Builtin.nextslicecap k c*i0.bytes≤281474976710656:=
 growslice_fits h (ya6 (ybT hk hby) (by decide))
set_option maxHeartbeats 4000000 in
set_option maxRecDepth 100000 in
theorem b1v {w:World} {b n c vb vo vc:Nat} {L vs:List Value} {t:TypeId} (hroom:n+1≤c) (hlim:n+1≤1073741824)
 (hb:w.heap[b]?=some (.cells L.toArray t (0,0))) (hL:L.length=c*6) (hvl:vs.length=6)
 (hvs:∀j v,vs[j]?=some v→w.cell? ⟨vb,vo+j,none⟩=some v) (h2:∀v∈vs,v.oneCell'=true) :
 Calls Tryz.prog 249 #[.slice (some ⟨b,0,none⟩) n c,.int .i64 n,.slice (some ⟨vb,vo,none⟩) 1 vc] w fun e w'=>
  e=.returned (.slice (some ⟨b,0,none⟩) (n+1) c)∧w'=w.setRow b (Go.splice L (n*6) vs).toArray:=by
 obtain ⟨i0,z0,hi0,hz0,hzs,hsz,hby⟩:=a5m;have hLn:(n+1)*6≤L.length:=by rw[hL];exact yaq _ hroom
 have hf:=run_firstCells_some (P:=Tryz.prog) w i0.size 1 ⟨vb,vo,none⟩ 1 vc vs (by omega) (fun j v hj=>by rw[Addr.add_lit];exact hvs j v hj);have hap:∀ty,(Builtin.append_ #[23,23] ty #[.slice (some ⟨b,0,none⟩) n c,.slice (some ⟨vb,vo,none⟩) 1 vc]).run Tryz.prog w=.ok (.slice (some ⟨b,0,none⟩) (n+1) c) (w.setRow b (Go.splice L (n*6) vs).toArray):=fun ty=>by
  have:=a1s (P:=Tryz.prog) (w:=w) (ty:=ty) (ts:=#[23,23]) rfl rfl Tryz.underlying23 Tryz.underlying23 hi0 hf hroom hb (by simp only[ybA];rw[hsz];omega) h2;rw[hsz]at this;simpa[Go.splice]using this
 go_enter Tryz.func249,Tryz.ntmps249
 go_wp2_with (at_builtin;refine a0f rfl _ _ _ _ rfl _ _ rfl rfl (hap _) ?_)
 all_goals (go_ret;exact ⟨rfl,rfl⟩)
set_option maxHeartbeats 4000000 in
set_option maxRecDepth 100000 in
theorem b4c {w:World} {base:Option Addr} {n c vb vo vc:Nat} {olds vs:List Value} (hnc:n≤c) (hroom:c<n+1) (hlim:n+1≤1073741824) (hvl:vs.length=6)
 (hnil:base=none→n=0) (hol:olds.length=n*6) (hos:∀a,base=some a→∀j v,olds[j]?=some v→w.cell? (a.add j)=some v)
 (hvs:∀j v,vs[j]?=some v→w.cell? ⟨vb,vo+j,none⟩=some v) :
 Calls Tryz.prog 249 #[.slice base n c,.int .i64 n,.slice (some ⟨vb,vo,none⟩) 1 vc] w fun e w'=>
  ∃cap zs,e=.returned (.slice (some ⟨w.heap.size,0,none⟩) (n+1) cap)∧w'=w.drew.alloc (.cells (olds++(vs++zs)).toArray 77)∧n+1≤cap∧zs.length=(cap-(n+1))*6:=by
 obtain ⟨i0,z0,hi0,hz0,hzs,hsz,hby⟩:=a5m;have hf:=run_firstCells_some (P:=Tryz.prog) w.drew i0.size 1 ⟨vb,vo,none⟩ 1 vc vs (by omega) (fun j v hj=>by rw[Addr.add_lit];exact hvs j v hj);have hold:(Builtin.firstCells i0.size n (.slice base n c)).run Tryz.prog w.drew=.ok olds.toArray w.drew:=by
  cases base with
  |none=>
   have h0:=hnil rfl;subst h0;rw[ybp.1 (by omega:olds.length=0)];exact run_firstCells_none w.drew _ 0 0 c
  |some a=>exact run_firstCells_some w.drew _ n a n c olds (by rw[hsz];omega) (fun j v hj=>hos a rfl j v hj)
 have hap:∀ty,(Builtin.append_ #[23,23] ty #[.slice base n c,.slice (some ⟨vb,vo,none⟩) 1 vc]).run Tryz.prog w=_:=fun ty=>
  a1t (P:=Tryz.prog) (w:=w) (ty:=ty) (ts:=#[23,23]) rfl rfl Tryz.underlying23 Tryz.underlying23 hi0 hz0 hf hold hroom (by omega) (a9k hroom hlim hby)
 have hge:=a1b w (n+1) c 77;obtain ⟨G,hG⟩:∃G,G=grownCap w (n+1) c 77:=⟨_,rfl⟩
 obtain ⟨zs,hzs'⟩:∃zs,zs=(Builtin.zeroCells z0.cells (G-(n+1))).toList:=⟨_,rfl⟩
 rw[←hG]at hap hge;rw[←hzs']at hap;have hzl:zs.length=(G-(n+1))*6:=by rw[hzs',ya4,size_zeroCells,hzs]
 clear hG hzs'
 go_enter Tryz.func249,Tryz.ntmps249
 cases base with
 |none=>
  have h0:=hnil rfl;subst h0
  go_wp2_with (at_builtin;refine a0f rfl _ _ _ _ rfl _ _ rfl rfl (hap _) ?_)
  all_goals (go_ret;first|exact ⟨_,_,rfl,rfl,hge,hzl⟩|exact ⟨_,rfl,_,rfl,hge,hzl⟩)
 |some a=>
  obtain ⟨ab,ao,asp⟩:=a
  go_wp2_with (at_builtin;refine a0f rfl _ _ _ _ rfl _ _ rfl rfl (hap _) ?_)
  all_goals (go_ret;first|exact ⟨_,_,rfl,rfl,hge,hzl⟩|exact ⟨_,rfl,_,rfl,hge,hzl⟩)
set_option maxHeartbeats 4000000 in
set_option maxRecDepth 100000 in
theorem b1u {w:World} {b n c i vb vo vc:Nat} {L vs:List Value} {t:TypeId} (hi:i<n) (hnc:n≤c) (hroom:c<n+1) (hlim:n+1≤1073741824) (hvb:vb≠b)
 (hb:w.heap[b]?=some (.cells L.toArray t (0,0))) (hL:L.length=c*6) (hvl:vs.length=6)
 (hvs:∀j v,vs[j]?=some v→w.cell? ⟨vb,vo+j,none⟩=some v) (h1:∀v∈(L.drop (i*6)).take ((n-i)*6),v.oneCell'=true) (h2:∀v∈vs,v.oneCell'=true) :
 Calls Tryz.prog 249 #[.slice (some ⟨b,0,none⟩) n c,.int .i64 i,.slice (some ⟨vb,vo,none⟩) 1 vc] w fun e w'=>
  ∃cap row,e=.returned (.slice (some ⟨w.heap.size,0,none⟩) (n+1) cap)∧n+1≤cap∧row.length=cap*6∧row.take (i*6)=L.take (i*6)∧
   w'.heap=(w.heap.push (.cells (Go.splice (Go.splice row (i*6) vs) ((i+1)*6) ((L.drop (i*6)).take ((n-i)*6))).toArray 77))∧w'.os=w.os∧w'.output=w.output∧w'.tape=w.tape:=by
 obtain ⟨i0,z0,hi0,hz0,hzs,hsz,hby⟩:=a5m;have hz2:¬((i:Int)=(n:Int)):=by omega
 have hz3:(c:Int)<(n:Int)+1:=by omega
 have hLn:n*6≤L.length:=by rw[hL];exact yaq _ hnc
 have hbw:b<w.heap.size:=(yah.1 hb).1;have hvw:vb<w.heap.size:=by
  have h:=hvs 0 _ (yab (by omega));unfold World.cell? at h;split at h
  ·rename_i c0 t0 f0 hc0;exact (yah.1 hc0).1
  ·cases h
 have hkk:(n:Int)+1-(i:Int)=((n+1-i:Nat):Int):=by omega
 have hik:i+(n+1-i)=n+1:=by omega
 have hTl:(L.take (i*6)).length=i*6:=by simp;omega
 have hold:(Builtin.firstCells i0.size i (.slice (some ⟨b,0,none⟩) i c)).run Tryz.prog w.drew=.ok (L.take (i*6)).toArray w.drew:=by
  refine run_firstCells_some w.drew _ i ⟨b,0,none⟩ i c (L.take (i*6)) (by rw[hsz];exact hTl) (fun j v hj=>?_);rw[Addr.add_lit,yaH];show w.cell? _=_
  simp only[World.cell?,hb];rw[yaz]at hj;split at hj
  ·simpa using hj
  ·cases hj
 have hrz:∀ty,(Builtin.append_ #[23,3] ty #[.slice (some ⟨b,0,none⟩) i c,.int .i64 ((n:Int)+1-(i:Int))]).run Tryz.prog w =
  .ok (.slice (some ⟨w.heap.size,0,none⟩) (n+1) (grownCap w (n+1) c 77)) (w.drew.alloc (.cells ((L.take (i*6)).toArray++Builtin.zeroCells z0.cells (n+1-i)++Builtin.zeroCells z0.cells (grownCap w (n+1) c 77-(n+1))) 77)):=fun ty=>by
  have h:=Lib.run_append_grow_zeros w 23 3 ty 77 i0 _ .i64 .i64 Tryz.underlying23 Tryz.underlying3 hi0 hz0 (some ⟨b,0,none⟩) i c _ hold (n+1-i) (by omega) (by omega) (by omega) (by omega)
   (ya6 (ybT (show n+1-i≤1073741824 by omega) hby) (by decide)) (by rw[hik];exact a9k hroom hlim hby)
  rw[hik]at h;rw[hkk];exact h
 have hge:=a1b w (n+1) c 77;obtain ⟨G,hG⟩:∃G,G=grownCap w (n+1) c 77:=⟨_,rfl⟩
 rw[←hG]at hrz hge;have hG63:G≤9223372036854775807:=by
  have:=grownCap_le_maxLen w (n+1) c 77 (by unfold maxLen;omega);rw[←hG]at this;unfold maxLen at this;omega
 obtain ⟨R,hR⟩:∃R:List Value,R=L.take (i*6)++((Builtin.zeroCells z0.cells (n+1-i)).toList++(Builtin.zeroCells z0.cells (G-(n+1))).toList):=⟨_,rfl⟩
 have hRl:R.length=G*6:=by
  rw[hR];simp only[yaM,ya4,size_zeroCells,hzs,hTl];rw[←ya2,←ya2];congr 1;omega
 have hRt:R.take (i*6)=L.take (i*6):=by rw[hR,List.take_append_of_le_length (by omega),ybU (by omega)]
 have hRe:(L.take (i*6)).toArray++Builtin.zeroCells z0.cells (n+1-i)++Builtin.zeroCells z0.cells (G-(n+1))=R.toArray:=by
  rw[hR];apply Array.ext';simp
 rw[hRe]at hrz;obtain ⟨C1,hC1⟩:∃C1,C1=(L.drop (i*6)).take ((n-i)*6):=⟨_,rfl⟩
 have hC1l:C1.length=(n-i)*6:=by rw[hC1];simp;omega
 have hGn:(n+1)*6≤R.length:=by rw[hRl];exact yaq _ hge
 obtain ⟨M1,hM1⟩:∃M1,M1=Go.splice R (i*6) vs:=⟨_,rfl⟩
 have hM1l:M1.length=R.length:=by rw[hM1];exact length_splice _ _ _ (by omega)
 rw[←hC1];obtain ⟨gb,hgb⟩:∃gb,gb=w.heap.size:=⟨_,rfl⟩
 have hnew:∀W:World,W.heap=w.heap.push (.cells R.toArray 77)→W.heap[gb]?=some (.cells R.toArray 77 (0,0)):=fun W hW=>by rw[hW,hgb];simp
 have hpast:∀W:World,W.heap=w.heap.push (.cells R.toArray 77)→∀k,k<w.heap.size→W.heap[k]?=w.heap[k]?:=fun W hW k hk=>by rw[hW,ybz hk];simp[hk]
 have hcpA:∀(W:World),W.heap=w.heap.push (.cells R.toArray 77)→∀ty dc,(Builtin.copy_ #[23,23] ty #[.slice (some ⟨gb,i*6,none⟩) (n+1-i) dc,.slice (some ⟨vb,vo,none⟩) 1 vc]).run Tryz.prog W=.ok (goInt 1) (W.setRow gb M1.toArray):=fun W hW ty dc=>by
  have hmin:Nat.min 1 (n+1-i)=1:=by show min _ _=_;omega
  have:=a0e (P:=Tryz.prog) (w:=W) (sT:=23) (ty:=ty) (dCap:=dc) (sCap:=vc) (dLen:=n+1-i) (sLen:=1) (o:=i*6) (a:=⟨vb,vo,none⟩) Tryz.underlying23 hi0 hsz (g:=gb) (t:=77) (L:=R) (hnew W hW) (cs:=vs) (by rw[hmin];omega)
   (fun j v hj=>by
    rw[Addr.add_lit];unfold World.cell?;rw[show W.heap[(⟨vb,vo+j,none⟩:Addr).block]?=w.heap[vb]? from hpast W hW vb hvw];exact hvs j v hj) (by omega) h2
  rw[hmin,←hM1]at this;exact this
 have hcpB:∀(W W0:World),W0.heap=w.heap.push (.cells R.toArray 77)→W.heap=(W0.setRow gb M1.toArray).heap→∀ty dc sc,(Builtin.copy_ #[23,23] ty #[.slice (some ⟨gb,(i+1)*6,none⟩) (n-i) dc,.slice (some ⟨b,i*6,none⟩) (n-i) sc]).run Tryz.prog W=.ok (goInt ((n-i:Nat):Int)) (W.setRow gb (Go.splice M1 ((i+1)*6) C1).toArray):=fun W W0 hW0 hW ty dc sc=>by
  have hmin:Nat.min (n-i) (n-i)=n-i:=by show min _ _=_;omega
  have:=a0e (P:=Tryz.prog) (w:=W) (sT:=23) (ty:=ty) (dCap:=dc) (sCap:=sc) (dLen:=n-i) (sLen:=n-i) (o:=(i+1)*6) (a:=⟨b,i*6,none⟩) Tryz.underlying23 hi0 hsz (g:=gb) (t:=77) (L:=M1) (by rw[hW];exact setRow_heap _ _ _ _ _ _ (hnew W0 hW0)) (cs:=C1) (by rw[hmin];exact hC1l)
   (fun j v hj=>by
    rw[Addr.add_lit];unfold World.cell?;have e:W.heap[(⟨b,i*6+j,none⟩:Addr).block]?=w.heap[b]?:=by
     show W.heap[b]?=_
     rw[hW,setRow_other _ _ _ _ (by omega),hpast W0 hW0 b hbw]
    rw[e,hb];rw[hC1,yaz]at hj;split at hj
    ·simpa using hj
    ·cases hj) (by omega) (by rw[hC1];exact h1)
  rw[hmin]at this;exact this
 have hw1:IntKind.i64.wrap ((i:Int)+1)=(i:Int)+1:=by rw[IntKind.wrap_i64];omega
 have hb1:(0:Int)≤(i:Int)+1:=by omega
 have hin:i≤n:=by omega
 have htn:((i:Int)+1).toNat=i+1:=by omega
 have hb3:(i:Int)≤(n:Int):=by omega
 have hGi:¬(G=i):=by omega
 have hGim:¬(G=i+1):=by omega
 have hci:¬(c=i):=by omega
 have hmixed:Tryz.prog.follows .mixedOrders=true:=kr;have mixed:=hmixed;have hfin:∀W W0:World,W0.heap=w.heap.push (.cells R.toArray 77)→W.heap=(W0.setRow gb M1.toArray).heap→(W.setRow gb (Go.splice M1 ((i+1)*6) C1).toArray).heap=w.heap.push (.cells (Go.splice M1 ((i+1)*6) C1).toArray 77):=fun W W0 hW0 hW=>by
  have h1:W.heap[gb]?=some (.cells M1.toArray 77 (0,0)):=by rw[hW];exact setRow_heap _ _ _ _ _ _ (hnew W0 hW0)
  have hsz0:W.heap.size=w.heap.size+1:=by rw[hW,setRow_size,hW0];simp
  apply Array.ext_getElem?;intro k;by_cases hk:k=gb
  ·subst hk;rw[setRow_heap _ _ _ _ _ _ h1,hgb];simp
  ·rw[setRow_other _ _ _ _ hk];by_cases hk2:k<w.heap.size
   ·rw[hW,setRow_other _ _ _ _ hk,hpast W0 hW0 k hk2,ybz hk2];simp[hk2]
   ·rw[ybm (by omega),ybm (by simp;omega)]
 have hMM:Go.splice (Go.splice R (i*6) vs) ((i+1)*6) C1=Go.splice M1 ((i+1)*6) C1:=by rw[hM1]
 subst hgb;have hcpA':=hcpA ((w.alloc (.cells R.toArray 77)).drew) rfl;clear hkk hcpA hik hold hG hR hRe hC1 hM1 hC1l hM1l h1 h2 hvs hL hTl
 go_enter Tryz.func249,Tryz.ntmps249
 go_wp2_with (at_builtin;refine a0f rfl _ _ _ _ rfl _ _ rfl rfl (hrz _) ?_)
 go_region_law_o (refine a3b rfl _ _ 23 23 rfl (.slice (some ⟨w.heap.size,(i+1)*6,none⟩) (n-i) (G-(i+1))) (.slice (some ⟨b,i*6,none⟩) (n-i) (c-i)) (by simp[Act.eval,Act.put]) (by simp[Act.eval,Act.put]) (hcpB (((w.alloc (.cells R.toArray 77)).drew.setRow w.heap.size M1.toArray).drew) (w.drew.alloc (.cells R.toArray 77)) rfl rfl 3 (G-(i+1)) (c-i)) ?_)
 go_wp2
 go_ret
 refine ⟨G,R,rfl,hge,hRl,hRt,?_,rfl,rfl,rfl⟩;rw[hMM];exact hfin _ (w.drew.alloc (.cells R.toArray 77)) rfl rfl
end
section
theorem d1e:∃i0 z,Tryz.prog.info? 79=some i0∧i0.zero=some z∧z.cells.size=6∧i0.size=6∧∀v∈z.cells,v.oneCell'=true:=by
 have h:(match Tryz.prog.info? 79 with|some i=>(match i.zero with|some z=>Nat.beq z.cells.size 6&&Nat.beq i.size 6&&z.cells.toList.all (·.oneCell')|none=>false)|none=>false)=true:=kr;split at h
 ·rename_i i hi;split at h
  ·rename_i z hz;simp only[yad]at h;exact ⟨i,z,hi,hz,ybn h.1.1,ybn h.1.2,fun v hv=>yak.1 h.2 v (by simpa using hv)⟩
  ·cases h
 ·cases h
set_option maxHeartbeats 4000000 in
set_option maxRecDepth 100000 in
theorem b64 {w:World} {base:Option Addr} {n c i:Nat} (hnc:n≤c) (hi:i≤n) :
 Calls Tryz.prog 313 #[.slice base n c,.int .i64 i,.int .i64 i] w fun e w'=>e=.returned (.slice base n c)∧w'=w:=by
 cases base with
 |none=>
  go_enter Tryz.func313,Tryz.ntmps313
  go_wp2
  all_goals (go_ret;exact ⟨rfl,rfl⟩)
 |some a=>
  obtain ⟨ab,ao,asp⟩:=a
  go_enter Tryz.func313,Tryz.ntmps313
  go_wp2
  all_goals (go_ret;exact ⟨rfl,rfl⟩)
set_option maxHeartbeats 4000000 in
set_option maxRecDepth 100000 in
theorem b65 {w:World} {b n c i j:Nat} {L:List Value} {t:TypeId} (hij:i<j) (hj:j≤n) (hnc:n≤c)
 (hb:w.heap[b]?=some (.cells L.toArray t (0,0))) (hL:L.length=c*6) (h1:∀v∈(L.drop (j*6)).take ((n-j)*6),v.oneCell'=true) :
 Calls Tryz.prog 313 #[.slice (some ⟨b,0,none⟩) n c,.int .i64 i,.int .i64 j] w fun e w'=>
  e=.returned (.slice (some ⟨b,0,none⟩) (i+(n-j)) c)∧∃(M0:Array Value) (zs:List Value),zs.length=(j-i)*6∧w'=(w.drew.setRow b M0).setRow b (Go.splice (Go.splice L (i*6) ((L.drop (j*6)).take ((n-j)*6))) ((i+(n-j))*6) zs).toArray:=by
 obtain ⟨i0,z0,hi0,hz0,hzs,hsz,hz1⟩:=d1e;have hLn:n*6≤L.length:=by rw[hL];exact yaq _ hnc
 obtain ⟨C1,hC1⟩:∃C1,C1=(L.drop (j*6)).take ((n-j)*6):=⟨_,rfl⟩
 have hC1l:C1.length=(n-j)*6:=by rw[hC1];simp;omega
 obtain ⟨M1,hM1⟩:∃M1,M1=Go.splice L (i*6) C1:=⟨_,rfl⟩
 have hM1l:M1.length=L.length:=by rw[hM1];exact length_splice _ _ _ (by omega)
 rw[←hC1,←hM1];obtain ⟨A,hA,hsrc⟩:∃A:Addr,(if c=j then some (⟨b,0,none⟩:Addr) else some ⟨b,j*6,none⟩)=some A∧∀q v,C1[q]?=some v→w.drew.cell? (A.add q)=some v:=by
  by_cases h:c=j
  ·refine ⟨⟨b,0,none⟩,by simp[h],fun q v hq=>?_⟩;have:=(zL hq)
   omega
  ·refine ⟨⟨b,j*6,none⟩,by simp[h],fun q v hq=>?_⟩;rw[Addr.add_lit];show w.cell? _=_
   simp only[World.cell?,hb];rw[hC1,yaz]at hq;split at hq
   ·simpa using hq
   ·cases hq
 have hf:∀xc,(Builtin.firstCells i0.size (n-j) (.slice (some A) (n-j) xc)).run Tryz.prog w.drew=.ok C1.toArray w.drew:=fun xc=>run_firstCells_some (P:=Tryz.prog) w.drew i0.size (n-j) A (n-j) xc C1 (by rw[hsz];exact hC1l) hsrc
 have hone:∀v∈C1,v.oneCell'=true:=by rw[hC1];exact h1
 have hap:∀ty xc,(Builtin.append_ #[24,24] ty #[.slice (some ⟨b,0,none⟩) i c,.slice (some A) (n-j) xc]).run Tryz.prog w.drew=.ok (.slice (some ⟨b,0,none⟩) (i+(n-j)) c) (w.drew.setRow b M1.toArray):=fun ty xc=>by
  have:=a1s (P:=Tryz.prog) (w:=w.drew) (ty:=ty) (ts:=#[24,24]) rfl rfl Tryz.underlying24 Tryz.underlying24 hi0 (hf xc) (sLen:=i) (sCap:=c) (by omega) hb (by simp only[ybA];rw[hsz];omega) hone;rw[hsz]at this;rw[hM1];simpa[Go.splice]using this
 obtain ⟨zs,hzs'⟩:∃zs,zs=(Builtin.zeroCells z0.cells (j-i)).toList:=⟨_,rfl⟩
 have hzl:zs.length=(j-i)*6:=by rw[hzs',ya4,Go.size_zeroCells,hzs]
 have hcl:∀ty cc,(Builtin.clear_ #[24] ty #[.slice (some ⟨b,(i+(n-j))*6,none⟩) (n-(i+(n-j))) cc]).run Tryz.prog (w.drew.setRow b M1.toArray)=.ok (.tuple #[]) ((w.drew.setRow b M1.toArray).setRow b (Go.splice M1 ((i+(n-j))*6) zs).toArray):=fun ty cc=>by
  have e:n-(i+(n-j))=j-i:=by omega
  rw[e,hzs'];exact c6a (P:=Tryz.prog) (w:=w.drew.setRow b M1.toArray) Tryz.underlying24 hi0 hz0 (by omega) (setRow_heap _ _ _ _ _ _ hb) (by rw[hzs];omega) hz1
 have hic:i≤c:=by omega
 have hjc:j≤c:=by omega
 have mixed:Tryz.prog.follows .mixedOrders=true:=kr;clear hC1 hM1 hC1l hM1l h1 hL hf hone hzs'
 go_enter Tryz.func313,Tryz.ntmps313
 go_wp2_with fail
 go_region_law_o (refine d3j rfl (.tmp 22) (.tmp 25) 24 24 rfl (.slice (some ⟨b,0,none⟩) i c) (.slice (some A) (n-j) (c-j)) (by simp[Act.eval,Act.put]) (by simp[Act.eval,Act.put]) (hap _ _) ?_)
 go_wp2
 go_ret
 exact ⟨rfl,_,zs,hzl,rfl⟩
end
end Go.Proofs.YteaknldbhmocpaaGreatDoor
namespace Go.Proofs
open Go.Shelf
def Tryz.laysM171_ren:Go.Shelf.Ren:=⟨fun|171=>46|243=>94|246=>158|283=>227|284=>228|285=>229|286=>230|129=>144|317=>276|318=>277|319=>278|320=>279|337=>300|338=>301|n=>n,fun|3=>3|9=>9|2=>2|4=>4|171=>224|0=>0|53=>166|37=>226|5=>5|173=>227|212=>254|51=>164|20=>20|213=>255|46=>110|232=>296|233=>297|n=>n,fun|17=>0|18=>4|19=>5|n=>n⟩
theorem Tryz.laysM171:Go.Proofs.LaysM.n171 Tryz.prog Tryz.laysM171_ren:={
 mixed:=by kernel_rfl
 f129:=Tryz.func144.trans (congrArg some (by kernel_rfl))
 f171:=Tryz.func46.trans (congrArg some (by kernel_rfl))
 f243:=Tryz.func94.trans (congrArg some (by kernel_rfl))
 f246:=Tryz.func158.trans (congrArg some (by kernel_rfl))
 f283:=Tryz.func227.trans (congrArg some (by kernel_rfl))
 f284:=Tryz.func228.trans (congrArg some (by kernel_rfl))
 f285:=Tryz.func229.trans (congrArg some (by kernel_rfl))
 f286:=Tryz.func230.trans (congrArg some (by kernel_rfl))
 f317:=Tryz.func276.trans (congrArg some (by kernel_rfl))
 f318:=Tryz.func277.trans (congrArg some (by kernel_rfl))
 f319:=Tryz.func278.trans (congrArg some (by kernel_rfl))
 f320:=Tryz.func279.trans (congrArg some (by kernel_rfl))
 f337:=Tryz.func300.trans (congrArg some (by kernel_rfl))
 f338:=Tryz.func301.trans (congrArg some (by kernel_rfl))
 t0:=Tryz.underlying0
 a0:=Tryz.isAgg0
 z0:=Tryz.sizeOf0
 v0:=Tryz.zeroValue0
 t2:=Tryz.underlying2
 a2:=Tryz.isAgg2
 z2:=Tryz.sizeOf2
 v2:=Tryz.zeroValue2
 t3:=Tryz.underlying3
 a3:=Tryz.isAgg3
 z3:=Tryz.sizeOf3
 v3:=Tryz.zeroValue3
 t4:=Tryz.underlying4
 a4:=Tryz.isAgg4
 z4:=Tryz.sizeOf4
 v4:=Tryz.zeroValue4
 t5:=Tryz.underlying5
 a5:=Tryz.isAgg5
 z5:=Tryz.sizeOf5
 v5:=Tryz.zeroValue5
 t9:=Tryz.underlying9
 a9:=Tryz.isAgg9
 z9:=Tryz.sizeOf9
 v9:=Tryz.zeroValue9
 t20:=Tryz.underlying20
 a20:=Tryz.isAgg20
 z20:=Tryz.sizeOf20
 v20:=Tryz.zeroValue20
 t37:=Tryz.underlying226
 a37:=Tryz.isAgg226
 z37:=Tryz.sizeOf226
 v37:=Tryz.zeroValue226
 t46:=Tryz.underlying110
 a46:=Tryz.isAgg110
 z46:=Tryz.sizeOf110
 v46:=Tryz.zeroValue110
 t51:=Tryz.underlying164
 a51:=Tryz.isAgg164
 z51:=Tryz.sizeOf164
 v51:=Tryz.zeroValue164
 t53:=Tryz.underlying166
 a53:=Tryz.isAgg166
 z53:=Tryz.sizeOf166
 v53:=Tryz.zeroValue166
 t171:=Tryz.underlying224
 a171:=Tryz.isAgg224
 z171:=Tryz.sizeOf224
 v171:=Tryz.zeroValue224
 t173:=Tryz.underlying227
 a173:=Tryz.isAgg227
 z173:=Tryz.sizeOf227
 v173:=Tryz.zeroValue227
 t212:=Tryz.underlying254
 a212:=Tryz.isAgg254
 z212:=Tryz.sizeOf254
 v212:=Tryz.zeroValue254
 t213:=Tryz.underlying255
 a213:=Tryz.isAgg255
 z213:=Tryz.sizeOf255
 t232:=Tryz.underlying296
 a232:=Tryz.isAgg296
 z232:=Tryz.sizeOf296
 v232:=Tryz.zeroValue296
 t233:=Tryz.underlying297
 a233:=Tryz.isAgg297
 z233:=Tryz.sizeOf297
 v233:=Tryz.zeroValue297
 g17:=by kernel_rfl
 g18:=by kernel_rfl
 g19:=by kernel_rfl
 i0:=by kernel_rfl
 i2:=by kernel_rfl
 i3:=by kernel_rfl
 i4:=by kernel_rfl
 i5:=by kernel_rfl
 i9:=by kernel_rfl
 i20:=by kernel_rfl
 i37:=by kernel_rfl
 i46:=by kernel_rfl
 i51:=by kernel_rfl
 i53:=by kernel_rfl
 i171:=by kernel_rfl
 i173:=by kernel_rfl
 i212:=by kernel_rfl
 i232:=by kernel_rfl
 i233:=by kernel_rfl
 m17:=by kernel_rfl
 m18:=by kernel_rfl
 m19:=by kernel_rfl}
open Go.RowKit Go.Sort Go.Lib in
theorem Tryz.qd7 (n:Int) (h0 : -9223372036854775808≤n) (h1:n≤9223372036854775807) (w:World) (htab:Lib.TabIs Tryz.prog w "internal/strconv.uint64pow10" .u64 Lib.pow10Tab) :
 Calls Tryz.prog 46 #[.int .i64 n] w fun e w'=>e=.returned (.string ⟨(Lib.itoa n).toArray⟩)∧∃k os,w'=grow (w.drewN k) os:=Any.strconv_Itoa Tryz.laysM171 n h0 h1 w htab
end Go.Proofs
namespace Go.Proofs.YteaknldbhmocpaaGreatDoor
section
open Go Ev
open Go.Lib Go.RowKit
set_option maxRecDepth 100000
theorem e5r:∀(f u:Nat) (a:List UInt8),u<10 ^ f→g6f f u a=if f=0 then a else Lib.decDigits u++a:=by
 intro f
 induction f with
 |zero=>intro u a _;rfl
 |succ f ih=>
  intro u a h;rw[yar (by omega),Lib.decDigits];simp only[g6f,b9,yae];by_cases h1:u<10
  ·rw[yaJ h1,dif_pos h1];rfl
  ·rw[yar h1,dif_neg h1,ih _ _ (by rw[Nat.pow_succ]at h;omega)];have hf:f≠0:=fun e=>by subst e;simp at h;omega
   rw[yar hf,ybl];rfl
theorem g0w {n:Int} {s:List UInt8} (h:qd7 n=some s):(-9223372036854775808≤n∧n≤9223372036854775807)∧s=Lib.itoa n:=by
 unfold qd7 at h;rw[b9]at h;split at h
 ·rename_i hr;rw[yad,yae,yae]at hr;cases h
  refine ⟨hr,?_⟩;have hd:g6f 20 n.natAbs []=Lib.decDigits n.natAbs:=by
   rw[e5r 20 _ _ (by have:(10:Nat) ^ 20=100000000000000000000:=rfl;omega)];simp
  unfold Lib.itoa;rw[hd,b9];by_cases hn:n<0
  ·simp[hn]
  ·simp only[hn,decide_false,ybk,yaF];rw[show n.toNat=n.natAbs by omega]
 ·cases h
theorem d3k {w:World} {I:Nat→Nat→Prop} {mb:List Nat} (h:b3y sg w I) (hb:d0k sg w mb):Lib.TabIs Tryz.prog w "internal/strconv.uint64pow10" .u64 Lib.pow10Tab:=by
 obtain ⟨-,cs,t,m,h1,h2⟩:=hb 0 .ku64 i6 kr kr;unfold Lib.TabIs World.var?;rw[show Tryz.prog.globalNamed "internal/strconv.uint64pow10" = some 0 by kernel_rfl];simp only[ybR,h1];have hlen:i6.length=20:=by simp[i6]
 replace h2:cs.size=i6.length*1:=h2;refine congrArg some (Array.ext ?_ (fun i hi1 hi2=>?_))
 ·rw[h2];simp[hlen,Lib.pow10Tab]
 ·have hl:i<i6.length:=by omega
  obtain ⟨v,k1,-,k3⟩:=h 0 .ku64 i6 kr i hl 0 (.int .u64 i6[i]) rfl;rw[k3.int_inv]at k1;replace k1:w.cell? ⟨0,i*1+0,none⟩=some (.int .u64 i6[i]):=k1;rw[yb0,ybe]at k1;unfold World.cell? at k1;simp only[h1]at k1;have e:cs[i]=.int .u64 i6[i]:=by simpa[hi1]using k1
  rw[e];simp[i6,Lib.pow10Tab]
theorem g0u {w:World} {I J:Nat→Nat→Prop} {vs:Array Value} {n:Int} (ha:b6j sg w I J vs [.int .i64 n]):vs = #[.int .i64 n]:=by
 obtain ⟨h1,h2⟩:=ha;have h1:vs.size=1:=h1;have h0:=h2 0 vs[0] (.int .i64 n) (yan (by omega)) rfl;apply Array.ext
 ·simp[h1]
 ·intro i hi1 hi2;have:i=0:=by omega
  subst this;simpa using h0.int_inv
theorem h2z:fnB Tryz.prog 46 Tryz.f46 []=true:=kr
theorem f8r:∀ds a r,d4a.dec ds=some a→f2x a=some r→Con Tryz.prog sg 46 ds [] (f4g.enc r) []:=by
 intro ds a r hd hf;obtain ⟨code,fok,-,-⟩:=u9 Tryz.func46 h2z;have hac:j9 d4a:=j9.cons (f8.int _) j9.nil;have hw:=hac ds a hd;obtain ⟨n,⟨⟩⟩:=a;unfold Con;rw[show sg.md 46=.data by kernel_rfl];intro _ w I J vs hp ha;have hv:=g0u (n:=n) (hw.args ha);subst hv;obtain ⟨⟨h1,h2⟩,hr⟩:=g0w (n:=n) (s:=r) hf;subst hr;unfold a1f;rw[MuLone.run_callFunc_enter fok.at_ fok.name fok.body _ w];refine (Tryz.qd7 n h1 h2 w (d3k hp.gl hp.gb)).mono ?_;rintro e w' ⟨rfl,k,os,rfl⟩;have hb:=below_grow w.heap.size w (yat _) k os;exact ⟨I,⟨hb.size,hb.os,hb.output,hb.tape,hb.block,fun _ _ h=>h,fun _ _ h=>.inl h,fun b o hi=>yaY (hp.ib b o hi) hb.size⟩,.str ⟨(Lib.itoa n).toArray⟩⟩
end
section
set_option maxRecDepth 100000
open Ev
open Go
theorem g8k:fnB Tryz.prog 121 Tryz.f121 []=true:=kr
theorem d1n:InsOk Tryz.prog 121 (sg.sz Kd.kItem) 61:=⟨b4a,b7r,c0s,b7q⟩
theorem f8p:∀ds a r,d39.dec ds=some a→f2w a=some r→Con Tryz.prog sg 121 ds [] (f4f.enc r) []:=by
 intro ds a r hd hf;obtain ⟨code,fok,-,-⟩:=u9 Tryz.func121 g8k;have hac:j9 d39:=j9.cons (f8.lst _) (j9.cons (f8.int _) (j9.cons (f8.lst _) j9.nil));exact b60 good.sgk fok kr d1n (hac ds a hd) hf
theorem g8r:fnB Tryz.prog 249 Tryz.f249 []=true:=kr
theorem c0r:InsOk Tryz.prog 249 (sg.sz Kd.kPatron) 77:=⟨a97,b1v,b4c,b1u⟩
theorem f83:∀ds a r,d4c.dec ds=some a→f2z a=some r→Con Tryz.prog sg 249 ds [] (e0j.enc r) []:=by
 intro ds a r hd hf;obtain ⟨code,fok,-,-⟩:=u9 Tryz.func249 g8r;have hac:j9 d4c:=j9.cons (f8.lst _) (j9.cons (f8.int _) (j9.cons (f8.lst _) j9.nil));exact b60 good.sgk fok kr c0r (hac ds a hd) hf
theorem g8o:fnB Tryz.prog 201 Tryz.f201 []=true:=kr
theorem d1o:InsOk Tryz.prog 201 (sg.sz Kd.kLoan) 79:=⟨b4b,b7t,c0t,b7s⟩
theorem f8o:∀ds a r,d38.dec ds=some a→f2v a=some r→Con Tryz.prog sg 201 ds [] (f4e.enc r) []:=by
 intro ds a r hd hf;obtain ⟨code,fok,-,-⟩:=u9 Tryz.func201 g8o;have hac:j9 d38:=j9.cons (f8.lst _) (j9.cons (f8.int _) (j9.cons (f8.lst _) j9.nil));exact b60 good.sgk fok kr d1o (hac ds a hd) hf
theorem g8u:fnB Tryz.prog 313 Tryz.f313 []=true:=kr
theorem d1d:DelOk Tryz.prog 313 (sg.sz Kd.kLoan):=⟨b64,b65⟩
theorem d6k:∀ds a r,d4b.dec ds=some a→f2y a=some r→Con Tryz.prog sg 313 ds [] (f4h.enc r) []:=by
 intro ds a r hd hf;obtain ⟨code,fok,-,-⟩:=u9 Tryz.func313 g8u;have hac:j9 d4b:=j9.cons (f8.lst _) (j9.cons (f8.int _) (j9.cons (f8.int _) j9.nil));exact e5p good.sgk fok kr d1d (hac ds a hd) hf
end
section
open Go Ev
open Go.Lib Go.RowKit
set_option maxRecDepth 100000
theorem b8r {w:World} {I:Nat→Nat→Prop} (h:b3y sg w I):Lib.Utf8Tabs 1 2 w:=by
 constructor
 ·intro c hc;have hl:c<s7.length:=by simp[s7];exact hc
  obtain ⟨v,h1,-,h3⟩:=h 1 .ku8 s7 kr c hl 0 (.int .u8 s7[c]) rfl;rw[h3.int_inv]at h1;have e:s7[c]=(Lib.firstT c:Int):=by simp[s7]
  rw[e]at h1;have h1:w.cell? ⟨1,c*1+0,none⟩=_:=h1;rw[yb0,ybe]at h1;exact h1
 ·intro i hi;have hl:i<j6.length:=by simp[j6];exact hi
  obtain ⟨v,h1,-,h3⟩:=h 2 .kUtf8_acceptRange j6 kr i hl 0 (.int .u8 j6[i].lo) rfl;obtain ⟨v',k1,-,k3⟩:=h 2 .kUtf8_acceptRange j6 kr i hl 1 (.int .u8 j6[i].hi) rfl;rw[h3.int_inv]at h1;rw[k3.int_inv]at k1;have e:j6[i]=⟨(Lib.accLo i:Int),(Lib.accHi i:Int)⟩:=by simp[j6]
  rw[e]at h1 k1;have h1:w.cell? ⟨2,i*2+0,none⟩=_:=h1;have k1:w.cell? ⟨2,i*2+1,none⟩=_:=k1;rw[ybO,ybe]at h1;rw[ybO]at k1;exact ⟨h1,k1⟩
theorem b41 {w w':World} {I:Nat→Nat→Prop} (hi:∀b o,I b o→b<w.heap.size) (h:Below w.heap.size w w'):Grow w w' I I:=
 ⟨h.size,h.os,h.output,h.tape,h.block,fun _ _ h=>h,fun _ _ h=>.inl h,fun b o hb=>yaY (hi b o hb) h.size⟩
theorem e2u {w:World} {I J:Nat→Nat→Prop} {vs:Array Value} {l:List UInt8} (ha:b6j sg w I J vs [.str l]):∃b:ByteArray,vs = #[.string b]∧l=b.data.toList:=by
 obtain ⟨h1,h2⟩:=ha;have h1:vs.size=1:=h1;have h0:=h2 0 vs[0] (.str l) (yan (by omega)) rfl;generalize hv:vs[0]=v at h0;cases h0 with
 |str b=>
  refine ⟨b,?_,rfl⟩;apply Array.ext
  ·simp[h1]
  ·intro i hi1 hi2;have:i=0:=by omega
   subst this;simpa using hv
theorem g8l:fnB Tryz.prog 159 Tryz.f159 [4]=true:=kr
theorem f9j:∀ds a r,d4d.dec ds=some a→f22 a=some r→Con Tryz.prog sg 159 ds [] (f4k.enc r) []:=by
 intro ds a r hd hf;obtain ⟨code,fok,-,-⟩:=u9 Tryz.func159 g8l;have hac:j9 d4d:=j9.cons f8.str j9.nil;have hw:=hac ds a hd;obtain ⟨l,⟨⟩⟩:=a;unfold Con;rw[show sg.md 159=.data by kernel_rfl];intro _ w I J vs hp ha;obtain ⟨b,rfl,rfl⟩:=e2u (l:=l) (hw.args ha);replace hf:(bif decide (b.data.toList.length≤LIM) then some (vld b.data.toList) else none)=some r:=hf;rw[b9]at hf;split at hf
 ·rename_i hle;cases hf
  rw[yae,←Lib.size_eq]at hle;unfold a1f;rw[MuLone.run_callFunc_enter fok.at_ fok.name fok.body _ w];refine (d3n b w hle (b8r hp.gl)).mono ?_;rintro e w' ⟨rfl,hb⟩;exact ⟨I,b41 hp.ib hb,.bool _⟩
 ·cases hf
theorem g8q:fnB Tryz.prog 236 Tryz.f236 []=true:=kr
theorem f9k:∀ds a r,d4e.dec ds=some a→f25 a=some r→Con Tryz.prog sg 236 ds [] (f4l.enc r) []:=by
 intro ds a r hd hf;obtain ⟨code,fok,-,-⟩:=u9 Tryz.func236 g8q;have hac:j9 d4e:=j9.cons f8.str j9.nil;have hw:=hac ds a hd;obtain ⟨l,⟨⟩⟩:=a;unfold Con;rw[show sg.md 236=.data by kernel_rfl];intro _ w I J vs hp ha;obtain ⟨b,rfl,rfl⟩:=e2u (l:=l) (hw.args ha);replace hf:(bif decide (b.data.toList.length≤LIM)&&vld b.data.toList then some (cln b.data.toList) else none)=some r:=hf;rw[b9]at hf;split at hf
 ·rename_i hle;cases hf
  rw[yad,yae,←Lib.size_eq]at hle;unfold a1f;rw[MuLone.run_callFunc_enter fok.at_ fok.name fok.body _ w];refine (d09 b w hle.1 hle.2).mono ?_;rintro e w' ⟨rfl,hb⟩;exact ⟨I,b41 hp.ib hb,.str ⟨(cln b.data.toList).toArray⟩⟩
 ·cases hf
theorem f8b:∀ds a r,e94.dec ds=some a→f2s a=some r→Con Tryz.prog sg 325 ds [] (f4c.enc r) []:=fun ds a r hd hf=>by cases hf
end
section
set_option maxRecDepth 100000
open Ev
open Go (IntKind)
open Go
theorem d6t:SG Tryz.prog sg 70 @c6p:=g6e (loops:=l0) (ids:=[]) good Tryz.func70 kr kr cg0 c5 (fun a=>kr) kr
theorem d6m:SG Tryz.prog sg 122 @e14:=g6e (loops:=l0) (ids:=[]) good Tryz.func122 kr kr cg0 c5 (fun a=>kr) kr
theorem d6q:SG Tryz.prog sg 190 @e2f:=g6e (loops:=l0) (ids:=[]) good Tryz.func190 kr kr cg0 c5 (fun a=>kr) kr
theorem d6l:SG Tryz.prog sg 202 @e13:=g6e (loops:=l0) (ids:=[]) good Tryz.func202 kr kr cg0 c5 (fun a=>kr) kr
theorem f85:SG Tryz.prog sg 250 @e2e:=g6e (loops:=l0) (ids:=[]) good Tryz.func250 kr kr cg0 c5 (fun a=>kr) kr
def h3z {R:Type}:Nat→Sm R:=cl 35 c6k (cl 46 g4x (cl 70 c6p (cl 121 g4v (cl 122 e14 (cl 159 g5e (cl 190 e2f (cl 201 g4u (cl 202 e13 (cl 236 g5f (cl 249 g44 (cl 250 e2e (cl 313 g4z c0))))))))))))
theorem f6n:CG Tryz.prog sg @h3z:=(cgc (sgP c38) (cgc (sgP f8r) (cgc d6t (cgc (sgP f8p) (cgc d6m (cgc (sgP f9j) (cgc d6q (cgc (sgP f8o) (cgc d6l (cgc (sgP f9k) (cgc (sgP f83) (cgc f85 (cgc (sgP d6k) cg0)))))))))))))
def h3w:List Nat:=[9,12,14,16,19,21,22,29,30,31,32,33,34,40,41,42,48,49,50,51,52,53,64,66,67,68,69,71,72,73,74,75,76,77,78,79,81,85,95,96,97,98,99,100,101,102,103,105,106,116,117,118,119,120,123,124,126,127,128,130,131,134,140,144,149,150,160,161,162,163,164,165,167,171,173,175,176,177,178,187,191,194,195,196,197,198,200,209,211,212,232,233,235,240,241,242,243,244,245,246,247,248,252,256,257,258,259,260,266,267,268,269,289,290,292,294,295,296,306,308,309,310,312,321,323,324]
theorem h21:g6i Tryz.prog h3w=true:=kr
theorem e83:d00 Tryz.prog sg h3w @h3z 40 9 [] [] (fun d bs=>some (d,bs))=some (d0a.enc true,[]):=kr
theorem f8i:∀ds a r,e95.dec ds=some a→f2t a=some r→Con Tryz.prog sg 9 ds [] (d0a.enc r) []:=h39 (rc:=d0a) (r0:=true) good h21 f6n e83
end
section
set_option maxRecDepth 100000
open Ev
open Go (IntKind)
open Go
noncomputable abbrev ZP:=Tryz.prog
theorem e53:fnB ZP 23 Tryz.f23 [4,9,14]=true:=kr
theorem e5i:CG ZP sg @f5l:=cg0
theorem g09:d9 ZP sg 0 Tryz.f23 @b0f 4:=m7 d73 good Tryz.func23 e53 e5i c5 (fun a=>kr) kr (fun _ _=>rfl)
theorem g1a:d9 ZP sg 0 Tryz.f23 @b0f 9:=m7 d74 good Tryz.func23 e53 e5i c5 (fun a=>kr) kr (fun _ _=>rfl)
theorem e7h:d9 ZP sg 0 Tryz.f23 @b0f 14:=m7 c8w good Tryz.func23 e53 e5i c5 (fun a=>kr) kr (fun _ _=>rfl)
theorem g70:SG ZP sg 23 @h1r:=a1l (loops:=b0f) good Tryz.func23 e53 kr e5i (all_cons g09 (all_cons g1a (all_cons e7h c5))) (fun a=>kr)
theorem c4a:SG ZP sg 179 @c6m:=y3 good Tryz.func179 kr kr cg0 (fun a=>kr)
theorem f1t:fnB ZP 107 Tryz.f107 [2]=true:=kr
theorem f0k:CG ZP sg @e4k:=(cgc c4a cg0)
theorem e6v:d9 ZP sg 0 Tryz.f107 @c1b 2:=m7 c8a good Tryz.func107 f1t f0k c5 (fun a=>kr) kr (fun _ _=>rfl)
theorem d5n:SG ZP sg 107 @c6d:=a1l (loops:=c1b) good Tryz.func107 f1t kr f0k (all_cons e6v c5) (fun a=>kr)
theorem g73:SG ZP sg 180 @f4p:=y3 good Tryz.func180 kr kr (cgc c4a cg0) (fun a=>kr)
theorem f6z:SG ZP sg 181 @e00:=y3 good Tryz.func181 kr kr cg0 (fun a=>kr)
theorem f1u:fnB ZP 108 Tryz.f108 [4]=true:=kr
theorem f0w:CG ZP sg @e4w:=(cgc c4a (cgc g73 (cgc f6z cg0)))
theorem e67:d9 ZP sg 0 Tryz.f108 @c1n 4:=m7 c8m good Tryz.func108 f1u f0w c5 (fun a=>kr) kr (fun _ _=>rfl)
theorem f69:SG ZP sg 108 @e03:=a1l (loops:=c1n) good Tryz.func108 f1u kr f0w (all_cons e67 c5) (fun a=>kr)
theorem g8y:fnB ZP 54 Tryz.f54 [4]=true:=kr
theorem f01:CG ZP sg @e41:=(cgc d5n (cgc f69 cg0))
theorem e7c:d9 ZP sg 0 Tryz.f54 @c1s 4:=m7 c8r good Tryz.func54 g8y f01 c5 (fun a=>kr) kr (fun _ _=>rfl)
theorem f7e:SG ZP sg 54 @e05:=a1l (loops:=c1s) good Tryz.func54 g8y kr f01 (all_cons e7c c5) (fun a=>kr)
theorem g8z:fnB ZP 55 Tryz.f55 [4]=true:=kr
theorem f00:CG ZP sg @e40:=cg0
theorem e7b:d9 ZP sg 0 Tryz.f55 @c1r 4:=m7 c8q good Tryz.func55 g8z f00 c5 (fun a=>kr) kr (fun _ _=>rfl)
theorem f7d:SG ZP sg 55 @e04:=a1l (loops:=c1r) good Tryz.func55 g8z kr f00 (all_cons e7b c5) (fun a=>kr)
theorem d6b:SG ZP sg 182 @e1p:=y3 good Tryz.func182 kr kr cg0 (fun a=>kr)
theorem d6i:SG ZP sg 183 @e1z:=y3 good Tryz.func183 kr kr cg0 (fun a=>kr)
theorem f8y:SG ZP sg 109 @e19:=y3 good Tryz.func109 kr kr (cgc d6b (cgc d6i cg0)) (fun a=>kr)
theorem e54:fnB ZP 56 Tryz.f56 [4,12,15]=true:=kr
theorem e5j:CG ZP sg @f5r:=(cgc f8y cg0)
theorem g1g:d9 ZP sg 0 Tryz.f56 @b0g 4:=m7 d8b good Tryz.func56 e54 e5j c5 (fun a=>kr) kr (fun _ _=>rfl)
theorem c9o:d9 ZP sg 0 Tryz.f56 @b0g 15:=m7 c9g good Tryz.func56 e54 e5j c5 (fun a=>kr) kr (fun _ _=>rfl)
theorem e70:d9 ZP sg 0 Tryz.f56 @b0g 12:=m7 c9f good Tryz.func56 e54 e5j (all_cons c9o c5) (fun a=>kr) kr (fun _ _=>rfl)
theorem g76:SG ZP sg 56 @f4s:=a1l (loops:=b0g) good Tryz.func56 e54 kr e5j (all_cons g1g (all_cons e70 (all_cons c9o c5))) (fun a=>kr)
theorem d56:SG ZP sg 110 @e1j:=y3 good Tryz.func110 kr kr cg0 (fun a=>kr)
theorem g80:fnB ZP 57 Tryz.f57 [4]=true:=kr
theorem f0m:CG ZP sg @e4m:=(cgc d56 cg0)
theorem e6x:d9 ZP sg 0 Tryz.f57 @c1d 4:=m7 c8c good Tryz.func57 g80 f0m c5 (fun a=>kr) kr (fun _ _=>rfl)
theorem d5p:SG ZP sg 57 @c6e:=a1l (loops:=c1d) good Tryz.func57 g80 kr f0m (all_cons e6x c5) (fun a=>kr)
theorem f6y:SG ZP sg 184 @g3d:=y3 good Tryz.func184 kr kr cg0 (fun a=>kr)
theorem f8f:SG ZP sg 111 @e1u:=y3 good Tryz.func111 kr kr (cgc f6y cg0) (fun a=>kr)
theorem g0k:fnB ZP 58 Tryz.f58 [4,9]=true:=kr
theorem f6e:CG ZP sg @f5q:=(cgc f8f cg0)
theorem d8w:d9 ZP sg 0 Tryz.f58 @b73 9:=m7 d8a good Tryz.func58 g0k f6e c5 (fun a=>kr) kr (fun _ _=>rfl)
theorem g1f:d9 ZP sg 0 Tryz.f58 @b73 4:=m7 d79 good Tryz.func58 g0k f6e (all_cons d8w c5) (fun a=>kr) kr (fun _ _=>rfl)
theorem g75:SG ZP sg 58 @f4r:=a1l (loops:=b73) good Tryz.func58 g0k kr f6e (all_cons g1f (all_cons d8w c5)) (fun a=>kr)
theorem g0l:fnB ZP 59 Tryz.f59 [6,11]=true:=kr
theorem f6g:CG ZP sg @f5x:=cg0
theorem g1n:d9 ZP sg 0 Tryz.f59 @b75 6:=m7 d8k good Tryz.func59 g0l f6g c5 (fun a=>kr) kr (fun _ _=>rfl)
theorem e72:d9 ZP sg 0 Tryz.f59 @b75 11:=m7 c9j good Tryz.func59 g0l f6g c5 (fun a=>kr) kr (fun _ _=>rfl)
theorem f1m:SG ZP sg 59 @f4v:=a1l (loops:=b75) good Tryz.func59 g0l kr f6g (all_cons g1n (all_cons e72 c5)) (fun a=>kr)
theorem f1v:fnB ZP 112 Tryz.f112 [2]=true:=kr
theorem f0x:CG ZP sg @e4x:=cg0
theorem e68:d9 ZP sg 0 Tryz.f112 @c1o 2:=m7 c8n good Tryz.func112 f1v f0x c5 (fun a=>kr) kr (fun _ _=>rfl)
theorem f7b:SG ZP sg 112 @g3l:=a1l (loops:=c1o) good Tryz.func112 f1v kr f0x (all_cons e68 c5) (fun a=>kr)
theorem b61:SG ZP sg 60 @b8m:=y3 good Tryz.func60 kr kr (cgc f7b cg0) (fun a=>kr)
theorem f8z:SG ZP sg 185 @e2a:=y3 good Tryz.func185 kr kr cg0 (fun a=>kr)
theorem f9v:SG ZP sg 270 @g5o:=y3 good Tryz.func270 kr kr cg0 (fun a=>kr)
theorem f78:SG ZP sg 213 @g4f:=y3 good Tryz.func213 kr kr (cgc f9v cg0) (fun a=>kr)
theorem f9e:SG ZP sg 214 @g5a:=y3 good Tryz.func214 kr kr cg0 (fun a=>kr)
theorem f7n:SG ZP sg 271 @e1a:=y3 good Tryz.func271 kr kr cg0 (fun a=>kr)
theorem f14:fnB ZP 215 Tryz.f215 [3]=true:=kr
theorem f0o:CG ZP sg @e4o:=(cgc f7n cg0)
theorem e6z:d9 ZP sg 0 Tryz.f215 @c1f 3:=m7 c8e good Tryz.func215 f14 f0o c5 (fun a=>kr) kr (fun _ _=>rfl)
theorem f64:SG ZP sg 215 @g3g:=a1l (loops:=c1f) good Tryz.func215 f14 kr f0o (all_cons e6z c5) (fun a=>kr)
theorem f8j:SG ZP sg 216 @g4p:=y3 good Tryz.func216 kr kr cg0 (fun a=>kr)
theorem f93:SG ZP sg 217 @g5u:=y3 good Tryz.func217 kr kr cg0 (fun a=>kr)
theorem d5v:SG ZP sg 151 @c6j:=y3 good Tryz.func151 kr kr (cgc f78 (cgc f9e (cgc f64 (cgc f8j (cgc f93 cg0))))) (fun a=>kr)
theorem f1w:fnB ZP 113 Tryz.f113 [5]=true:=kr
theorem f0v:CG ZP sg @e4v:=(cgc d5v (cgc f8z cg0))
theorem e66:d9 ZP sg 0 Tryz.f113 @c1m 5:=m7 c8l good Tryz.func113 f1w f0v c5 (fun a=>kr) kr (fun _ _=>rfl)
theorem f68:SG ZP sg 113 @e02:=a1l (loops:=c1m) good Tryz.func113 f1w kr f0v (all_cons e66 c5) (fun a=>kr)
theorem g82:fnB ZP 86 Tryz.f86 [2]=true:=kr
theorem g7n:CG ZP sg @f5o:=cg0
theorem g1d:d9 ZP sg 0 Tryz.f86 @c9t 2:=m7 d77 good Tryz.func86 g82 g7n c5 (fun a=>kr) kr (fun _ _=>rfl)
theorem a6b:SG ZP sg 86 @c27:=a1l (loops:=c9t) good Tryz.func86 g82 kr g7n (all_cons g1d c5) (fun a=>kr)
theorem g0m:fnB ZP 61 Tryz.f61 [4,15]=true:=kr
theorem f6l:CG ZP sg @f53:=(cgc a6b (cgc d5n (cgc f68 cg0)))
theorem g1t:d9 ZP sg 0 Tryz.f61 @b8a 4:=m7 d8s good Tryz.func61 g0m f6l c5 (fun a=>kr) kr (fun _ _=>rfl)
theorem e75:d9 ZP sg 0 Tryz.f61 @b8a 15:=m7 c9m good Tryz.func61 g0m f6l c5 (fun a=>kr) kr (fun _ _=>rfl)
theorem g8f:SG ZP sg 61 @f4z:=a1l (loops:=b8a) good Tryz.func61 g0m kr f6l (all_cons g1t (all_cons e75 c5)) (fun a=>kr)
theorem d52:SG ZP sg 114 @e1h:=y3 good Tryz.func114 kr kr cg0 (fun a=>kr)
theorem f10:fnB ZP 186 Tryz.f186 [2]=true:=kr
theorem f0l:CG ZP sg @e4l:=cg0
theorem e6w:d9 ZP sg 0 Tryz.f186 @c1c 2:=m7 c8b good Tryz.func186 f10 f0l c5 (fun a=>kr) kr (fun _ _=>rfl)
theorem d5o:SG ZP sg 186 @g3e:=a1l (loops:=c1c) good Tryz.func186 f10 kr f0l (all_cons e6w c5) (fun a=>kr)
theorem f82:SG ZP sg 115 @e2d:=y3 good Tryz.func115 kr kr (cgc d5o cg0) (fun a=>kr)
theorem g0n:fnB ZP 62 Tryz.f62 [2,10]=true:=kr
theorem f6k:CG ZP sg @f52:=(cgc b61 (cgc a6b (cgc d52 (cgc f82 cg0))))
theorem g1s:d9 ZP sg 0 Tryz.f62 @b79 2:=m7 d8r good Tryz.func62 g0n f6k c5 (fun a=>kr) kr (fun _ _=>rfl)
theorem e74:d9 ZP sg 0 Tryz.f62 @b79 10:=m7 c9l good Tryz.func62 g0n f6k c5 (fun a=>kr) kr (fun _ _=>rfl)
theorem g8e:SG ZP sg 62 @f4y:=a1l (loops:=b79) good Tryz.func62 g0n kr f6k (all_cons g1s (all_cons e74 c5)) (fun a=>kr)
theorem g84:fnB ZP 89 Tryz.f89 [2]=true:=kr
theorem g7s:CG ZP sg @f6b:=cg0
theorem g1v:d9 ZP sg 0 Tryz.f89 @c9y 2:=m7 d8u good Tryz.func89 g84 g7s c5 (fun a=>kr) kr (fun _ _=>rfl)
theorem d6v:SG ZP sg 89 @f41:=a1l (loops:=c9y) good Tryz.func89 g84 kr g7s (all_cons g1v c5) (fun a=>kr)
theorem g0o:fnB ZP 63 Tryz.f63 [2,18]=true:=kr
theorem f6m:CG ZP sg @f6a:=(cgc b61 (cgc a6b (cgc d6v cg0)))
theorem g1u:d9 ZP sg 0 Tryz.f63 @b8b 2:=m7 d8t good Tryz.func63 g0o f6m c5 (fun a=>kr) kr (fun _ _=>rfl)
theorem e76:d9 ZP sg 0 Tryz.f63 @b8b 18:=m7 c9n good Tryz.func63 g0o f6m c5 (fun a=>kr) kr (fun _ _=>rfl)
theorem g8g:SG ZP sg 63 @f40:=a1l (loops:=b8b) good Tryz.func63 g0o kr f6m (all_cons g1u (all_cons e76 c5)) (fun a=>kr)
theorem g0i:fnB ZP 24 Tryz.f24 [6,11]=true:=kr
theorem f6d:CG ZP sg @f5k:=(cgc f7e (cgc f7d (cgc g76 (cgc d5p (cgc g75 (cgc f1m (cgc b61 (cgc g8f (cgc g8e (cgc g8g cg0))))))))))
theorem g07:d9 ZP sg 0 Tryz.f24 @b72 6:=m7 d71 good Tryz.func24 g0i f6d c5 (fun a=>kr) kr (fun _ _=>rfl)
theorem e6j:d9 ZP sg 0 Tryz.f24 @b72 11:=m7 c70 good Tryz.func24 g0i f6d c5 (fun a=>kr) kr (fun _ _=>rfl)
theorem g7y:SG ZP sg 24 @h1q:=a1l (loops:=b72) good Tryz.func24 g0i kr f6d (all_cons g07 (all_cons e6j c5)) (fun a=>kr)
theorem g8s:fnB ZP 26 Tryz.f26 [4]=true:=kr
theorem f0p:CG ZP sg @e4p:=cg0
theorem e60:d9 ZP sg 0 Tryz.f26 @c1g 4:=m7 c8f good Tryz.func26 g8s f0p c5 (fun a=>kr) kr (fun _ _=>rfl)
theorem f65:SG ZP sg 26 @g3h:=a1l (loops:=c1g) good Tryz.func26 g8s kr f0p (all_cons e60 c5) (fun a=>kr)
theorem f8m:SG ZP sg 10 @g4s:=y3 good Tryz.func10 kr kr (cgc g70 (cgc g7y (cgc f65 cg0))) (fun a=>kr)
theorem d6d:SG ZP sg 31 @c6n:=y3 good Tryz.func31 kr kr cg0 (fun a=>kr)
theorem g8t:fnB ZP 30 Tryz.f30 [3]=true:=kr
theorem f04:CG ZP sg @e44:=(cgc (sgP d5z) (cgc (sgP c38) (cgc d6t cg0)))
theorem e7f:d9 ZP sg 0 Tryz.f30 @c1v 3:=m7 c8u good Tryz.func30 g8t f04 c5 (fun a=>kr) kr (fun _ _=>rfl)
theorem f7h:SG ZP sg 30 @e06:=h38 (loops:=c1v) good Tryz.func30 g8t kr f04 (all_cons e7f c5) (fun a=>kr)
theorem c4c:SG ZP sg 33 @b8n:=y3 good Tryz.func33 kr kr cg0 (fun a=>kr)
theorem g8p:fnB ZP 21 Tryz.f21 [3]=true:=kr
theorem f0j:CG ZP sg @e4j:=(cgc c4c cg0)
theorem e6r:d9 ZP sg 0 Tryz.f21 @c1a 3:=m7 c78 good Tryz.func21 g8p f0j c5 (fun a=>kr) kr (fun _ _=>rfl)
theorem f6x:SG ZP sg 21 @e0z:=a1l (loops:=c1a) good Tryz.func21 g8p kr f0j (all_cons e6r c5) (fun a=>kr)
theorem f7o:SG ZP sg 72 @e1c:=y3 good Tryz.func72 kr kr cg0 (fun a=>kr)
theorem e55:fnB ZP 71 Tryz.f71 [2]=true:=kr
theorem g7p:CG ZP sg @f5s:=(cgc f7o cg0)
theorem g1h:d9 ZP sg 0 Tryz.f71 @c9v 2:=m7 d8c good Tryz.func71 e55 g7p c5 (fun a=>kr) kr (fun _ _=>rfl)
theorem g77:SG ZP sg 71 @h1u:=a1l (loops:=c9v) good Tryz.func71 e55 kr g7p (all_cons g1h c5) (fun a=>kr)
theorem d5s:SG ZP sg 32 @c6h:=y3 good Tryz.func32 kr kr (cgc g77 cg0) (fun a=>kr)
abbrev a9r {R:Type}:Lp Kd El R:=lp 27 (lsi 17 0 a6y.sem (lsi 17 1 a6z.sem (lsi 17 2 a60.sem (lsi 17 3 a61.sem (lsi 17 4 a62.sem lsz))))) l0
noncomputable def a8q {R:Type}:Lp Kd El R:=lp 27 (lsi 17 0 a6y.sem (lsi 17 1 a6z.sem (lsi 17 2 a60.sem (lsi 17 3 a61.sem (lsi 17 4 a62.sem lsz))))) (lp 23 (fun st k=>b3t ZP sg d5a a9r 0 [16,95,96] (y6 Tryz.f12 23) 6 st k) (lp 11 c79.sem (lp 5 d72.sem l0)))
theorem b7m:fnB ZP 12 Tryz.f12 [5,11,23,27]=true:=kr
theorem b6w:CG ZP sg @d5a:=(cgc f6x (cgc f7h (cgc d6d (cgc d5s (cgc c4c (cgc (sgP d5z) (cgc (sgP c38) cg0)))))))
theorem g08:d9 ZP sg 0 Tryz.f12 @a8q 5:=m7 d72 good Tryz.func12 b7m b6w c5 (fun a=>kr) kr (fun _ _=>rfl)
theorem e6s:d9 ZP sg 0 Tryz.f12 @a8q 11:=m7 c79 good Tryz.func12 b7m b6w c5 (fun a=>kr) kr (fun _ _=>rfl)
theorem d1u:d9 ZP sg 0 Tryz.f12 (fun {R}=>lp 27 (a6y.sem (R:=R)) l0) 27:=m7 a6y good Tryz.func12 b7m b6w c5 (fun a=>kr) kr (fun _ _=>rfl)
theorem d1v:d9 ZP sg 0 Tryz.f12 (fun {R}=>lp 27 (a6z.sem (R:=R)) l0) 27:=m7 a6z good Tryz.func12 b7m b6w c5 (fun a=>kr) kr (fun _ _=>rfl)
theorem d1w:d9 ZP sg 0 Tryz.f12 (fun {R}=>lp 27 (a60.sem (R:=R)) l0) 27:=m7 a60 good Tryz.func12 b7m b6w c5 (fun a=>kr) kr (fun _ _=>rfl)
theorem d1x:d9 ZP sg 0 Tryz.f12 (fun {R}=>lp 27 (a61.sem (R:=R)) l0) 27:=m7 a61 good Tryz.func12 b7m b6w c5 (fun a=>kr) kr (fun _ _=>rfl)
theorem d1y:d9 ZP sg 0 Tryz.f12 (fun {R}=>lp 27 (a62.sem (R:=R)) l0) 27:=m7 a62 good Tryz.func12 b7m b6w c5 (fun a=>kr) kr (fun _ _=>rfl)
theorem c0y:d9 ZP sg 0 Tryz.f12 @a9r 27:=(c2d d1u (c2d d1v (c2d d1w (c2d d1x (c2d d1y g9o)))))
theorem e6u:d9 ZP sg 0 Tryz.f12 @a8q 27:=h25 c0y (fun _ _=>rfl)
theorem e6t:d9 ZP sg 0 Tryz.f12 @a8q 23:=h24 [16,95,96] 6 good Tryz.func12 b7m b6w kr (all_cons c0y c5) (fun _ _=>rfl)
theorem g7z:SG ZP sg 12 @f4o:=a1l (loops:=a8q) good Tryz.func12 b7m kr b6w (all_cons g08 (all_cons e6s (all_cons e6t (all_cons e6u c5)))) (fun a=>kr)
theorem c4f:SG ZP sg 76 @g4j:=h37 (loops:=l0) (ids:=[]) good Tryz.func76 kr kr cg0 c5 (fun a=>kr)
theorem f8x:SG ZP sg 160 @e18:=y3 good Tryz.func160 kr kr cg0 (fun a=>kr)
theorem c7k:CG ZP sg @d06:=(cgc f8x cg0)
theorem d14:d9 ZP sg 0 Tryz.f71 @b2b 2:=m7 b49 good Tryz.func71 e55 c7k c5 (fun a=>kr) kr (fun _ _=>rfl)
theorem d6u:SG ZP sg 71 @e2l:=a1l (loops:=b2b) good Tryz.func71 e55 kr c7k (all_cons d14 c5) (fun a=>kr)
theorem f7j:SG ZP sg 96 @g3q:=y3 good Tryz.func96 kr kr (cgc d6u cg0) (fun a=>kr)
theorem b09:SG ZP sg 125 @h1z:=c7n (loops:=l0) (ids:=[]) good Tryz.func125 kr kr cg0 c5 (fun a b=>kr)
theorem c4d:SG ZP sg 77 @g4d:=c7n (loops:=l0) (ids:=[]) good Tryz.func77 kr kr (cgc f7j (cgc b09 cg0)) c5 (fun a b=>kr)
theorem f1l:SG ZP sg 78 @h1x:=c7n (loops:=l0) (ids:=[]) good Tryz.func78 kr kr cg0 c5 (fun a b=>kr)
theorem c4b:SG ZP sg 161 @g39:=y3 good Tryz.func161 kr kr cg0 (fun a=>kr)
theorem f9s:SG ZP sg 232 @g5l:=y3 good Tryz.func232 kr kr (cgc c4b cg0) (fun a=>kr)
theorem f9q:SG ZP sg 233 @g5j:=y3 good Tryz.func233 kr kr (cgc c4b cg0) (fun a=>kr)
theorem d6a:SG ZP sg 235 @g4h:=y3 good Tryz.func235 kr kr cg0 (fun a=>kr)
theorem f9w:SG ZP sg 234 @g5p:=y3 good Tryz.func234 kr kr (cgc d6a cg0) (fun a=>kr)
theorem f9t:SG ZP sg 162 @g5m:=y3 good Tryz.func162 kr kr (cgc c4b (cgc f9s (cgc f9q (cgc f9w (cgc d6a cg0))))) (fun a=>kr)
theorem a81:SG ZP sg 123 @g3w:=c7n (loops:=l0) (ids:=[]) good Tryz.func123 kr kr (cgc d6m (cgc b09 (cgc f9t (cgc d6q cg0)))) c5 (fun a b=>kr)
theorem d5w:SG ZP sg 79 @g3s:=c7n (loops:=l0) (ids:=[]) good Tryz.func79 kr kr (cgc a81 cg0) c5 (fun a b=>kr)
theorem f8s:SG ZP sg 239 @g4y:=y3 good Tryz.func239 kr kr cg0 (fun a=>kr)
theorem d6n:SG ZP sg 240 @g41:=y3 good Tryz.func240 kr kr cg0 (fun a=>kr)
theorem f76:SG ZP sg 170 @e1f:=y3 good Tryz.func170 kr kr (cgc f8s (cgc d6n cg0)) (fun a=>kr)
theorem f1r:fnB ZP 101 Tryz.f101 [4]=true:=kr
theorem f1a:CG ZP sg @e5a:=(cgc f76 cg0)
theorem e7m:d9 ZP sg 0 Tryz.f101 @c14 4:=m7 c81 good Tryz.func101 f1r f1a c5 (fun a=>kr) kr (fun _ _=>rfl)
theorem f7t:SG ZP sg 101 @g3z:=a1l (loops:=c14) good Tryz.func101 f1r kr f1a (all_cons e7m c5) (fun a=>kr)
theorem f7k:SG ZP sg 145 @g3r:=y3 good Tryz.func145 kr kr (cgc f7t cg0) (fun a=>kr)
theorem d6r:SG ZP sg 80 @g45:=c7n (loops:=l0) (ids:=[]) good Tryz.func80 kr kr (cgc b09 (cgc f7k cg0)) c5 (fun a b=>kr)
theorem f7l:SG ZP sg 146 @e08:=y3 good Tryz.func146 kr kr cg0 (fun a=>kr)
theorem a9p:fnB ZP 131 Tryz.f131 [2]=true:=kr
theorem g7m:CG ZP sg @f5m:=(cgc f7l cg0)
theorem g1b:d9 ZP sg 0 Tryz.f131 @c9s 2:=m7 d75 good Tryz.func131 a9p g7m c5 (fun a=>kr) kr (fun _ _=>rfl)
theorem g71:SG ZP sg 131 @h1s:=a1l (loops:=c9s) good Tryz.func131 a9p kr g7m (all_cons g1b c5) (fun a=>kr)
theorem d5m:SG ZP sg 81 @g3c:=y3 good Tryz.func81 kr kr (cgc g71 cg0) (fun a=>kr)
theorem f8w:SG ZP sg 147 @e16:=y3 good Tryz.func147 kr kr cg0 (fun a=>kr)
theorem c7h:CG ZP sg @d03:=(cgc f8w cg0)
theorem d1z:d9 ZP sg 0 Tryz.f131 @b17 2:=m7 b46 good Tryz.func131 a9p c7h c5 (fun a=>kr) kr (fun _ _=>rfl)
theorem d57:SG ZP sg 131 @e1l:=a1l (loops:=b17) good Tryz.func131 a9p kr c7h (all_cons d1z c5) (fun a=>kr)
theorem f8d:SG ZP sg 210 @g4m:=g6e (loops:=l0) (ids:=[]) good Tryz.func210 kr kr cg0 c5 (fun a=>kr) kr
theorem d55:SG ZP sg 148 @g4g:=y3 good Tryz.func148 kr kr (cgc f8d cg0) (fun a=>kr)
theorem f7a:SG ZP sg 83 @g3k:=y3 good Tryz.func83 kr kr (cgc d57 (cgc d55 cg0)) (fun a=>kr)
theorem c4e:SG ZP sg 82 @g4i:=c7n (loops:=l0) (ids:=[]) good Tryz.func82 kr kr (cgc b09 cg0) c5 (fun a b=>kr)
theorem c39:SG ZP sg 293 @c6l:=y3 good Tryz.func293 kr kr cg0 (fun a=>kr)
theorem d7a:fnB ZP 324 Tryz.f324 [1,4]=true:=kr
theorem f6f:CG ZP sg @f5v:=(cgc c39 cg0)
theorem d8y:d9 ZP sg MA Tryz.f324 @b74 4:=m7 d8j good Tryz.func324 d7a f6f c5 (fun a=>kr) kr (fun _ _=>rfl)
theorem g1m:d9 ZP sg MA Tryz.f324 @b74 1:=m7 d8i good Tryz.func324 d7a f6f (all_cons d8y c5) (fun a=>kr) kr (fun _ _=>rfl)
theorem g8a:SG ZP sg 324 @f4u:=h2u (loops:=b74) good Tryz.func324 d7a kr f6f (all_cons g1m (all_cons d8y c5)) (fun a=>kr)
theorem c7w:fnB ZP 312 Tryz.f312 [2,7,9]=true:=kr
theorem e5k:CG ZP sg @f5t:=(cgc c39 (cgc g8a (cgc (sgP f8b) cg0)))
theorem g1i:d9 ZP sg MA Tryz.f312 @b0h 2:=m7 d8d good Tryz.func312 c7w e5k c5 (fun a=>kr) kr (fun _ _=>rfl)
theorem d8x:d9 ZP sg MA Tryz.f312 @b0h 9:=m7 d8f good Tryz.func312 c7w e5k c5 (fun a=>kr) kr (fun _ _=>rfl)
theorem g1j:d9 ZP sg MA Tryz.f312 @b0h 7:=m7 d8e good Tryz.func312 c7w e5k (all_cons d8x c5) (fun a=>kr) kr (fun _ _=>rfl)
theorem g78:SG ZP sg 312 @h1w:=h2u (loops:=b0h) good Tryz.func312 c7w kr e5k (all_cons g1i (all_cons g1j (all_cons d8x c5))) (fun a=>kr)
theorem f79:SG ZP sg 292 @e1k:=h2u (loops:=l0) (ids:=[]) good Tryz.func292 kr kr (cgc c39 (cgc g78 cg0)) c5 (fun a=>kr)
theorem f2g:fnB ZP 266 Tryz.f266 [3]=true:=kr
theorem g7o:CG ZP sg @f5p:=(cgc f79 cg0)
theorem g1e:d9 ZP sg 0 Tryz.f266 @c9u 3:=m7 d78 good Tryz.func266 f2g g7o c5 (fun a=>kr) kr (fun _ _=>rfl)
theorem g74:SG ZP sg 266 @f4q:=a1l (loops:=c9u) good Tryz.func266 f2g kr g7o (all_cons g1e c5) (fun a=>kr)
theorem f11:fnB ZP 211 Tryz.f211 [3]=true:=kr
theorem f0c:CG ZP sg @e4c:=(cgc g74 cg0)
theorem e6k:d9 ZP sg 0 Tryz.f211 @c03 3:=m7 c71 good Tryz.func211 f11 f0c c5 (fun a=>kr) kr (fun _ _=>rfl)
theorem f6r:SG ZP sg 211 @g29:=a1l (loops:=c03) good Tryz.func211 f11 kr f0c (all_cons e6k c5) (fun a=>kr)
theorem d6g:SG ZP sg 149 @e1x:=y3 good Tryz.func149 kr kr (cgc f6r cg0) (fun a=>kr)
theorem f8v:SG ZP sg 287 @e15:=y3 good Tryz.func287 kr kr cg0 (fun a=>kr)
theorem c7i:CG ZP sg @d04:=(cgc f8v cg0)
theorem d12:d9 ZP sg 0 Tryz.f131 @b19 2:=m7 b47 good Tryz.func131 a9p c7i c5 (fun a=>kr) kr (fun _ _=>rfl)
theorem d58:SG ZP sg 131 @e1m:=a1l (loops:=b19) good Tryz.func131 a9p kr c7i (all_cons d12 c5) (fun a=>kr)
theorem d50:SG ZP sg 252 @g4b:=y3 good Tryz.func252 kr kr (cgc d58 cg0) (fun a=>kr)
theorem f9f:SG ZP sg 191 @g5b:=y3 good Tryz.func191 kr kr (cgc d50 cg0) (fun a=>kr)
theorem f8e:SG ZP sg 244 @e1s:=y3 good Tryz.func244 kr kr cg0 (fun a=>kr)
theorem f2d:fnB ZP 243 Tryz.f243 [2]=true:=kr
theorem f0d:CG ZP sg @e4d:=(cgc f8e cg0)
theorem e6l:d9 ZP sg 0 Tryz.f243 @c04 2:=m7 c72 good Tryz.func243 f2d f0d c5 (fun a=>kr) kr (fun _ _=>rfl)
theorem f6s:SG ZP sg 243 @g3a:=a1l (loops:=c04) good Tryz.func243 f2d kr f0d (all_cons e6l c5) (fun a=>kr)
theorem f75:SG ZP sg 176 @g4a:=y3 good Tryz.func176 kr kr (cgc f6s cg0) (fun a=>kr)
theorem f9z:SG ZP sg 105 @g5s:=y3 good Tryz.func105 kr kr (cgc f75 cg0) (fun a=>kr)
theorem f9c:SG ZP sg 321 @g48:=y3 good Tryz.func321 kr kr cg0 (fun a=>kr)
theorem f74:SG ZP sg 306 @e1e:=y3 good Tryz.func306 kr kr (cgc f9c cg0) (fun a=>kr)
theorem f2n:fnB ZP 307 Tryz.f307 [3]=true:=kr
theorem f0e:CG ZP sg @e4e:=cg0
theorem e6m:d9 ZP sg 0 Tryz.f307 @c05 3:=m7 c73 good Tryz.func307 f2n f0e c5 (fun a=>kr) kr (fun _ _=>rfl)
theorem f6t:SG ZP sg 307 @e0v:=a1l (loops:=c05) good Tryz.func307 f2n kr f0e (all_cons e6m c5) (fun a=>kr)
theorem f2k:fnB ZP 289 Tryz.f289 [3]=true:=kr
theorem f0u:CG ZP sg @e4u:=(cgc f74 (cgc f6t cg0))
theorem e65:d9 ZP sg 0 Tryz.f289 @c1l 3:=m7 c8k good Tryz.func289 f2k f0u c5 (fun a=>kr) kr (fun _ _=>rfl)
theorem f67:SG ZP sg 289 @g3j:=a1l (loops:=c1l) good Tryz.func289 f2k kr f0u (all_cons e65 c5) (fun a=>kr)
theorem f8h:SG ZP sg 259 @g4n:=y3 good Tryz.func259 kr kr (cgc f67 cg0) (fun a=>kr)
theorem d6f:SG ZP sg 195 @g4o:=y3 good Tryz.func195 kr kr (cgc f9z (cgc f8h cg0)) (fun a=>kr)
theorem f9y:SG ZP sg 48 @g5r:=y3 good Tryz.func48 kr kr cg0 (fun a=>kr)
theorem d6h:SG ZP sg 198 @g4q:=y3 good Tryz.func198 kr kr (cgc f9y cg0) (fun a=>kr)
theorem c4h:SG ZP sg 175 @e1t:=y3 good Tryz.func175 kr kr cg0 (fun a=>kr)
theorem f8q:SG ZP sg 209 @g4w:=y3 good Tryz.func209 kr kr cg0 (fun a=>kr)
theorem f8t:SG ZP sg 140 @e12:=y3 good Tryz.func140 kr kr (cgc f8q cg0) (fun a=>kr)
theorem f88:SG ZP sg 322 @e2g:=y3 good Tryz.func322 kr kr cg0 (fun a=>kr)
theorem f2o:fnB ZP 308 Tryz.f308 [3]=true:=kr
theorem f0n:CG ZP sg @e4n:=(cgc f8t (cgc f88 cg0))
theorem e6y:d9 ZP sg 0 Tryz.f308 @c1e 3:=m7 c8d good Tryz.func308 f2o f0n c5 (fun a=>kr) kr (fun _ _=>rfl)
theorem f60:SG ZP sg 308 @g3f:=a1l (loops:=c1e) good Tryz.func308 f2o kr f0n (all_cons e6y c5) (fun a=>kr)
theorem f2p:fnB ZP 309 Tryz.f309 [3]=true:=kr
theorem f0t:CG ZP sg @e4t:=cg0
theorem e64:d9 ZP sg 0 Tryz.f309 @c1k 3:=m7 c8j good Tryz.func309 f2p f0t c5 (fun a=>kr) kr (fun _ _=>rfl)
theorem d5r:SG ZP sg 309 @e01:=a1l (loops:=c1k) good Tryz.func309 f2p kr f0t (all_cons e64 c5) (fun a=>kr)
theorem f92:SG ZP sg 323 @g5t:=y3 good Tryz.func323 kr kr cg0 (fun a=>kr)
theorem c4i:SG ZP sg 310 @e1w:=y3 good Tryz.func310 kr kr (cgc f92 cg0) (fun a=>kr)
theorem f8a:SG ZP sg 290 @e1o:=y3 good Tryz.func290 kr kr (cgc c4h (cgc f60 (cgc d5r (cgc c4i cg0)))) (fun a=>kr)
theorem f2f:fnB ZP 260 Tryz.f260 [2]=true:=kr
theorem f0f:CG ZP sg @e4f:=(cgc f8a cg0)
theorem e6n:d9 ZP sg 0 Tryz.f260 @c06 2:=m7 c74 good Tryz.func260 f2f f0f c5 (fun a=>kr) kr (fun _ _=>rfl)
theorem f6u:SG ZP sg 260 @e0w:=a1l (loops:=c06) good Tryz.func260 f2f kr f0f (all_cons e6n c5) (fun a=>kr)
theorem f2j:fnB ZP 288 Tryz.f288 [9]=true:=kr
theorem f0s:CG ZP sg @e4s:=(cgc c4h (cgc f6u cg0))
theorem e63:d9 ZP sg 0 Tryz.f288 @c1j 9:=m7 c8i good Tryz.func288 f2j f0s c5 (fun a=>kr) kr (fun _ _=>rfl)
theorem f66:SG ZP sg 288 @g3i:=a1l (loops:=c1j) good Tryz.func288 f2j kr f0s (all_cons e63 c5) (fun a=>kr)
theorem f9r:SG ZP sg 253 @g5k:=c7n (loops:=l0) (ids:=[]) good Tryz.func253 kr kr (cgc b09 (cgc d6h (cgc f66 cg0))) c5 (fun a b=>kr)
theorem f9i:SG ZP sg 237 @g5d:=y3 good Tryz.func237 kr kr cg0 (fun a=>kr)
theorem d5x:SG ZP sg 255 @e09:=y3 good Tryz.func255 kr kr cg0 (fun a=>kr)
theorem c7j:CG ZP sg @d05:=(cgc d5x cg0)
theorem d13:d9 ZP sg 0 Tryz.f131 @b2a 2:=m7 b48 good Tryz.func131 a9p c7j c5 (fun a=>kr) kr (fun _ _=>rfl)
theorem d59:SG ZP sg 131 @e1n:=a1l (loops:=b2a) good Tryz.func131 a9p kr c7j (all_cons d13 c5) (fun a=>kr)
theorem f9n:SG ZP sg 254 @g5g:=y3 good Tryz.func254 kr kr (cgc d59 (cgc d5x cg0)) (fun a=>kr)
theorem d5u:SG ZP sg 193 @g3p:=y3 good Tryz.func193 kr kr (cgc d55 (cgc f9i (cgc d50 (cgc f9n cg0)))) (fun a=>kr)
theorem d51:SG ZP sg 192 @g4c:=c7n (loops:=l0) (ids:=[]) good Tryz.func192 kr kr (cgc c4e (cgc a81 (cgc d5u (cgc d6f (cgc f9r cg0))))) c5 (fun a b=>kr)
theorem c4g:SG ZP sg 124 @e1q:=c7n (loops:=l0) (ids:=[]) good Tryz.func124 kr kr (cgc d5w (cgc c4e (cgc a81 (cgc d6g (cgc f9f (cgc d51 (cgc d5u cg0))))))) c5 (fun a b=>kr)
theorem g81:fnB ZP 84 Tryz.f84 [1]=true:=kr
theorem f07:CG ZP sg @e47:=(cgc c4g (cgc d6g cg0))
theorem e7j:d9 ZP sg 1 Tryz.f84 @c1y 1:=m7 c8y good Tryz.func84 g81 f07 c5 (fun a=>kr) kr (fun _ _=>rfl)
theorem f7q:SG ZP sg 84 @g3v:=c7n (loops:=c1y) good Tryz.func84 g81 kr f07 (all_cons e7j c5) (fun a b=>kr)
theorem d54:SG ZP sg 41 @e1i:=y3 good Tryz.func41 kr kr (cgc c4f (cgc c4d (cgc f1l (cgc d5w (cgc d6r (cgc d5m (cgc c4e (cgc f7a (cgc f7q cg0))))))))) (fun a=>kr)
theorem f7m:SG ZP sg 68 @g3t:=y3 good Tryz.func68 kr kr (cgc c4f (cgc c4d (cgc f1l (cgc a81 (cgc c4g cg0))))) (fun a=>kr)
theorem f8c:SG ZP sg 130 @g4l:=c7n (loops:=l0) (ids:=[]) good Tryz.func130 kr kr cg0 c5 (fun a b=>kr)
theorem f72:SG ZP sg 178 @g37:=y3 good Tryz.func178 kr kr cg0 (fun a=>kr)
theorem d5y:SG ZP sg 246 @e1b:=y3 good Tryz.func246 kr kr cg0 (fun a=>kr)
theorem f2e:fnB ZP 245 Tryz.f245 [2]=true:=kr
theorem f02:CG ZP sg @e42:=(cgc d5y cg0)
theorem e7d:d9 ZP sg 0 Tryz.f245 @c1t 2:=m7 c8s good Tryz.func245 f2e f02 c5 (fun a=>kr) kr (fun _ _=>rfl)
theorem f7f:SG ZP sg 245 @g3n:=a1l (loops:=c1t) good Tryz.func245 f2e kr f02 (all_cons e7d c5) (fun a=>kr)
theorem f9a:SG ZP sg 177 @g46:=y3 good Tryz.func177 kr kr (cgc f7f (cgc d5y cg0)) (fun a=>kr)
theorem f9p:SG ZP sg 294 @g5i:=y3 good Tryz.func294 kr kr (cgc d6l (cgc (sgP d6k) cg0)) (fun a=>kr)
theorem f80:SG ZP sg 267 @g42:=y3 good Tryz.func267 kr kr (cgc f9a (cgc f72 (cgc f9p cg0))) (fun a=>kr)
theorem f9b:SG ZP sg 127 @g47:=c7n (loops:=l0) (ids:=[]) good Tryz.func127 kr kr (cgc b09 cg0) c5 (fun a b=>kr)
theorem d6c:SG ZP sg 174 @e1r:=y3 good Tryz.func174 kr kr (cgc c4h cg0) (fun a=>kr)
theorem f1x:fnB ZP 116 Tryz.f116 [2]=true:=kr
theorem f03:CG ZP sg @e43:=(cgc d6c cg0)
theorem e7e:d9 ZP sg 0 Tryz.f116 @c1u 2:=m7 c8t good Tryz.func116 f1x f03 c5 (fun a=>kr) kr (fun _ _=>rfl)
theorem f7g:SG ZP sg 116 @g3o:=a1l (loops:=c1u) good Tryz.func116 f1x kr f03 (all_cons e7e c5) (fun a=>kr)
theorem f8n:SG ZP sg 64 @e11:=y3 good Tryz.func64 kr kr (cgc f7g (cgc d6c cg0)) (fun a=>kr)
theorem f1s:fnB ZP 103 Tryz.f103 [8]=true:=kr
theorem g7r:CG ZP sg @f50:=(cgc f8n cg0)
theorem g1q:d9 ZP sg 0 Tryz.f103 @c9x 8:=m7 d8o good Tryz.func103 f1s g7r c5 (fun a=>kr) kr (fun _ _=>rfl)
theorem g8c:SG ZP sg 103 @h14:=a1l (loops:=c9x) good Tryz.func103 f1s kr g7r (all_cons g1q c5) (fun a=>kr)
theorem f9d:SG ZP sg 314 @e2h:=y3 good Tryz.func314 kr kr (cgc c4i cg0) (fun a=>kr)
theorem d68:fnB ZP 295 Tryz.f295 [7,13]=true:=kr
theorem f6c:CG ZP sg @f5j:=(cgc d5r (cgc c4i (cgc f9d cg0)))
theorem g06:d9 ZP sg 0 Tryz.f295 @b71 7:=m7 d70 good Tryz.func295 d68 f6c c5 (fun a=>kr) kr (fun _ _=>rfl)
theorem e6i:d9 ZP sg 0 Tryz.f295 @b71 13:=m7 c7z good Tryz.func295 d68 f6c c5 (fun a=>kr) kr (fun _ _=>rfl)
theorem g7x:SG ZP sg 295 @h1p:=a1l (loops:=b71) good Tryz.func295 d68 kr f6c (all_cons g06 (all_cons e6i c5)) (fun a=>kr)
theorem f81:SG ZP sg 268 @g43:=y3 good Tryz.func268 kr kr (cgc g8c (cgc d6n (cgc g7x cg0))) (fun a=>kr)
theorem f8g:SG ZP sg 297 @e1v:=y3 good Tryz.func297 kr kr cg0 (fun a=>kr)
theorem f2l:fnB ZP 296 Tryz.f296 [2]=true:=kr
theorem f0y:CG ZP sg @e4y:=(cgc f8g cg0)
theorem e69:d9 ZP sg 0 Tryz.f296 @c1p 2:=m7 c8o good Tryz.func296 f2l f0y c5 (fun a=>kr) kr (fun _ _=>rfl)
theorem f7c:SG ZP sg 296 @g3m:=a1l (loops:=c1p) good Tryz.func296 f2l kr f0y (all_cons e69 c5) (fun a=>kr)
theorem f73:SG ZP sg 269 @g38:=y3 good Tryz.func269 kr kr (cgc f7c cg0) (fun a=>kr)
theorem f9o:SG ZP sg 212 @g5h:=c7n (loops:=l0) (ids:=[]) good Tryz.func212 kr kr (cgc d6r (cgc a81 (cgc f9b (cgc d6f (cgc d6h (cgc f80 (cgc f81 (cgc f73 cg0)))))))) c5 (fun a b=>kr)
theorem f94:SG ZP sg 150 @g5v:=y3 good Tryz.func150 kr kr (cgc c4f (cgc c4d (cgc d5m (cgc a81 (cgc c4g (cgc b09 (cgc f8c (cgc d51 (cgc f9o cg0))))))))) (fun a=>kr)
theorem f8u:SG ZP sg 85 @g40:=y3 good Tryz.func85 kr kr (cgc f94 cg0) (fun a=>kr)
theorem f77:SG ZP sg 42 @e1g:=y3 good Tryz.func42 kr kr (cgc d54 (cgc f7m (cgc f8u cg0))) (fun a=>kr)
theorem g8m:fnB ZP 16 Tryz.f16 [4]=true:=kr
theorem f06:CG ZP sg @e46:=(cgc g7z (cgc d6d (cgc d5s (cgc c4c (cgc d54 (cgc f77 cg0))))))
theorem e7i:d9 ZP sg 0 Tryz.f16 @c1x 4:=m7 c8x good Tryz.func16 g8m f06 c5 (fun a=>kr) kr (fun _ _=>rfl)
theorem f7p:SG ZP sg 16 @g3u:=a1l (loops:=c1x) good Tryz.func16 g8m kr f06 (all_cons e7i c5) (fun a=>kr)
theorem d6e:SG ZP sg 36 @c6o:=y3 good Tryz.func36 kr kr cg0 (fun a=>kr)
theorem g8v:fnB ZP 37 Tryz.f37 [3]=true:=kr
theorem f0g:CG ZP sg @e4g:=cg0
theorem e6o:d9 ZP sg 0 Tryz.f37 @c07 3:=m7 c75 good Tryz.func37 g8v f0g c5 (fun a=>kr) kr (fun _ _=>rfl)
theorem f6v:SG ZP sg 37 @e0x:=a1l (loops:=c07) good Tryz.func37 g8v kr f0g (all_cons e6o c5) (fun a=>kr)
theorem g8w:fnB ZP 38 Tryz.f38 [3]=true:=kr
theorem f05:CG ZP sg @e45:=cg0
theorem e7g:d9 ZP sg 0 Tryz.f38 @c1w 3:=m7 c8v good Tryz.func38 g8w f05 c5 (fun a=>kr) kr (fun _ _=>rfl)
theorem f7i:SG ZP sg 38 @e07:=a1l (loops:=c1w) good Tryz.func38 g8w kr f05 (all_cons e7g c5) (fun a=>kr)
theorem g8x:fnB ZP 39 Tryz.f39 [2]=true:=kr
theorem f0z:CG ZP sg @e4z:=cg0
theorem e7a:d9 ZP sg 0 Tryz.f39 @c1q 2:=m7 c8p good Tryz.func39 g8x f0z c5 (fun a=>kr) kr (fun _ _=>rfl)
theorem d5t:SG ZP sg 39 @c6i:=a1l (loops:=c1q) good Tryz.func39 g8x kr f0z (all_cons e7a c5) (fun a=>kr)
theorem e52:fnB ZP 13 Tryz.f13 [3,8,11]=true:=kr
theorem e5l:CG ZP sg @f5u:=(cgc d6e (cgc f6v (cgc f7i (cgc d5t cg0))))
theorem g1k:d9 ZP sg 0 Tryz.f13 @b0i 3:=m7 d8g good Tryz.func13 e52 e5l c5 (fun a=>kr) kr (fun _ _=>rfl)
theorem c9p:d9 ZP sg 0 Tryz.f13 @b0i 11:=m7 c9h good Tryz.func13 e52 e5l c5 (fun a=>kr) kr (fun _ _=>rfl)
theorem g1l:d9 ZP sg 0 Tryz.f13 @b0i 8:=m7 d8h good Tryz.func13 e52 e5l (all_cons c9p c5) (fun a=>kr) kr (fun _ _=>rfl)
theorem g79:SG ZP sg 13 @f4t:=a1l (loops:=b0i) good Tryz.func13 e52 kr e5l (all_cons g1k (all_cons g1l (all_cons c9p c5))) (fun a=>kr)
theorem g83:fnB ZP 87 Tryz.f87 [10]=true:=kr
theorem g7q:CG ZP sg @f5w:=(cgc a6b (cgc d5v cg0))
theorem e71:d9 ZP sg 0 Tryz.f87 @c9w 10:=m7 c9i good Tryz.func87 g83 g7q c5 (fun a=>kr) kr (fun _ _=>rfl)
theorem b4q:SG ZP sg 87 @h1y:=a1l (loops:=c9w) good Tryz.func87 g83 kr g7q (all_cons e71 c5) (fun a=>kr)
theorem f1y:fnB ZP 152 Tryz.f152 [3]=true:=kr
theorem f1h:CG ZP sg @e5h:=(cgc d5p cg0)
theorem e7t:d9 ZP sg 0 Tryz.f152 @c2c 3:=m7 c88 good Tryz.func152 f1y f1h c5 (fun a=>kr) kr (fun _ _=>rfl)
theorem f70:SG ZP sg 152 @g36:=a1l (loops:=c2c) good Tryz.func152 f1y kr f1h (all_cons e7t c5) (fun a=>kr)
theorem d6s:SG ZP sg 88 @g49:=y3 good Tryz.func88 kr kr (cgc f70 cg0) (fun a=>kr)
theorem f1z:fnB ZP 153 Tryz.f153 [3]=true:=kr
theorem f0q:CG ZP sg @e4q:=cg0
theorem e61:d9 ZP sg 0 Tryz.f153 @c1h 3:=m7 c8g good Tryz.func153 f1z f0q c5 (fun a=>kr) kr (fun _ _=>rfl)
theorem d5q:SG ZP sg 153 @c6f:=a1l (loops:=c1h) good Tryz.func153 f1z kr f0q (all_cons e61 c5) (fun a=>kr)
theorem g85:fnB ZP 90 Tryz.f90 [2]=true:=kr
theorem f1g:CG ZP sg @e5g:=(cgc d5q cg0)
theorem e7s:d9 ZP sg 0 Tryz.f90 @c2b 2:=m7 c87 good Tryz.func90 g85 f1g c5 (fun a=>kr) kr (fun _ _=>rfl)
theorem f7z:SG ZP sg 90 @g35:=a1l (loops:=c2b) good Tryz.func90 g85 kr f1g (all_cons e7s c5) (fun a=>kr)
theorem d67:fnB ZP 272 Tryz.f272 [3,6]=true:=kr
theorem f6j:CG ZP sg @f51:=cg0
theorem d80:d9 ZP sg 0 Tryz.f272 @b78 6:=m7 d8q good Tryz.func272 d67 f6j c5 (fun a=>kr) kr (fun _ _=>rfl)
theorem g1r:d9 ZP sg 0 Tryz.f272 @b78 3:=m7 d8p good Tryz.func272 d67 f6j (all_cons d80 c5) (fun a=>kr) kr (fun _ _=>rfl)
theorem g8d:SG ZP sg 272 @f4x:=a1l (loops:=b78) good Tryz.func272 d67 kr f6j (all_cons g1r (all_cons d80 c5)) (fun a=>kr)
theorem f19:fnB ZP 219 Tryz.f219 [2]=true:=kr
theorem f0r:CG ZP sg @e4r:=cg0
theorem e62:d9 ZP sg 0 Tryz.f219 @c1i 2:=m7 c8h good Tryz.func219 f19 f0r c5 (fun a=>kr) kr (fun _ _=>rfl)
theorem c37:SG ZP sg 219 @c6g:=a1l (loops:=c1i) good Tryz.func219 f19 kr f0r (all_cons e62 c5) (fun a=>kr)
theorem f15:fnB ZP 218 Tryz.f218 [4]=true:=kr
theorem f1f:CG ZP sg @e5f:=(cgc c37 (cgc g8d cg0))
theorem e7r:d9 ZP sg 0 Tryz.f218 @c2a 4:=m7 c86 good Tryz.func218 f15 f1f c5 (fun a=>kr) kr (fun _ _=>rfl)
theorem f7y:SG ZP sg 218 @g34:=a1l (loops:=c2a) good Tryz.func218 f15 kr f1f (all_cons e7r c5) (fun a=>kr)
theorem d6o:SG ZP sg 154 @e2b:=y3 good Tryz.func154 kr kr (cgc a6b (cgc f7y cg0)) (fun a=>kr)
theorem f9m:SG ZP sg 315 @e2k:=y3 good Tryz.func315 kr kr cg0 (fun a=>kr)
theorem f8l:SG ZP sg 316 @e10:=y3 good Tryz.func316 kr kr cg0 (fun a=>kr)
theorem f2m:fnB ZP 298 Tryz.f298 [3]=true:=kr
theorem f1b:CG ZP sg @e5b:=(cgc f9m (cgc f8l cg0))
theorem e7n:d9 ZP sg 0 Tryz.f298 @c15 3:=m7 c82 good Tryz.func298 f2m f1b c5 (fun a=>kr) kr (fun _ _=>rfl)
theorem f7u:SG ZP sg 298 @g30:=a1l (loops:=c15) good Tryz.func298 f2m kr f1b (all_cons e7n c5) (fun a=>kr)
theorem f98:SG ZP sg 273 @g5z:=y3 good Tryz.func273 kr kr (cgc f7u cg0) (fun a=>kr)
theorem d6j:SG ZP sg 222 @g4t:=y3 good Tryz.func222 kr kr (cgc b61 (cgc f98 cg0)) (fun a=>kr)
theorem f1k:SG ZP sg 224 @h1v:=y3 good Tryz.func224 kr kr cg0 (fun a=>kr)
theorem f9g:SG ZP sg 326 @g5c:=y3 good Tryz.func326 kr kr cg0 (fun a=>kr)
theorem f9h:SG ZP sg 317 @e2i:=y3 good Tryz.func317 kr kr (cgc f9g cg0) (fun a=>kr)
theorem d69:fnB ZP 299 Tryz.f299 [6,12]=true:=kr
theorem f6i:CG ZP sg @f5z:=(cgc f9h cg0)
theorem g1p:d9 ZP sg 0 Tryz.f299 @b77 6:=m7 d8n good Tryz.func299 d69 f6i c5 (fun a=>kr) kr (fun _ _=>rfl)
theorem e73:d9 ZP sg 0 Tryz.f299 @b77 12:=m7 c9k good Tryz.func299 d69 f6i c5 (fun a=>kr) kr (fun _ _=>rfl)
theorem f1n:SG ZP sg 299 @e2m:=a1l (loops:=b77) good Tryz.func299 d69 kr f6i (all_cons g1p (all_cons e73 c5)) (fun a=>kr)
theorem f2i:fnB ZP 275 Tryz.f275 [2]=true:=kr
theorem f0i:CG ZP sg @e4i:=(cgc f1n cg0)
theorem e6q:d9 ZP sg 0 Tryz.f275 @c09 2:=m7 c77 good Tryz.func275 f2i f0i c5 (fun a=>kr) kr (fun _ _=>rfl)
theorem f6w:SG ZP sg 275 @e0y:=a1l (loops:=c09) good Tryz.func275 f2i kr f0i (all_cons e6q c5) (fun a=>kr)
theorem f2c:fnB ZP 226 Tryz.f226 [9]=true:=kr
theorem f1c:CG ZP sg @e5c:=(cgc f6w cg0)
theorem e7o:d9 ZP sg 0 Tryz.f226 @c16 9:=m7 c83 good Tryz.func226 f2c f1c c5 (fun a=>kr) kr (fun _ _=>rfl)
theorem f7v:SG ZP sg 226 @g31:=a1l (loops:=c16) good Tryz.func226 f2c kr f1c (all_cons e7o c5) (fun a=>kr)
theorem f2a:fnB ZP 220 Tryz.f220 [9]=true:=kr
theorem f0h:CG ZP sg @e4h:=(cgc d5q (cgc d6b (cgc d6i (cgc c37 cg0))))
theorem e6p:d9 ZP sg 0 Tryz.f220 @c08 9:=m7 c76 good Tryz.func220 f2a f0h c5 (fun a=>kr) kr (fun _ _=>rfl)
theorem d5l:SG ZP sg 220 @g3b:=a1l (loops:=c08) good Tryz.func220 f2a kr f0h (all_cons e6p c5) (fun a=>kr)
theorem d53:SG ZP sg 157 @g4e:=y3 good Tryz.func157 kr kr (cgc a6b (cgc b4q (cgc d5l (cgc d6j (cgc f1k (cgc f7v cg0)))))) (fun a=>kr)
theorem c4j:SG ZP sg 155 @e1y:=y3 good Tryz.func155 kr kr (cgc a6b (cgc b4q (cgc d6o (cgc d53 (cgc c37 (cgc d5l cg0)))))) (fun a=>kr)
theorem g86:fnB ZP 91 Tryz.f91 [2]=true:=kr
theorem f1e:CG ZP sg @e5e:=(cgc d6o (cgc c4j cg0))
theorem e7q:d9 ZP sg 0 Tryz.f91 @c18 2:=m7 c85 good Tryz.func91 g86 f1e c5 (fun a=>kr) kr (fun _ _=>rfl)
theorem f7x:SG ZP sg 91 @g33:=a1l (loops:=c18) good Tryz.func91 g86 kr f1e (all_cons e7q c5) (fun a=>kr)
theorem d6p:SG ZP sg 43 @e2c:=y3 good Tryz.func43 kr kr (cgc a6b (cgc b4q (cgc d6s (cgc d6v (cgc f7z (cgc f7x cg0)))))) (fun a=>kr)
theorem f9x:SG ZP sg 92 @g5q:=y3 good Tryz.func92 kr kr (cgc a6b (cgc b4q (cgc c4j cg0))) (fun a=>kr)
theorem f96:SG ZP sg 221 @g5x:=y3 good Tryz.func221 kr kr (cgc d5o cg0) (fun a=>kr)
theorem f2h:fnB ZP 274 Tryz.f274 [3]=true:=kr
theorem f1d:CG ZP sg @e5d:=(cgc f1n cg0)
theorem e7p:d9 ZP sg 0 Tryz.f274 @c17 3:=m7 c84 good Tryz.func274 f2h f1d c5 (fun a=>kr) kr (fun _ _=>rfl)
theorem f7w:SG ZP sg 274 @g32:=a1l (loops:=c17) good Tryz.func274 f2h kr f1d (all_cons e7p c5) (fun a=>kr)
theorem f97:SG ZP sg 223 @g5y:=y3 good Tryz.func223 kr kr (cgc f1m (cgc d56 (cgc f7w cg0))) (fun a=>kr)
theorem f2b:fnB ZP 225 Tryz.f225 [4]=true:=kr
theorem f09:CG ZP sg @e49:=cg0
theorem e7l:d9 ZP sg 0 Tryz.f225 @c12 4:=m7 c80 good Tryz.func225 f2b f09 c5 (fun a=>kr) kr (fun _ _=>rfl)
theorem f7s:SG ZP sg 225 @g3y:=a1l (loops:=c12) good Tryz.func225 f2b kr f09 (all_cons e7l c5) (fun a=>kr)
theorem f9u:SG ZP sg 156 @g5n:=y3 good Tryz.func156 kr kr (cgc a6b (cgc b4q (cgc d6s (cgc f96 (cgc d6j (cgc f97 (cgc f1k (cgc f7s cg0)))))))) (fun a=>kr)
theorem f95:SG ZP sg 93 @g5w:=y3 good Tryz.func93 kr kr (cgc a6b (cgc b4q (cgc d6v (cgc d52 (cgc c4j (cgc f9u (cgc d53 cg0))))))) (fun a=>kr)
theorem f9l:SG ZP sg 44 @e2j:=y3 good Tryz.func44 kr kr (cgc d6p (cgc f9x (cgc f95 cg0))) (fun a=>kr)
theorem g8n:fnB ZP 17 Tryz.f17 [5]=true:=kr
theorem f08:CG ZP sg @e48:=(cgc g79 (cgc d6e (cgc d5t (cgc d6p (cgc f9l cg0)))))
theorem e7k:d9 ZP sg 0 Tryz.f17 @c1z 5:=m7 c8z good Tryz.func17 g8n f08 c5 (fun a=>kr) kr (fun _ _=>rfl)
theorem f7r:SG ZP sg 17 @g3x:=a1l (loops:=c1z) good Tryz.func17 g8n kr f08 (all_cons e7k c5) (fun a=>kr)
theorem g0j:fnB ZP 45 Tryz.f45 [2,7]=true:=kr
theorem f6h:CG ZP sg @f5y:=cg0
theorem d8z:d9 ZP sg 0 Tryz.f45 @b76 7:=m7 d8m good Tryz.func45 g0j f6h c5 (fun a=>kr) kr (fun _ _=>rfl)
theorem g1o:d9 ZP sg 0 Tryz.f45 @b76 2:=m7 d8l good Tryz.func45 g0j f6h (all_cons d8z c5) (fun a=>kr) kr (fun _ _=>rfl)
theorem g8b:SG ZP sg 45 @f4w:=a1l (loops:=b76) good Tryz.func45 g0j kr f6h (all_cons g1o (all_cons d8z c5)) (fun a=>kr)
theorem c0h:fnB ZP 18 Tryz.f18 [6,11,16,21,26,31,36]=true:=kr
theorem b9n:CG ZP sg @f5n:=(cgc g8b cg0)
theorem g1c:d9 ZP sg 0 Tryz.f18 @a4m 6:=m7 d76 good Tryz.func18 c0h b9n c5 (fun a=>kr) kr (fun _ _=>rfl)
theorem e7u:d9 ZP sg 0 Tryz.f18 @a4m 11:=m7 c89 good Tryz.func18 c0h b9n c5 (fun a=>kr) kr (fun _ _=>rfl)
theorem e7v:d9 ZP sg 0 Tryz.f18 @a4m 16:=m7 c9a good Tryz.func18 c0h b9n c5 (fun a=>kr) kr (fun _ _=>rfl)
theorem e7w:d9 ZP sg 0 Tryz.f18 @a4m 21:=m7 c9b good Tryz.func18 c0h b9n c5 (fun a=>kr) kr (fun _ _=>rfl)
theorem e7x:d9 ZP sg 0 Tryz.f18 @a4m 26:=m7 c9c good Tryz.func18 c0h b9n c5 (fun a=>kr) kr (fun _ _=>rfl)
theorem e7y:d9 ZP sg 0 Tryz.f18 @a4m 31:=m7 c9d good Tryz.func18 c0h b9n c5 (fun a=>kr) kr (fun _ _=>rfl)
theorem e7z:d9 ZP sg 0 Tryz.f18 @a4m 36:=m7 c9e good Tryz.func18 c0h b9n c5 (fun a=>kr) kr (fun _ _=>rfl)
theorem g72:SG ZP sg 18 @h1t:=a1l (loops:=a4m) good Tryz.func18 c0h kr b9n (all_cons g1c (all_cons e7u (all_cons e7v (all_cons e7w (all_cons e7x (all_cons e7y (all_cons e7z c5))))))) (fun a=>kr)
theorem f8k:SG ZP sg 4 @g4r:=y3 good Tryz.func4 kr kr (cgc (sgP f8i) (cgc f8m (cgc f7p (cgc f7r (cgc g72 cg0))))) (fun a=>kr)
end
section
open Ev
open Go (IntKind)
section
variable {α β σ X:Type}
theorem d1s {step:α→Option (α⊕β)}:∀{n m:Nat} {a:α} {b:β},n≤m→o4 step n a=some b→o4 step m a=some b:=by
 intro n
 induction n with
 |zero=>intro m a b _ h;cases h
 |succ n ih=>
  intro m a b hm h;obtain ⟨m,rfl⟩:∃k,m=k+1:=⟨m-1,by omega⟩
  simp only[o4]at h ⊢;cases h1:step a with
  |none=>rw[h1]at h;cases h
  |some x=>
   rw[h1]at h;cases x with
   |inl a'=>exact ih (by omega) h
   |inr b'=>exact h
theorem o6 {step:α→Option (α⊕β)} {a:α} {b:β} (n:Nat) (hn:n≤b8z) (h:o4 step n a=some b):c4 step a=some b:=d1s hn h
theorem e28 {step:α→Option (α⊕β)} (Inv:α→Prop) (μ:α→Nat) (f:α→β)
 (h:∀a,Inv a→(∃a',step a=some (.inl a')∧Inv a'∧μ a'<μ a∧f a'=f a)∨step a=some (.inr (f a))) {a:α} (ha:Inv a) (hm:μ a<b8z):c4 step a=some (f a):=by
 have key:∀n a,Inv a→μ a<n→o4 step n a=some (f a):=by
  intro n
  induction n with
  |zero=>intro a _ h;omega
  |succ n ih=>
   intro a hi hn;simp only[o4];rcases h a hi with ⟨a',h1,h2,h3,h4⟩|h1
   ·rw[h1];simp only;rw[ih a' h2 (by omega),h4]
   ·rw[h1]
 exact key b8z a ha hm
def a0w (f:Nat→X→σ→σ⊕β) (fin:σ→β):Nat→List X→σ→β
 |_,[],s=>fin s
 |i,x::l,s=>match f i x s with
  |.inl s'=>a0w f fin (i+1) l s'
  |.inr b=>b
theorem m0 {step:α→Option (α⊕β)} (Inv:Nat→σ→Prop) (enc:Nat→σ→α) (l:List X) (f:Nat→X→σ→σ⊕β) (fin:σ→β) (hl:l.length<b8z)
 (h0:∀s,Inv l.length s→step (enc l.length s)=some (.inr (fin s)))
 (h1:∀i x s,l[i]?=some x→Inv i s→(step (enc i s)=some (match f i x s with | .inl s'=>.inl (enc (i+1) s') | .inr b=>.inr b))∧∀s',f i x s=.inl s'→Inv (i+1) s')
 (s:σ) (hs:Inv 0 s):c4 step (enc 0 s)=some (a0w f fin 0 l s):=by
 have key:∀k i s,i+k=l.length→Inv i s→o4 step (k+1) (enc i s)=some (a0w f fin i (l.drop i) s):=by
  intro k
  induction k with
  |zero=>
   intro i s hi hs;have:i=l.length:=by omega
   subst this;rw[List.drop_length];simp only[o4,h0 s hs,a0w]
  |succ k ih=>
   intro i s hi hs;have hlt:i<l.length:=by omega
   obtain ⟨e1,e2⟩:=h1 i l[i] s (yab hlt) hs;rw[ybL hlt];rw[o4,e1];simp only[a0w];cases hf:f i l[i] s with
   |inl s'=>simp only;exact ih (i+1) s' (by omega) (e2 s' hf)
   |inr b=>rfl
 have:=key l.length 0 s (by omega) hs;exact o6 (l.length+1) (by omega) (by simpa using this)
theorem a16 {step:α→Option (α⊕β)} (enc:Nat→σ→α) (l:List X) (f:Nat→X→σ→σ⊕β) (fin:σ→β) (hl:l.length<b8z)
 (h0:∀s,step (enc l.length s)=some (.inr (fin s)))
 (h1:∀i x s,l[i]?=some x→step (enc i s)=some (match f i x s with | .inl s'=>.inl (enc (i+1) s') | .inr b=>.inr b))
 (s:σ):c4 step (enc 0 s)=some (a0w f fin 0 l s):=
 m0 (fun _ _=>True) enc l f fin hl (fun s _=>h0 s) (fun i x s hx _=>⟨h1 i x s hx,fun _ _=>trivial⟩) s trivial
def a7b (p:X→Bool) (l:List X):Int:=match l.findIdx? p with|some i=>(i:Int)|none=>-1
def a0k (f:Nat→X→Int):Nat→List X→Int
 |_,[]=>0
 |i,x::l=>if f i x==0 then a0k f (i+1) l else f i x
theorem e0r {f:Nat→X→Int} {d:β} {g:Int→β}:∀{l:List X} {i:Nat},a0w (σ:=Unit) (fun i x _=>if f i x==0 then .inl () else .inr (g (f i x))) (fun _=>d) i l ()=if a0k f i l==0 then d else g (a0k f i l):=by
 intro l
 induction l with
 |nil=>intros;rfl
 |cons x l ih=>
  intro i;simp only[a0w,a0k];by_cases h:(f i x==0)=true
  ·simp only[h,ybB];exact ih
  ·have h2:¬f i x=0:=fun e=>h (by simp[e])
   simp[h2]
theorem b4y {f:Nat→X→Int}:∀{l:List X} {i:Nat},a0k f i l=0↔∀k x,l[k]?=some x→f (i+k) x=0:=by
 intro l
 induction l with
 |nil=>intro i;simp[a0k]
 |cons y l ih=>
  intro i;simp only[a0k];constructor
  ·intro h k x hk;split at h
   ·rename_i h1;cases k with
    |zero=>simp at hk;subst hk;simpa using h1
    |succ k=>have:=(ih (i:=i+1)).1 h k x (by simpa using hk);rwa [show i+(k+1)=i+1+k by omega]
   ·rename_i h1;exfalso;apply h1;simp[h]
  ·intro h;have h0:=h 0 y rfl;simp only[ybe]at h0;rw[h0];simp only[yai,ybB];exact ih.2 (fun k x hk=>by have:=h (k+1) x (by simpa using hk);rwa [show i+(k+1)=i+1+k by omega]at this)
theorem a1i {f:X→σ→σ} {fin:σ→β}:∀{l:List X} {i:Nat} {s:σ},a0w (fun _ x s=>.inl (f x s)) fin i l s=fin (l.foldl (fun s x=>f x s) s):=by
 intro l
 induction l with
 |nil=>intros;rfl
 |cons x l ih=>intro i s;simp only[a0w,ybj];exact ih
end
section
variable {α β σ X:Type} {step:α→Option (α⊕β)}
def a7h (a:α) (g:Int→β) (e:Int):Option (α⊕β):=if e==0 then some (.inl a) else some (.inr (g e))
theorem a24 (a:α) (g:Int→β) (b:Bool) (x y:Int):a7h a g (bif b then x else y)=bif b then a7h a g x else a7h a g y:=by cases b<;>rfl
theorem a35 (enc:Nat→α) (l:List X) (f:Nat→X→Int) (d:β) (g:Int→β) (hl:l.length<1000000000) (h0:step (enc l.length)=some (.inr d))
 (h1:∀i x,l[i]?=some x→step (enc i)=a7h (enc (i+1)) g (f i x)):c4 step (enc 0)=some (if a0k f 0 l==0 then d else g (a0k f 0 l)):=by
 have h:=a16 (step:=step) (fun i (_:Unit)=>enc i) l (fun i x _=>if f i x==0 then .inl () else .inr (g (f i x))) (fun _=>d) (by show l.length<18446744073709551616;omega) (fun _=>h0)
  (fun i x _ hx=>by rw[h1 i x hx];unfold a7h;split<;>rfl) ()
 rw[h,e0r]
def a2t (p:X→Bool) (g:Nat→X→β) (d:β):Nat→List X→β
 |_,[]=>d
 |i,x::l=>bif p x then g i x else a2t p g d (i+1) l
theorem t7 (enc:Nat→α) (l:List X) (p:X→Bool) (g:Nat→X→β) (d:β) (hl:l.length<1000000000) (h0:step (enc l.length)=some (.inr d))
 (h1:∀i x,l[i]?=some x→step (enc i)=bif p x then some (.inr (g i x)) else some (.inl (enc (i+1)))):c4 step (enc 0)=some (a2t p g d 0 l):=by
 have h:=a16 (step:=step) (fun i (_:Unit)=>enc i) l (fun i x _=>if p x then .inr (g i x) else .inl ()) (fun _=>d) (by show l.length<18446744073709551616;omega) (fun _=>h0)
  (fun i x _ hx=>by rw[h1 i x hx];cases p x<;>rfl) ()
 rw[h];have key:∀(l:List X) (i:Nat),a0w (σ:=Unit) (fun i x _=>if p x then .inr (g i x) else .inl ()) (fun _=>d) i l ()=a2t p g d i l:=by
  intro l
  induction l with
  |nil=>intro i;rfl
  |cons x l ih=>
   intro i;simp only[a0w,a2t];cases p x with
   |true=>rfl
   |false=>exact ih _
 rw[key]
theorem a6x {p:X→Bool} {g:X→β} {d:β}:∀{l:List X} {i:Nat},a2t p (fun _ x=>g x) d i l=(match l.find? p with|some x=>g x|none=>d):=by
 intro l
 induction l with
 |nil=>intros;rfl
 |cons x l ih=>intro i;simp only[a2t,List.find?_cons];cases p x with|true=>rfl|false=>exact ih
theorem d7c {p:X→Bool}:∀{l:List X} {i:Nat},a2t p (fun i _=>(i:Int)) (-1) i l=(match l.findIdx? p with|some k=>((i+k:Nat):Int)|none=>-1):=by
 intro l
 induction l with
 |nil=>intros;rfl
 |cons x l ih=>
  intro i;simp only[a2t,ybV];cases p x with
  |true=>rfl
  |false=>
   simp only[yaF,ybk,yaa];rw[ih];cases l.findIdx? p with
   |none=>rfl
   |some k=>simp only[ybF];rw[show i+1+k=i+(k+1) by omega]
theorem a2c {p:X→Bool} {l:List X}:a2t p (fun i _=>(i:Int)) (-1) 0 l=a7b p l:=by
 rw[d7c];unfold a7b;simp
theorem a0z {γ:Type} {p:X→Bool} {g:Nat→X→β} {d:β} (f:β→γ):∀{l:List X} {i:Nat},f (a2t p g d i l)=a2t p (fun i x=>f (g i x)) (f d) i l:=by
 intro l
 induction l with
 |nil=>intros;rfl
 |cons x l ih=>intro i;simp only[a2t];cases p x with|true=>rfl|false=>exact ih
def a2s (p:Nat→X→Bool):Nat→List X→Bool
 |_,[]=>true
 |i,x::l=>p i x&&a2s p (i+1) l
theorem m8 (enc:Nat→α) (l:List X) (p:Nat→X→Bool) (b d:β) (hl:l.length<1000000000) (h0:step (enc l.length)=some (.inr d))
 (h1:∀i x,l[i]?=some x→step (enc i)=bif p i x then some (.inl (enc (i+1))) else some (.inr b)):c4 step (enc 0)=some (bif a2s p 0 l then d else b):=by
 have h:=a16 (step:=step) (fun i (_:Unit)=>enc i) l (fun i x _=>if p i x then .inl () else .inr b) (fun _=>d) (by show l.length<18446744073709551616;omega) (fun _=>h0)
  (fun i x _ hx=>by rw[h1 i x hx];cases p i x<;>rfl) ()
 rw[h];have key:∀(l:List X) (i:Nat),a0w (σ:=Unit) (fun i x _=>if p i x then .inl () else .inr b) (fun _=>d) i l ()=bif a2s p i l then d else b:=by
  intro l
  induction l with
  |nil=>intro i;rfl
  |cons x l ih=>
   intro i;simp only[a0w,a2s];cases p i x with
   |true=>exact ih _
   |false=>rfl
 rw[key]
theorem o9 {p:X→Bool}:∀{l:List X} {i:Nat},a2s (fun _=>p) i l=l.all p:=by
 intro l
 induction l with
 |nil=>intros;rfl
 |cons x l ih=>intro i;simp only[a2s,yb2];rw[ih]
theorem a4z {p:Nat→X→Bool}:∀{l:List X} {i:Nat},a2s p i l=true↔∀k x,l[k]?=some x→p (i+k) x=true:=by
 intro l
 induction l with
 |nil=>intro i;simp[a2s]
 |cons y l ih=>
  intro i;simp only[a2s,yad];rw[ih];constructor
  ·rintro ⟨h0,h⟩ k x hk;cases k with
   |zero=>simp at hk;subst hk;exact h0
   |succ k=>have:=h k x (by simpa using hk);rwa [show i+(k+1)=i+1+k by omega]
  ·intro h;exact ⟨h 0 y rfl,fun k x hk=>by have:=h (k+1) x (by simpa using hk);rwa [show i+(k+1)=i+1+k by omega]at this⟩
theorem a7w (enc:Nat→σ→α) (l:List X) (f:X→σ→σ) (fin:σ→β) (hl:l.length<1000000000) (h0:∀s,step (enc l.length s)=some (.inr (fin s)))
 (h1:∀i x s,l[i]?=some x→step (enc i s)=some (.inl (enc (i+1) (f x s)))) (s:σ):c4 step (enc 0 s)=some (fin (l.foldl (fun s x=>f x s) s)):=by
 have h:=a16 (step:=step) enc l (fun i x s=>.inl (f x s)) fin (by show l.length<18446744073709551616;omega) h0 (fun i x s hx=>by rw[h1 i x s hx]) s;rw[h,a1i]
end
def t8 {X:Type} (l:List X) (i:Nat) (f:X→Bool):Bool:=match i with
 |0=>false
 |j+1=>match l[j]? with|some y=>f y|none=>false
theorem a0x {n:Int} (h1 : -9223372036854775808≤n) (h2:n≤9223372036854775807):wr .i64 n=n:=by
 unfold wr;rw[IntKind.wrap_i64];omega
theorem g9 {n:Nat} (h:n<9223372036854775807):wr .i64 ((n:Int)+1)=((n+1:Nat):Int):=by
 rw[a0x (by omega) (by omega)];rfl
theorem a5v {j:Nat} (h:j<1000000000):wr .i64 (((j+1:Nat):Int)-1)=(j:Int):=by
 rw[show ((j+1:Nat):Int)-1=(j:Int) by omega];exact a0x (by omega) (by omega)
theorem g0c {j:Nat}:decide ((0:Int)<((j+1:Nat):Int))=true:=by rw[yae];omega
theorem c4o:decide ((0:Int)<((0:Nat):Int))=false:=rfl
theorem d8 {α:Type} (l:List α) (i:Nat):m9 l (i:Int)=l[i]?:=by
 unfold m9;simp
theorem a3h:LIM=1073741824:=rfl
theorem m5:b8z=18446744073709551616:=rfl
end
section
open Ev
open Go (IntKind)
theorem dlt {i n:Nat} (h:i<n):decide ((i:Int)<(n:Int))=true:=by simpa using h
theorem dge {n:Nat}:decide ((n:Int)<(n:Int))=false:=by simp
theorem a06 {α:Type} (k:Bool→α) (a b:Bool):(bif a then k true else k b)=k (a||b):=by cases a<;>rfl
theorem s8 {α:Type} (k:Bool→α) (a b:Bool):(bif a then k b else k false)=k (a&&b):=by cases a<;>rfl
theorem a86 {α:Type} (k:Bool→α) (a b:Bool):(bif a then k a else k b)=k (a||b):=by cases a<;>rfl
theorem a2n {α:Type} (c:Bool) (a b:α):(bif c then some a else some b)=some (bif c then a else b):=by cases c<;>rfl
theorem g58 (b:UInt8):wr .i64 (b.toNat:Int)=(b.toNat:Int):=by
 have:=b.toNat_lt;exact a0x (by omega) (by omega)
def h2d (r:List UInt8):Int×Int:=(((dcd r).1:Int),((dcd r).2:Int))
theorem d9v {s:List UInt8} {i:Nat} (hi:i<s.length) (hs:s.length<1000000000):qbs s (i:Int)=some (h2d (s.drop i)):=by
 obtain ⟨a,r,hr⟩:∃a r,s.drop i=a::r:=⟨s[i],s.drop (i+1),ybL hi⟩
 have g:∀k,m9 s ((i+k:Nat):Int)=(a::r)[k]?:=fun k=>by rw[d8,←hr,ybK]
 have h0:m9 s (i:Int)=some a:=g 0;have w1:wr .i64 ((i:Int)+1)=((i+1:Nat):Int):=g9 (by omega);have w2:wr .i64 ((i:Int)+2)=((i+2:Nat):Int):=by rw[a0x (by omega) (by omega)];rfl
 have hl:s.length=i+(r.length+1):=by
  have:=congrArg List.length hr;simp only[ya9,yaB]at this;omega
 have ha:=a.toNat_lt;unfold qbs;rw[hr];unfold h2d dcd;have t1:decide (((i+1:Nat):Int)<((i+(r.length+1):Nat):Int))=decide (0<r.length):=by congr 1;simp only[eq_iff_iff];omega
 have t2:decide (((i+2:Nat):Int)<((i+(r.length+1):Nat):Int))=decide (1<r.length):=by congr 1;simp only[eq_iff_iff];omega
 simp -zeta only[h0,w1,w2,g 1,g 2,g58,a06,s8,hl,t1,t2];dsimp only;clear hl t1 t2 g hr hi h0 w1 w2 hs;by_cases c1:32≤a.toNat∧a.toNat<127
 ·have e1:(decide ((32:Int)≤(a.toNat:Int))&&decide ((a.toNat:Int)<127))=true:=by simp;omega
  simp only[e1,yac,yaJ c1];rfl
 have e1:(decide ((32:Int)≤(a.toNat:Int))&&decide ((a.toNat:Int)<127))=false:=by simp;omega
 simp only[e1,yaa,yar c1];by_cases c2:194≤a.toNat∧a.toNat<224
 ·have e2:(decide ((194:Int)≤(a.toNat:Int))&&decide ((a.toNat:Int)<224))=true:=by simp;omega
  have e3:decide ((224:Int)≤(a.toNat:Int))=false:=by simp;omega
  simp only[e2,e3,yaQ,yaV,yaa,yaJ c2];rcases r with _|⟨b,r⟩
  ·rfl
  have hb:=b.toNat_lt;have l1:decide (0<(b::r).length)=true:=by simp
  have g1:(a::b::r)[1]?=some b:=rfl;have e4:wr .i64 ((wr .i64 ((wr .i64 ((wr .i64 ((a.toNat:Int)-192))*64))+(b.toNat:Int)))-128)=((a.toNat:Int)-192)*64+(b.toNat:Int)-128:=by
   rw[a0x (n:=(a.toNat:Int)-192) (by omega) (by omega),a0x (n:=((a.toNat:Int)-192)*64) (by omega) (by omega),a0x (n:=((a.toNat:Int)-192)*64+(b.toNat:Int)) (by omega) (by omega),a0x (by omega) (by omega)]
  simp only[l1,g1,e4,yac];by_cases cb:128≤b.toNat
  ·have b1:decide ((128:Int)≤(b.toNat:Int))=true:=by simp;omega
   simp only[b1,yac];by_cases cb2:b.toNat<192
   ·have b2:decide ((b.toNat:Int)<192)=true:=by simp;omega
    simp only[b2,g1,yac,Bool.cond_eq_ite,yae];rw[yaJ True.intro];split
    ·rw[yaJ (by omega)];simp only[yaj,ya3];omega
    ·rw[yar (by omega)];rfl
   ·have b2:decide ((b.toNat:Int)<192)=false:=by simp;omega
    simp only[b2,yaa];rw[yar (by omega)];rfl
  ·have b1:decide ((128:Int)≤(b.toNat:Int))=false:=by simp;omega
   simp only[b1,yaa];rw[yar (by omega)];rfl
 have e2:(decide ((194:Int)≤(a.toNat:Int))&&decide ((a.toNat:Int)<224))=false:=by simp;omega
 simp only[e2,yaV,yaa,yar c2];by_cases c3:224≤a.toNat∧a.toNat<240
 ·have e3:(decide ((224:Int)≤(a.toNat:Int))&&decide ((a.toNat:Int)<240))=true:=by simp;omega
  simp only[e3,yaQ,yaJ c3];rcases r with _|⟨b,_|⟨c,r⟩⟩
  ·rfl
  ·rfl
  have hb:=b.toNat_lt;have hc:=c.toNat_lt;have l1:decide (1<(b::c::r).length)=true:=by simp
  have g1:(a::b::c::r)[1]?=some b:=rfl;have g2:(a::b::c::r)[2]?=some c:=rfl;have e4:wr .i64 ((wr .i64 ((wr .i64 ((wr .i64 ((wr .i64 ((a.toNat:Int)-224))*4096))+(wr .i64 ((wr .i64 ((b.toNat:Int)-128))*64))))+(c.toNat:Int)))-128)=((a.toNat:Int)-224)*4096+((b.toNat:Int)-128)*64+(c.toNat:Int)-128:=by
   rw[a0x (n:=(a.toNat:Int)-224) (by omega) (by omega),a0x (n:=((a.toNat:Int)-224)*4096) (by omega) (by omega),a0x (n:=(b.toNat:Int)-128) (by omega) (by omega),a0x (n:=((b.toNat:Int)-128)*64) (by omega) (by omega),
    a0x (n:=((a.toNat:Int)-224)*4096+((b.toNat:Int)-128)*64) (by omega) (by omega),a0x (n:=((a.toNat:Int)-224)*4096+((b.toNat:Int)-128)*64+(c.toNat:Int)) (by omega) (by omega),a0x (by omega) (by omega)]
  simp only[l1,g1,g2,e4,yac];by_cases cb:128≤b.toNat
  ·have b1:decide ((128:Int)≤(b.toNat:Int))=true:=by simp;omega
   simp only[b1,yac];by_cases cb2:b.toNat<192
   ·have b2:decide ((b.toNat:Int)<192)=true:=by simp;omega
    simp only[b2,yac];by_cases cc:128≤c.toNat
    ·have d1:decide ((128:Int)≤(c.toNat:Int))=true:=by simp;omega
     simp only[d1,yac];by_cases cc2:c.toNat<192
     ·have d2:decide ((c.toNat:Int)<192)=true:=by simp;omega
      simp only[d2,g1,g2,yac,Bool.cond_eq_ite,yad,yba,yae];rw[yaJ True.intro];split
      ·rw[yaJ (by omega)];simp only[yaj,ya3];omega
      ·rw[yar (by omega)];rfl
     ·have d2:decide ((c.toNat:Int)<192)=false:=by simp;omega
      simp only[d2,yaa];rw[yar (by omega)];rfl
    ·have d1:decide ((128:Int)≤(c.toNat:Int))=false:=by simp;omega
     simp only[d1,yaa];rw[yar (by omega)];rfl
   ·have b2:decide ((b.toNat:Int)<192)=false:=by simp;omega
    simp only[b2,yaa];rw[yar (by omega)];rfl
  ·have b1:decide ((128:Int)≤(b.toNat:Int))=false:=by simp;omega
   simp only[b1,yaa];rw[yar (by omega)];rfl
 ·have e3:(decide ((224:Int)≤(a.toNat:Int))&&decide ((a.toNat:Int)<240))=false:=by simp;omega
  simp only[e3,yaV,yaa,yar c3];rfl
theorem f1p (l:List UInt8):(dcd l).2≤l.length:=by
 unfold dcd;split
 ·simp
 ·rename_i a r;split
  ·simp
  ·split
   ·split
    ·split<;>simp
    ·simp
   ·split
    ·split
     ·split<;>simp
     ·simp
    ·simp
theorem e25 (n:Nat) {s:List UInt8} {i:Nat} (hi:i<s.length):d3o (n+1) (s.drop i)=if (dcd (s.drop i)).2=0 then false else d3o n (s.drop (i+(dcd (s.drop i)).2)):=by
 have:s.drop i≠[]:=by simp;omega
 simp only[d3o,this,ybk,List.drop_drop]
theorem f3c {s:List UInt8} (hs:s.length<1000000000):qaa s=some (vld s):=by
 have key:∀n i,s.length-i≤n→i≤s.length→o4 b5l (n+1) (s,(i:Int),())=some (if d3o n (s.drop i) then .inl () else .inr (false,())):=by
  intro n
  induction n with
  |zero=>
   intro i h1 h2;have:i=s.length:=by omega
   subst this;simp only[o4,b5l,dge,yaa,d3o,ybB]
  |succ n ih=>
   intro i h1 h2;rw[o4];by_cases hi:i<s.length
   ·rw[e25 n hi];have hle:=f1p (s.drop i);rw[ya9]at hle;simp only[b5l,dlt hi,yac,d9v hi hs,h2d];by_cases h0:(dcd (s.drop i)).2=0
    ·simp[h0]
    ·have hb:(((dcd (s.drop i)).2:Int)==0)=false:=by simp;omega
     have hw:wr .i64 ((i:Int)+((dcd (s.drop i)).2:Int))=((i+(dcd (s.drop i)).2:Nat):Int):=by rw[a0x (by omega) (by omega)];rfl
     simp only[hb,yaa,hw,h0,ybk];exact ih _ (by omega) (by omega)
   ·have:i=s.length:=by omega
    subst this;simp[b5l,d3o]
 unfold qaa;have:=key s.length 0 (by omega) (by omega);rw[show ((0:Int))=((0:Nat):Int) from rfl,o6 (s.length+1) (by rw[m5];omega) this];simp only[List.drop_zero];unfold vld;cases d3o s.length s<;>rfl
theorem h3d {s:List UInt8} {i:Nat} (hi:i<s.length) (hs:s.length<1000000000):qf s (i:Int)=some ((wid (s.drop i):Nat):Int):=by
 unfold qf wid;rw[d9v hi hs];show some (if (((dcd (s.drop i)).2:Nat):Int)<1 then (1:Int) else (((dcd (s.drop i)).2:Nat):Int))=_
 rw[yaj];by_cases h:(dcd (s.drop i)).2<1
 ·rw[yaJ h,yaJ (by omega)];rfl
 ·rw[yar h,yar (by omega)]
theorem h19 {l:List UInt8} (h:l≠[]):1≤wid l∧wid l≤l.length:=by
 have:=f1p l;have:0<l.length:=List.length_pos_iff.2 h;unfold wid;split<;>omega
theorem d5e (n:Nat) {s:List UInt8} {i:Nat} (hi:i<s.length) {out:List UInt8} {gap:Bool}:b8u (n+1) (s.drop i) out gap =
 if blk (dcd (s.drop i)).1 then b8u n (s.drop (i+wid (s.drop i))) out true else b8u n (s.drop (i+wid (s.drop i))) ((if gap&&!(out==[]) then out++[32] else out)++(s.drop i).take (wid (s.drop i))) false:=by
 have:s.drop i≠[]:=by simp;omega
 rw[b8u,yar this,List.drop_drop]
theorem g93 {s:List UInt8} (hs:s.length<100000000):qan s=some (cln s):=by
 have key:∀n i (out:List UInt8) (gap:Bool),s.length-i≤n→i≤s.length→out.length≤2*i→o4 b5u (n+1) (s,out,gap,(i:Int),())=some (b8u n (s.drop i) out gap,()):=by
  intro n
  induction n with
  |zero=>
   intro i out gap h1 h2 h3;have:i=s.length:=by omega
   subst this;simp only[o4,b5u,dge,yaa,b8u]
  |succ n ih=>
   intro i out gap h1 h2 h3;rw[o4];by_cases hi:i<s.length
   ·rw[d5e n hi];have hw0:=h19 (l:=s.drop i) (by simp;omega);rw[ya9]at hw0;obtain ⟨k,hk⟩:∃k,wid (s.drop i)=k:=⟨_,rfl⟩
    rw[hk]at hw0 ⊢;have hw:wr .i64 ((i:Int)+(k:Int))=((i+k:Nat):Int):=by rw[a0x (by omega) (by omega)];rfl
    have hb:qad ((dcd (s.drop i)).1:Int)=some (blk (dcd (s.drop i)).1):=by
     unfold qad;simp -zeta only[a06];simp only[yaj,blk];rw[Bool.eq_iff_iff];simp;omega
    simp only[b5u,dlt hi,yac,d9v hi (show s.length<1000000000 by omega),h3d hi (show s.length<1000000000 by omega),h2d,hb,hk,hw];cases blk (dcd (s.drop i)).1 with
    |true=>simp only[yac,ybB];exact ih _ _ _ (by omega) (by omega) (by omega)
    |false=>
     have hc:(decide ((0:Int)≤(i:Int))&&(decide ((i:Int)≤((i+k:Nat):Int))&&decide (((i+k:Nat):Int)≤(s.length:Int))))=true:=by simp;omega
     have ht:(s.take (i+k)).drop i=(s.drop i).take k:=by rw[List.drop_take];congr 1;omega
     simp only[yaa,hc,yac,yaK,ht,yaF,ybk];have hlen:∀o:List UInt8,o.length≤2*i+1→decide (o.length+((s.drop i).take k).length≤LIM)=true:=fun o ho=>by
      rw[a3h];simp only[ya5,ya9,yae];omega
     cases hg:(gap&&!(out==[])) with
     |true=>
      simp only[yad,yas]at hg;have h32:decide (out.length+([32]:List Nat).length≤LIM)=true:=by rw[a3h];simp;omega
      simp only[hg.1,hg.2,hc,ht,yaK,yac,yap,h32,hlen (out++[32]) (by simp;omega),ybB];exact ih _ _ _ (by omega) (by omega) (by simp;omega)
     |false=>
      cases gap with
      |false=>
       simp only[yaa,hlen out (by omega),yac,yaF,ybk];exact ih _ _ _ (by omega) (by omega) (by simp;omega)
      |true=>
       simp only[yaQ]at hg;simp only[yac,hg,yaa,hlen out (by omega),yaF,ybk];exact ih _ _ _ (by omega) (by omega) (by simp;omega)
   ·have:i=s.length:=by omega
    subst this;simp[b5u,b8u]
 unfold qan;have:=key s.length 0 [] false (by omega) (by omega) (by simp);rw[show ((0:Int))=((0:Nat):Int) from rfl,o6 (s.length+1) (by rw[m5];omega) this]
 try rfl
end
section
open Ev
open Go (IntKind)
def rng (lo hi n:Int):Bool:=decide (lo≤n)&&decide (n≤hi)
theorem d9y (n:Int):qc8 n=some (rng 0 109572 n):=by
 unfold qc8;simp -zeta only[a06,s8]
 try rfl
theorem f3w (n:Int):qcy n=some (rng 0 109572 n):=by
 unfold qcy;simp -zeta only[a06,s8]
 try rfl
theorem f3v (n:Int):qce n=some (rng 1 9999 n):=by
 unfold qce;simp -zeta only[a06,s8]
 try rfl
theorem g9y (n lo hi:Int):qa9 n lo hi=some (rng lo hi n):=by
 unfold qa9;simp -zeta only[a06,s8]
 try rfl
def a0y (l:List Charge) (i:Nat) (x:Charge):Int:=
 bif t8 l i (fun y=>decide (x.ID≤y.ID)) then 7
 else bif decide (x.ID<1)||decide (99999<x.ID)||decide (x.Patron<1)||decide (9999<x.Patron)||decide (x.Item<1)||decide (9999<x.Item)||!(rng 0 109572 x.Day) then 2
 else bif decide (x.Kind<1)||decide (3<x.Kind) then 1
 else bif decide (x.Amount<1)||decide (100000000<x.Amount)||decide (x.Paid<0)||decide (x.Amount≤x.Paid) then 2 else 0
def o1 (l:List Charge):Int:=bif decide (128<(l.length:Int)) then 13 else a0k (a0y l) 0 l
theorem d2n {l:List Charge} (hl:l.length<1000000000):c4 b2n (l,0,())=some (if a0k (a0y l) 0 l==0 then .inl () else .inr (a0k (a0y l) 0 l,())):=by
 have h:=a35 (step:=b2n) (fun i=>(l,(i:Int),())) l (a0y l) (.inl ()) (fun e=>.inr (e,())) hl
  (by simp only[b2n,dge,yaa])
  (fun i x hx=>by
   have hi:=(zL hx)
   have hxm:=yaf hx;unfold a0y;simp only[a24];rcases i with _|j
   ·simp -zeta only[b2n,dlt hi,d8,hx,a06,s8,c4o,yaa,yac,t8,g9 (show 0<9223372036854775807 by omega),d9y]
    try rfl
   ·have hj:l[j]?=some l[j]:=yab (by omega);simp -zeta only[b2n,dlt hi,d8,hx,a06,s8,g0c,a5v (show j<1000000000 by omega),hj,yaa,yac,t8,g9 (show j+1<9223372036854775807 by omega),d9y];rfl)
 exact h
theorem f3e {l:List Charge} (hl:l.length<1000000000):qac l=some (o1 l):=by
 unfold qac o1;rw[d2n hl];generalize a0k (a0y l) 0 l=e;cases decide (128<(l.length:Int)) with
 |true=>rfl
 |false=>
  by_cases h:e=0
  ·subst h;rfl
  ·have h2:(e==0)=false:=by simpa using h
   simp only[h2,yaF,ybk,yaa]
def a5b (l:List Patron) (i:Nat) (x:Patron):Int:=
 bif decide (x.ID<1)||decide (9999<x.ID) then 2
 else bif t8 l i (fun y=>decide (x.ID≤y.ID)) then 7
 else bif decide (x.Kind<1)||decide (9<x.Kind)||decide (x.Branch<1)||decide (4<x.Branch) then 1
 else bif decide (x.Until<0)||decide (109572<x.Until) then 2
 else bif x.Name==[]||!(vld x.Name)||!(cln x.Name==x.Name) then 3
 else bif decide (200<(x.Name.length:Int)) then 4 else 0
def a34 (l:List Patron):Int:=bif decide (32<(l.length:Int)) then 13 else a0k (a5b l) 0 l
theorem d2p {l:List Patron} (hl:l.length<1000000000) (hn:∀x∈l,x.Name.length<10000000):c4 b2q (l,0,())=some (if a0k (a5b l) 0 l==0 then .inl () else .inr (a0k (a5b l) 0 l,())):=by
 have h:=a35 (step:=b2q) (fun i=>(l,(i:Int),())) l (a5b l) (.inl ()) (fun e=>.inr (e,())) hl
  (by simp only[b2q,dge,yaa])
  (fun i x hx=>by
   have hi:=(zL hx)
   have hxm:=yaf hx;have hv:=f3c (s:=x.Name) (by have:=hn x hxm;omega);have hc:=g93 (s:=x.Name) (by have:=hn x hxm;omega);unfold a5b;simp only[a24];rcases i with _|j
   ·simp -zeta only[b2q,dlt hi,d8,hx,a06,s8,c4o,yaa,yac,t8,g9 (show 0<9223372036854775807 by omega),hv,hc]
    try rfl
   ·have hj:l[j]?=some l[j]:=yab (by omega);simp -zeta only[b2q,dlt hi,d8,hx,a06,s8,g0c,a5v (show j<1000000000 by omega),hj,yaa,yac,t8,g9 (show j+1<9223372036854775807 by omega),hv,hc];rfl)
 exact h
theorem g97 {l:List Patron} (hl:l.length<1000000000) (hn:∀x∈l,x.Name.length<10000000):qau l=some (a34 l):=by
 unfold qau a34;rw[d2p hl hn];generalize a0k (a5b l) 0 l=e;cases decide (32<(l.length:Int)) with
 |true=>rfl
 |false=>
  by_cases h:e=0
  ·subst h;rfl
  ·have h2:(e==0)=false:=by simpa using h
   simp only[h2,yaF,ybk,yaa]
def a89 (l:List Loan) (i:Nat) (x:Loan):Int:=
 bif t8 l i (fun y=>decide (x.Item≤y.Item)) then 7
 else bif decide (x.Item<1)||decide (9999<x.Item)||decide (x.Patron<1)||decide (9999<x.Patron)||decide (x.Out<0)||decide (109572<x.Out)||decide (x.Due<0)||decide (109572<x.Due)||decide (x.Due<x.Out)||decide (x.Renewals<0)||decide (10<x.Renewals) then 2 else 0
def a2o (l:List Loan):Int:=bif decide (64<(l.length:Int)) then 13 else a0k (a89 l) 0 l
theorem d2o {l:List Loan} (hl:l.length<1000000000):c4 b2p (l,0,())=some (if a0k (a89 l) 0 l==0 then .inl () else .inr (a0k (a89 l) 0 l,())):=by
 have h:=a35 (step:=b2p) (fun i=>(l,(i:Int),())) l (a89 l) (.inl ()) (fun e=>.inr (e,())) hl
  (by simp only[b2p,dge,yaa])
  (fun i x hx=>by
   have hi:=(zL hx)
   have hxm:=yaf hx;unfold a89;simp only[a24];rcases i with _|j
   ·simp -zeta only[b2p,dlt hi,d8,hx,a06,s8,c4o,yaa,yac,t8,g9 (show 0<9223372036854775807 by omega)]
    try rfl
   ·have hj:l[j]?=some l[j]:=yab (by omega);simp -zeta only[b2p,dlt hi,d8,hx,a06,s8,g0c,a5v (show j<1000000000 by omega),hj,yaa,yac,t8,g9 (show j+1<9223372036854775807 by omega)];rfl)
 exact h
theorem g96 {l:List Loan} (hl:l.length<1000000000):qat l=some (a2o l):=by
 unfold qat a2o;rw[d2o hl];generalize a0k (a89 l) 0 l=e;cases decide (64<(l.length:Int)) with
 |true=>rfl
 |false=>
  by_cases h:e=0
  ·subst h;rfl
  ·have h2:(e==0)=false:=by simpa using h
   simp only[h2,yaF,ybk,yaa]
def o3 (h:Hold):Int:=
 bif decide (h.ID<1)||decide (99999<h.ID)||!(rng 1 9999 h.Patron)||!(rng 1 9999 h.Record)||!(h.Item==0)&&!(rng 1 9999 h.Item)||decide (h.Pickup<1)||decide (4<h.Pickup)||!(rng 0 109572 h.Placed)||!(h.Got==0)&&!(rng 1 9999 h.Got)||!(rng 0 109572 h.Until)||!(rng 0 109572 h.Asleep)||decide (h.Rank<0)||decide (9<h.Rank) then 2
 else bif decide (h.State<1)||decide (3<h.State) then 1
 else bif !((decide (0<h.Got))==(!(h.State==1)))||!((decide (0<h.Until))==(h.State==3)) then 12 else 0
theorem f3x (h:Hold):qdi h=some (o3 h):=by
 unfold qdi o3;simp -zeta only[a06,s8,f3v,f3w,←a2n]
 try rfl
def a1m (l:List Hold) (i:Nat) (x:Hold):Int:=
 bif t8 l i (fun y=>decide (x.ID≤y.ID)) then 7 else bif !(o3 x==0) then o3 x else 0
theorem d97 {l:List Hold} (hl:l.length<1000000000):c4 c5p (l,0,())=some (if a0k (a1m l) 0 l==0 then .inl (l,()) else .inr (a0k (a1m l) 0 l,())):=by
 have h:=a35 (step:=c5p) (fun i=>(l,(i:Int),())) l (a1m l) (.inl (l,())) (fun e=>.inr (e,())) hl
  (by simp only[c5p,dge,yaa])
  (fun i x hx=>by
   have hi:=(zL hx)
   have hxm:=yaf hx;have hs:∀(a:List Hold×Int×Unit) (g:Int→((List Hold×Unit)⊕(Int×Unit))),(bif !(o3 x==0) then a7h a g (o3 x) else a7h a g 0)=bif !(o3 x==0) then some (.inr (g (o3 x))) else some (.inl a):=fun a g=>by
    unfold a7h;cases o3 x==0<;>rfl
   unfold a1m;simp only[a24,hs];rcases i with _|j
   ·simp -zeta only[c5p,dlt hi,d8,hx,a06,s8,c4o,yaa,yac,t8,g9 (show 0<9223372036854775807 by omega),f3x]
    try rfl
   ·have hj:l[j]?=some l[j]:=yab (by omega);simp -zeta only[c5p,dlt hi,d8,hx,a06,s8,g0c,a5v (show j<1000000000 by omega),hj,yaa,yac,t8,g9 (show j+1<9223372036854775807 by omega),f3x];rfl)
 exact h
def a00 (x y:Hold):Bool:=x.Patron==y.Patron&&x.Record==y.Record||decide (0<x.Got)&&x.Got==y.Got
theorem d2y {l:List Hold} {i:Nat} {x:Hold} (hl:l.length<1000000000) (hx:l[i]?=some x):c4 b29 (l,(i:Int),0,())=some (bif (l.take i).all (fun y=>!(a00 x y)) then .inl (l,(i:Int),()) else .inr (7,())):=by
 have hi:=(zL hx)
 have h:=m8 (step:=b29) (fun k=>(l,(i:Int),(k:Int),())) (l.take i) (fun _ y=>!(a00 x y)) (.inr (7,())) (.inl (l,(i:Int),())) (by rw[ya5];omega)
  (by rw[ya5,Nat.min_eq_left (by omega)];simp only[b29,dge,yaa])
  (fun k y hy=>by
   have hk:=(zL hy)
   rw[ya5]at hk;have hy2:l[k]?=some y:=by rw[←hy,List.getElem?_take_of_lt (by omega)]
   simp -zeta only[b29,dlt (show k<i by omega),d8,hx,hy2,a06,s8,yac,g9 (show k<9223372036854775807 by omega)];dsimp only;unfold a00;cases (x.Patron==y.Patron&&x.Record==y.Record||decide (0<x.Got)&&x.Got==y.Got)<;>rfl)
 rw[show c4 b29 (l,(i:Int),0,())=_ from h,o9]
def a33 (l:List Hold):Bool:=a2s (fun i x=>(l.take i).all (fun y=>!(a00 x y))) 0 l
theorem d2x {l:List Hold} (hl:l.length<1000000000):c4 b59 (l,0,())=some (bif a33 l then .inl () else .inr (7,())):=by
 have h:=m8 (step:=b59) (fun i=>(l,(i:Int),())) l (fun i x=>(l.take i).all (fun y=>!(a00 x y))) (.inr (7,())) (.inl ()) hl
  (by simp only[b59,dge,yaa])
  (fun i x hx=>by
   have hi:=(zL hx)
   simp only[b59,dlt hi,yac,d2y hl hx];cases (l.take i).all (fun y=>!(a00 x y)) with
   |true=>simp only[yac,g9 (show i<9223372036854775807 by omega)]
   |false=>rfl)
 exact h
def a0c (l:List Hold):Int:=bif decide (64<(l.length:Int)) then 13 else bif a0k (a1m l) 0 l==0 then (bif a33 l then 0 else 7) else a0k (a1m l) 0 l
theorem h3g {l:List Hold} (hl:l.length<1000000000):qi l=some (a0c l):=by
 unfold qi a0c;rw[d97 hl];cases decide (64<(l.length:Int)) with
 |true=>rfl
 |false=>
  by_cases h:a0k (a1m l) 0 l=0
  ·simp only[h,yai,ybB,yaa,yac,d2x hl];cases a33 l<;>rfl
  ·have:(a0k (a1m l) 0 l==0)=false:=by simpa using h
   simp only[this,yaF,ybk,yaa]
def a9x (r:Rule):Bool:=rng 0 9 r.Patron&&rng 0 9 r.Item&&rng 0 4 r.Branch&&(rng 0 365 r.Days&&rng 0 10 r.Renewals&&rng 0 99 r.Loans)&&(rng 0 1000 r.Fine&&rng 0 30 r.Grace&&rng 0 100000000 r.MaxFine)&&rng 1 60 r.Shelf&&rng 1 60 r.Recall&&rng 0 109572 r.Fixed&&rng 0 9 r.Rank
theorem h0h (r:Rule):qcn r=some (a9x r):=by
 unfold qcn a9x;simp -zeta only[a06,s8,g9y]
 try rfl
def a8s (x y:Rule):Bool:=x.Patron==y.Patron&&x.Item==y.Item&&x.Branch==y.Branch
def a7u (l:List Rule) (i:Nat) (x:Rule):Int:=bif !(a9x x) then 2 else bif (l.take i).all (fun y=>!(a8s y x)) then 0 else 7
theorem d96 {l:List Rule} {i:Nat} {x:Rule} (hl:l.length<1000000000) (hx:l[i]?=some x):c4 c5o (l,(i:Int),0,())=some (bif (l.take i).all (fun y=>!(a8s y x)) then .inl (l,(i:Int),()) else .inr (7,())):=by
 have hi:=(zL hx)
 have h:=m8 (step:=c5o) (fun k=>(l,(i:Int),(k:Int),())) (l.take i) (fun _ y=>!(a8s y x)) (.inr (7,())) (.inl (l,(i:Int),())) (by rw[ya5];omega)
  (by rw[ya5,Nat.min_eq_left (by omega)];simp only[c5o,dge,yaa])
  (fun k y hy=>by
   have hk:=(zL hy)
   rw[ya5]at hk;have hy2:l[k]?=some y:=by rw[←hy,List.getElem?_take_of_lt (by omega)]
   simp -zeta only[c5o,dlt (show k<i by omega),d8,hx,hy2,a06,s8,yac,g9 (show k<9223372036854775807 by omega)];dsimp only;unfold a8s;cases (y.Patron==x.Patron&&y.Item==x.Item&&y.Branch==x.Branch)<;>rfl)
 rw[show c4 c5o (l,(i:Int),0,())=_ from h,o9]
theorem d95 {l:List Rule} (hl:l.length<1000000000):c4 d2w (l,0,())=some (if a0k (a7u l) 0 l==0 then .inl () else .inr (a0k (a7u l) 0 l,())):=by
 have h:=a35 (step:=d2w) (fun i=>(l,(i:Int),())) l (a7u l) (.inl ()) (fun e=>.inr (e,())) hl
  (by simp only[d2w,dge,yaa])
  (fun i x hx=>by
   have hi:=(zL hx)
   unfold a7u;simp only[a24,d2w,dlt hi,d8,hx,yac,h0h,d96 hl hx];cases a9x x with
   |false=>rfl
   |true=>
    simp only[yam,yaa];cases (l.take i).all (fun y=>!(a8s y x)) with
    |true=>simp only[yac,g9 (show i<9223372036854775807 by omega)];rfl
    |false=>rfl)
 exact h
def a5s (l:List Rule):Int:=bif decide (32<(l.length:Int)) then 13 else a0k (a7u l) 0 l
theorem h3f {l:List Rule} (hl:l.length<1000000000):qh l=some (a5s l):=by
 unfold qh a5s;rw[d95 hl];generalize a0k (a7u l) 0 l=e;cases decide (32<(l.length:Int)) with
 |true=>rfl
 |false=>
  by_cases h:e=0
  ·subst h;rfl
  ·have h2:(e==0)=false:=by simpa using h
   simp only[h2,yaF,ybk,yaa]
def e3i (l:List Int):Bool:=a2s (fun i x=>!(t8 l i (fun y=>decide (x≤y)))) 0 l
theorem c3m {X:Type} {p:Nat→X→Bool}:∀{l:List X} {i:Nat},a2s p (i+1) l=a2s (fun i=>p (i+1)) i l:=by
 intro l
 induction l with
 |nil=>intros;rfl
 |cons x l ih=>intro i;simp only[a2s];rw[ih]
theorem d7t (l:List Int):e3i l=a2s (fun i x=>!(t8 l (i+1) (fun y=>decide (x≤y)))) 0 l.tail:=by
 cases l with
 |nil=>rfl
 |cons x l=>
  unfold e3i;simp only[a2s,List.tail_cons];rw[c3m]
  try rfl
def a04 (c:Calendar):Int:=
 bif decide (c.Week<0)||decide (126<c.Week) then 1
 else bif decide (64<(c.Closed.length:Int)) then 13
 else bif c.Closed.all (fun x=>!(decide (x<0)||decide (109572<x))) then (bif e3i c.Closed then 0 else 7) else 2
theorem d99 {c:Calendar} (hl:c.Closed.length<1000000000):c4 c5r (0,c,())=some (bif c.Closed.all (fun x=>!(decide (x<0)||decide (109572<x))) then .inl (c,()) else .inr (2,())):=by
 have h:=m8 (step:=c5r) (fun i=>((i:Int),c,())) c.Closed (fun _ x=>!(decide (x<0)||decide (109572<x))) (.inr (2,())) (.inl (c,())) hl
  (by simp only[c5r,dge,yaa])
  (fun i x hx=>by
   have hi:=(zL hx)
   simp -zeta only[c5r,dlt hi,d8,hx,a06,s8,yac,g9 (show i<9223372036854775807 by omega)];cases (decide (x<0)||decide (109572<x))<;>rfl)
 rw[show c4 c5r (0,c,())=_ from h,o9]
theorem d22 {c:Calendar} (hl:c.Closed.length<1000000000):c4 b3c (1,c,())=some (bif e3i c.Closed then .inl () else .inr (7,())):=by
 have h:=m8 (step:=b3c) (fun i=>(((i+1:Nat):Int),c,())) c.Closed.tail (fun i x=>!(t8 c.Closed (i+1) (fun y=>decide (x≤y)))) (.inr (7,())) (.inl ()) (by rw[List.length_tail];omega)
  (by
   rw[List.length_tail];have:decide (((c.Closed.length-1+1:Nat):Int)<(c.Closed.length:Int))=false:=by rw[yag];omega
   simp only[b3c,this,yaa])
  (fun i x hx=>by
   rw[List.getElem?_tail]at hx;have hi:=(zL hx)
   have hj:c.Closed[i]?=some c.Closed[i]:=yab (by omega);simp -zeta only[b3c,dlt hi,d8,hx,yac,a5v (show i<1000000000 by omega),hj,t8,g9 (show i+1<9223372036854775807 by omega)];cases decide (x≤c.Closed[i])<;>rfl)
 rw[show c4 b3c (1,c,())=_ from h,d7t]
theorem e0a {c:Calendar} (hl:c.Closed.length<1000000000):qq c=some (a04 c):=by
 unfold qq a04;simp -zeta only[a06];dsimp only;rw[d99 hl];cases (decide (c.Week<0)||decide (126<c.Week)) with
 |true=>rfl
 |false=>
  cases decide (64<(c.Closed.length:Int)) with
  |true=>rfl
  |false=>
   cases c.Closed.all (fun x=>!(decide (x<0)||decide (109572<x))) with
   |false=>rfl
   |true=>
    simp only[yaa,yac,d22 hl];cases e3i c.Closed<;>rfl
end
section
open Ev
open Go (IntKind)
def g2v (state:Int):Bool:=(state==4||state==5||state==8||state==9||state==10)
theorem b28 (state:Int):qeo state=some (g2v state):=by
 unfold qeo
 try simp -zeta only[a06,s8,a86,a2n,yac,yaa]
 try dsimp only
 try simp only[a2n]
 try rfl
def a7s (c:Custody):Bool:=(bif decide (c.State<1)||decide (12<c.State)||decide (c.Branch<1)||decide (4<c.Branch) then false
 else
  bif c.State==6 then
   decide (0≤c.Who)&&decide (c.Who≤9999)&&decide (1≤c.To)&&decide (c.To≤4)&&!c.To==c.Branch
  else
   bif !c.To==0 then false
   else bif g2v c.State then decide (1≤c.Who)&&decide (c.Who≤9999) else c.Who==0)
theorem b2w (c:Custody):qc5 c=some (a7s c):=by
 unfold qc5
 try simp -zeta only[a06,s8,a86,a2n,yac,yaa,b28]
 try dsimp only
 try simp only[a2n]
 try rfl
def a7t (m:Move):Bool:=(decide (0≤m.Day)&&decide (m.Day≤109572)&&decide (1≤m.Item)&&decide (m.Item≤9999)&&
 decide (1≤m.Kind)&&
 decide (m.Kind≤15)&&
 decide (1≤m.Branch)&&
 decide (m.Branch≤4)&&
 decide (0≤m.Who)&&
 decide (m.Who≤9999))
theorem b58 (m:Move):qdz m=some (a7t m):=by
 unfold qdz
 try simp -zeta only[a06,s8,a86,a2n,yac,yaa,b28,b2w]
 try dsimp only
 try simp only[a2n]
 try rfl
def c5g (kind:Int):(List Int):=(bif kind==1 then [1]
 else
  bif kind==2 then [2,5]
  else
   bif kind==3 then [3,5]
   else
    bif kind==4 then [4,8,9,10]
    else
     bif kind==5||kind==8 then [2,3]
     else
      bif kind==6 then [2,3,5]
      else
       bif kind==7 then [6]
       else
        bif kind==9 then [7]
        else
         bif kind==10 then [3]
         else
          bif kind==11 then [4]
          else
           bif kind==12 then [4,9]
           else
            bif kind==13 then [2,3,5,6,7]
            else bif kind==14 then [11] else bif kind==15 then [1,2,3,11,10] else [])
theorem c2l (kind:Int):qb7 kind=some (c5g kind):=by
 unfold qb7
 try simp -zeta only[a06,s8,a86,a2n,yac,yaa,b28,b2w,b58]
 try dsimp only
 try simp only[a2n]
 try rfl
def w9 (kind:Int):Int:=(bif kind==1||(kind==4||(kind==7||(kind==9||kind==14))) then 2
 else
  bif kind==2 then 3
  else
   bif kind==3 then 4
   else
    bif kind==5 then 5
    else
     bif kind==6 then 6
     else
      bif kind==8 then 7
      else
       bif kind==10 then 8
       else bif kind==11 then 9 else bif kind==12 then 10 else bif kind==13 then 11 else 12)
theorem c94 (kind:Int):qeu kind=some (w9 kind):=by
 unfold qeu
 try simp -zeta only[a06,s8,a86,a2n,yac,yaa,b28,b2w,b58,c2l]
 try dsimp only
 try simp only[a2n]
 try rfl
def b8g (c:Custody) (m:Move):Bool:=(bif m.Kind==1||(m.Kind==4||(m.Kind==9||m.Kind==14)) then m.Who==0
 else
  bif m.Kind==7 then m.Who==0&&m.Branch==c.To
  else
   bif m.Kind==6 then !m.Branch==c.Branch
   else
    bif m.Kind==3||(m.Kind==5||m.Kind==10) then m.Branch==c.Branch&&decide (1≤m.Who)
    else m.Branch==c.Branch&&m.Who==0)
theorem d93 (c:Custody) (m:Move):qcw c m=some (b8g c m):=by
 unfold qcw
 try simp -zeta only[a06,s8,a86,a2n,yac,yaa,b28,b2w,b58,c2l,c94]
 try dsimp only
 try simp only[a2n]
 try rfl
def b26 (branch:Int):Custody:={State:=1,Branch:=branch,Who:=0,To:=0}
theorem f3y (branch:Int):qdj branch=some (b26 branch):=by
 unfold qdj
 try simp -zeta only[a06,s8,a86,a2n,yac,yaa,b28,b2w,b58,c2l,c94,d93]
 try dsimp only
 try simp only[a2n]
 try rfl
def a2h (u:Custody):Bool:=(u.State==4||u.State==9||u.State==10)
theorem d9x (u:Custody):qc2 u=some (a2h u):=by
 unfold qc2
 try simp -zeta only[a06,s8,a86,a2n,yac,yaa,b28,b2w,b58,c2l,c94,d93,f3y]
 try dsimp only
 try simp only[a2n]
 try rfl
end
section
open Ev
open Go (IntKind)
theorem h4c {X:Type} {p:X→Bool}:∀{l:List X} {i:Nat},a2t p (fun _ _=>true) false i l=l.any p:=by
 intro l
 induction l with
 |nil=>intros;rfl
 |cons x l ih=>intro i;simp only[a2t,List.any_cons];cases p x with|true=>rfl|false=>rw[yaa,ih,ybu]
def a5x (state kind:Int):Bool:=(c5g kind).any (fun x=>x==state)
theorem e5q {X:Type} {b:Bool} {x y:List X} {n:Nat} (hx:x.length<n) (hy:y.length<n):(bif b then x else y).length<n:=by cases b<;>assumption
theorem d3h (kind:Int):(c5g kind).length<10:=by
 unfold c5g
 repeat' first|apply e5q|decide
theorem g9z (state kind:Int):qaf state kind=some (a5x state kind):=by
 unfold qaf a5x;rw[c2l];have hl:=d3h kind;generalize c5g kind=l at hl ⊢;have h:=t7 (step:=b5o) (fun i=>(state,l,(i:Int),())) l (fun x=>x==state) (fun _ _=>(.inr (true,()):Unit⊕(Bool×Unit))) (.inl ()) (by omega)
  (by simp only[b5o,dge,yaa])
  (fun i x hx=>by
   have hi:=(zL hx)
   simp only[b5o,dlt hi,d8,hx,yac,g9 (show i<9223372036854775807 by omega)])
 dsimp only;rw[show c4 b5o (state,l,0,())=_ from h,←h4c (i:=0)];have key:∀(l:List Int) (i:Nat),(match some (a2t (fun x=>x==state) (fun _ _=>(.inr (true,()):Unit⊕(Bool×Unit))) (.inl ()) i l) with|some (.inl _)=>some false|some (.inr (v,_))=>some v|none=>none)=some (a2t (fun x=>x==state) (fun _ _=>true) false i l):=by
  intro l
  induction l with
  |nil=>intro i;rfl
  |cons x l ih=>intro i;simp only[a2t];cases x==state with|true=>rfl|false=>exact ih _
 exact key l 0
def o0 (c:Custody) (m:Move):Custody×Int:=
 bif !(a7s c)||!(a7t m) then (⟨0,0,0,0⟩,1)
 else bif !(a5x c.State m.Kind) then (⟨0,0,0,0⟩,12)
 else bif m.Kind==3&&c.State==5&&!(m.Who==c.Who) then (⟨0,0,0,0⟩,16)
 else bif !(b8g c m) then (⟨0,0,0,0⟩,1)
 else bif w9 m.Kind==2 then (⟨w9 m.Kind,m.Branch,0,0⟩,0)
 else bif w9 m.Kind==4||(w9 m.Kind==5||w9 m.Kind==8) then (⟨w9 m.Kind,c.Branch,m.Who,0⟩,0)
 else bif w9 m.Kind==6 then (⟨w9 m.Kind,c.Branch,m.Who,m.Branch⟩,0)
 else bif w9 m.Kind==9||w9 m.Kind==10 then (⟨w9 m.Kind,c.Branch,c.Who,0⟩,0)
 else (⟨w9 m.Kind,c.Branch,0,0⟩,0)
theorem f3k (c:Custody) (m:Move):qb1 c m=some (o0 c m):=by
 unfold qb1 o0;simp -zeta only[a06,s8,a86,b2w,b58,g9z,d93,c94];dsimp only;simp only[a2n]
def u6:Nat→List Move→Int→Custody→(Custody⊕(Int×Int))
 |_,[],_,c=>.inl c
 |i,x::l,item,c=>bif x.Item==item then (bif (o0 c x).2==0 then u6 (i+1) l item (o0 c x).1 else .inr ((i:Int),(o0 c x).2)) else u6 (i+1) l item c
def a0q (branch:Int) (l:List Move) (item:Int):Custody×Int×Int:=
 bif decide (branch<1)||decide (4<branch) then (⟨0,0,0,0⟩,-1,1)
 else match u6 0 l item (b26 branch) with
  |.inl c=>(c,-1,0)
  |.inr (i,e)=>(⟨0,0,0,0⟩,i,e)
theorem c6b {β:Type} (item:Int) (fin:Custody→β) (out:Int×Int→β):∀(l:List Move) (i:Nat) (c:Custody),
 a0w (fun i x c=>bif x.Item==item then (bif (o0 c x).2==0 then .inl (o0 c x).1 else .inr (out ((i:Int),(o0 c x).2))) else .inl c) fin i l c=(match u6 i l item c with | .inl c=>fin c | .inr p=>out p):=by
 intro l
 induction l with
 |nil=>intros;rfl
 |cons x l ih=>
  intro i c;simp only[a0w,u6];cases x.Item==item with
  |false=>exact ih _ _
  |true=>
   simp only[yac];cases (o0 c x).2==0 with
   |true=>exact ih _ _
   |false=>rfl
theorem g92 {branch:Int} {l:List Move} {item:Int} (hl:l.length<1000000000):qam branch l item=some (a0q branch l item):=by
 unfold qam a0q;simp -zeta only[a06,f3y];dsimp only;have h:=a16 (step:=b5t) (fun i c=>(l,item,(i:Int),(⟨0,0,0,0⟩:Custody),c,())) l
  (fun i x c=>bif x.Item==item then (bif (o0 c x).2==0 then .inl (o0 c x).1 else .inr (.inr ((i:Int),(o0 c x).2,(⟨0,0,0,0⟩:Custody),()))) else .inl c)
  (fun c=>.inl (⟨0,0,0,0⟩,c,())) (by show l.length<18446744073709551616;omega) (fun c=>by simp only[b5t,dge,yaa])
  (fun i x c hx=>by
   have hi:=(zL hx)
   simp only[b5t,dlt hi,d8,hx,yac,f3k,g9 (show i<9223372036854775807 by omega)];cases x.Item==item with
   |false=>rfl
   |true=>
    simp only[yam,yaa,yac];obtain ⟨d,e⟩:=o0 c x;cases he:e==0 with
    |true=>rfl
    |false=>rfl) (b26 branch)
 rw[c6b item (fun c=>(.inl (⟨0,0,0,0⟩,c,()):(Custody×Custody×Unit)⊕(Int×Int×Custody×Unit))) (fun p=>.inr (p.1,p.2,(⟨0,0,0,0⟩:Custody),()))]at h;rw[show c4 b5t (l,item,0,(⟨0,0,0,0⟩:Custody),b26 branch,())=_ from h];cases (decide (branch<1)||decide (4<branch)) with
 |true=>rfl
 |false=>
  simp only[yaa];cases u6 0 l item (b26 branch) with
  |inl c=>rfl
  |inr p=>rfl
end
section
open Ev
open Go (IntKind)
theorem o8 {X:Type} (p:X→Bool) (l:List X):(a7b p l = -1∧l.find? p=none)∨∃(i:Nat) (x:X),a7b p l=(i:Int)∧l[i]?=some x∧p x=true∧l.find? p=some x:=by
 unfold a7b
 induction l with
 |nil=>exact .inl ⟨rfl,rfl⟩
 |cons y l ih=>
  simp only[ybV,List.find?_cons];cases hp:p y with
  |true=>exact .inr ⟨0,y,rfl,rfl,hp,rfl⟩
  |false=>
   simp only[yaF,ybk];rcases ih with ⟨h1,h2⟩|⟨i,x,h1,h2,h3,h4⟩
   ·left;refine ⟨?_,h2⟩;cases hf:l.findIdx? p with
    |none=>rfl
    |some k=>rw[hf]at h1;simp only at h1;omega
   ·right;refine ⟨i+1,x,?_,by simpa using h2,h3,h4⟩;cases hf:l.findIdx? p with
    |none=>rw[hf]at h1;simp only at h1;omega
    |some k=>rw[hf]at h1;simp only[ybF]at h1 ⊢;omega
theorem b69:decide ((-1:Int)<0)=true:=rfl
theorem a52 {i:Nat}:decide ((i:Int)<0)=false:=by rw[yag];omega
def a84 (l:List Patron) (id:Int):Patron×Bool:=match l.find? (fun p=>p.ID==id) with|some p=>(p,true)|none=>(⟨0,0,0,0,false,[]⟩,false)
def b1p (l:List Loan) (item:Int):Loan×Bool:=match l.find? (fun n=>n.Item==item) with|some n=>(n,true)|none=>(⟨0,0,0,0,0,false⟩,false)
def b5c:Hold:=⟨0,0,0,0,0,0,0,0,0,0,0⟩
def o7 (c:Circ) (item:Int):Hold×Bool:=match c.Holds.find? (fun h=>h.Got==item) with|some h=>(h,true)|none=>(b5c,false)
theorem e8t {c:Circ} {item:Int} (hl:c.Items.length<1000000000):qe c item=some (a7b (fun x=>x.ID==item) c.Items):=by
 unfold qe;have h:=t7 (step:=d2u) (fun i=>(item,(i:Int),c,())) c.Items (fun x=>x.ID==item) (fun i _=>(.inr ((i:Int),()):Unit⊕(Int×Unit))) (.inl ()) hl
  (by simp only[d2u,dge,yaa])
  (fun i x hx=>by
   have hi:=(zL hx)
   simp only[d2u,dlt hi,d8,hx,yac,g9 (show i<9223372036854775807 by omega)])
 rw[show c4 d2u (item,0,c,())=_ from h,←a2c];have:=a0z (p:=fun x:Item=>x.ID==item) (g:=fun i _=>(.inr ((i:Int),()):Unit⊕(Int×Unit))) (d:=.inl ()) (fun z=>match (some z:Option (Unit⊕(Int×Unit))) with|some (.inl _)=>some (-1)|some (.inr (v,_))=>some v|none=>none) (l:=c.Items) (i:=0);exact this.trans ((a0z (p:=fun x:Item=>x.ID==item) (g:=fun i _=>(i:Int)) (d:=-1) (fun z=>some z) (l:=c.Items) (i:=0)).symm)
theorem b8h {c:Circ} {item:Int} (hl:c.Items.length<1000000000):(qe c item=some (-1)∧c.Items.find? (fun x=>x.ID==item)=none)∨
 ∃(i:Nat) (x:Item),qe c item=some (i:Int)∧c.Items[i]?=some x∧x.ID=item∧c.Items.find? (fun x=>x.ID==item)=some x:=by
 rw[e8t hl];rcases o8 (fun x:Item=>x.ID==item) c.Items with ⟨h1,h2⟩|⟨i,x,h1,h2,h3,h4⟩
 ·exact .inl ⟨by rw[h1],h2⟩
 ·exact .inr ⟨i,x,by rw[h1],h2,by simpa using h3,h4⟩
theorem g95 {l:List Patron} {id:Int} (hl:l.length<1000000000):qap l id=some (a7b (fun x=>x.ID==id) l):=by
 unfold qap;have h:=t7 (step:=b5v) (fun i=>(l,id,(i:Int),())) l (fun x=>x.ID==id) (fun i _=>(.inr ((i:Int),()):Unit⊕(Int×Unit))) (.inl ()) hl
  (by simp only[b5v,dge,yaa])
  (fun i x hx=>by
   have hi:=(zL hx)
   simp only[b5v,dlt hi,d8,hx,yac,g9 (show i<9223372036854775807 by omega)])
 rw[show c4 b5v (l,id,0,())=_ from h,←a2c];have:=a0z (p:=fun x:Patron=>x.ID==id) (g:=fun i _=>(.inr ((i:Int),()):Unit⊕(Int×Unit))) (d:=.inl ()) (fun z=>match (some z:Option (Unit⊕(Int×Unit))) with|some (.inl _)=>some (-1)|some (.inr (v,_))=>some v|none=>none) (l:=l) (i:=0);exact this.trans ((a0z (p:=fun x:Patron=>x.ID==id) (g:=fun i _=>(i:Int)) (d:=-1) (fun z=>some z) (l:=l) (i:=0)).symm)
theorem b2v {l:List Patron} {id:Int} (hl:l.length<1000000000):qbx l id=some (a84 l id):=by
 unfold qbx a84;rw[g95 hl];rcases o8 (fun x:Patron=>x.ID==id) l with ⟨h1,h2⟩|⟨i,x,h1,h2,h3,h4⟩
 ·simp only[h1,h2,b69,yac]
 ·simp only[h1,h4,a52,yaa,d8,h2]
theorem f3d {l:List Loan} {id:Int} (hl:l.length<1000000000):qab l id=some (a7b (fun x=>x.Item==id) l):=by
 unfold qab;have h:=t7 (step:=b5m) (fun i=>(l,id,(i:Int),())) l (fun x=>x.Item==id) (fun i _=>(.inr ((i:Int),()):Unit⊕(Int×Unit))) (.inl ()) hl
  (by simp only[b5m,dge,yaa])
  (fun i x hx=>by
   have hi:=(zL hx)
   simp only[b5m,dlt hi,d8,hx,yac,g9 (show i<9223372036854775807 by omega)])
 rw[show c4 b5m (l,id,0,())=_ from h,←a2c];have:=a0z (p:=fun x:Loan=>x.Item==id) (g:=fun i _=>(.inr ((i:Int),()):Unit⊕(Int×Unit))) (d:=.inl ()) (fun z=>match (some z:Option (Unit⊕(Int×Unit))) with|some (.inl _)=>some (-1)|some (.inr (v,_))=>some v|none=>none) (l:=l) (i:=0);exact this.trans ((a0z (p:=fun x:Loan=>x.Item==id) (g:=fun i _=>(i:Int)) (d:=-1) (fun z=>some z) (l:=l) (i:=0)).symm)
theorem h0o {l:List Loan} {id:Int} (hl:l.length<1000000000):qdo l id=some (b1p l id):=by
 unfold qdo b1p;rw[f3d hl];rcases o8 (fun x:Loan=>x.Item==id) l with ⟨h1,h2⟩|⟨i,x,h1,h2,h3,h4⟩
 ·simp only[h1,h2,b69,yac]
 ·simp only[h1,h4,a52,yaa,d8,h2]
theorem c51 {c:Circ} {item:Int} (hl:c.Holds.length<1000000000):qz c item=some (o7 c item):=by
 unfold qz o7;have h:=t7 (step:=d27) (fun i=>(item,(i:Int),c,b5c,())) c.Holds (fun x=>x.Got==item) (fun _ x=>(.inr (true,x,()):(Hold×Unit)⊕(Bool×Hold×Unit))) (.inl (b5c,())) hl
  (by simp only[d27,dge,yaa])
  (fun i x hx=>by
   have hi:=(zL hx)
   simp only[d27,dlt hi,d8,hx,yac,g9 (show i<9223372036854775807 by omega)])
 rw[show c4 d27 (item,0,c,(⟨0,0,0,0,0,0,0,0,0,0,0⟩:Hold),())=_ from h,a6x];cases c.Holds.find? (fun x=>x.Got==item)<;>rfl
def a3z (c:Circ) (i:Nat) (x:Item):Bool:=
 !(decide (x.ID<1)||decide (9999<x.ID)||t8 c.Items i (fun y=>decide (x.ID≤y.ID))||decide (x.Record<1)||decide (9999<x.Record)||decide (x.Branch<1)||decide (4<x.Branch))&&
 !(decide (x.Kind<1)||decide (9<x.Kind)||decide (x.Price<0)||decide (100000000<x.Price)||decide (200<(x.Call.length:Int))||!(vld x.Call))&&
 !(!((a0q x.Branch c.Moves x.ID).2.2==0)||!(a0j (a0q x.Branch c.Moves x.ID).1 x.Custody))
def a48 (c:Circ):Bool:=!(decide (64<(c.Items.length:Int))||decide (2000<(c.Moves.length:Int)))&&(a2s (a3z c) 0 c.Items&&c.Moves.all (fun m=>(c.Items.find? (fun x=>x.ID==m.Item)).isSome))
structure Short (c:Circ):Prop where
 items:c.Items.length<1000000000
 patrons:c.Patrons.length<1000000000
 loans:c.Loans.length<1000000000
 holds:c.Holds.length<1000000000
 charges:c.Charges.length<1000000000
 rules:c.Rules.length<1000000000
 moves:c.Moves.length<1000000000
 call:∀x∈c.Items,x.Call.length<10000000
 name:∀x∈c.Patrons,x.Name.length<10000000
 cal0:c.Cals.x0.Closed.length<1000000000
 cal1:c.Cals.x1.Closed.length<1000000000
 cal2:c.Cals.x2.Closed.length<1000000000
 cal3:c.Cals.x3.Closed.length<1000000000
theorem e0g {c:Circ} (hs:Short c):c4 c5z (0,c,())=some (bif a2s (a3z c) 0 c.Items then .inl (c,()) else .inr (false,())):=by
 have h:=m8 (step:=c5z) (fun i=>((i:Int),c,())) c.Items (a3z c) (.inr (false,())) (.inl (c,())) hs.items
  (by simp only[c5z,dge,yaa])
  (fun i x hx=>by
   have hi:=(zL hx)
   have hm:=yaf hx;have hv:=f3c (s:=x.Call) (by have:=hs.call x hm;omega);have hr:=g92 (branch:=x.Branch) (item:=x.ID) hs.moves;unfold a3z;rcases i with _|j
   ·simp -zeta only[c5z,dlt hi,d8,hx,a06,s8,c4o,yaa,yac,t8,g9 (show 0<9223372036854775807 by omega),hv,hr];dsimp only;generalize (decide (x.ID<1)||decide (9999<x.ID)||false||decide (x.Record<1)||decide (9999<x.Record)||decide (x.Branch<1)||decide (4<x.Branch))=b1;generalize (decide (x.Kind<1)||decide (9<x.Kind)||decide (x.Price<0)||decide (100000000<x.Price)||decide (200<(x.Call.length:Int))||!(vld x.Call))=b2;generalize (!((a0q x.Branch c.Moves x.ID).2.2==0)||!(a0j (a0q x.Branch c.Moves x.ID).1 x.Custody))=b3;cases b1<;>cases b2<;>cases b3<;>rfl
   ·have hj:c.Items[j]?=some c.Items[j]:=yab (by omega);have:=hs.items;simp -zeta only[c5z,dlt hi,d8,hx,a06,s8,g0c,a5v (show j<1000000000 by omega),hj,yaa,yac,yaQ,t8,g9 (show j+1<9223372036854775807 by omega),hv,hr];dsimp only;generalize (decide (x.ID<1)||decide (9999<x.ID)||decide (x.ID≤c.Items[j].ID)||decide (x.Record<1)||decide (9999<x.Record)||decide (x.Branch<1)||decide (4<x.Branch))=b1;generalize (decide (x.Kind<1)||decide (9<x.Kind)||decide (x.Price<0)||decide (100000000<x.Price)||decide (200<(x.Call.length:Int))||!(vld x.Call))=b2;generalize (!((a0q x.Branch c.Moves x.ID).2.2==0)||!(a0j (a0q x.Branch c.Moves x.ID).1 x.Custody))=b3;cases b1<;>cases b2<;>cases b3<;>rfl)
 exact h
theorem d26 {c:Circ} (hs:Short c):c4 b3e (0,c,())=some (bif c.Moves.all (fun m=>(c.Items.find? (fun x=>x.ID==m.Item)).isSome) then .inl () else .inr (false,())):=by
 have h:=m8 (step:=b3e) (fun i=>((i:Int),c,())) c.Moves (fun _ m=>(c.Items.find? (fun x=>x.ID==m.Item)).isSome) (.inr (false,())) (.inl ()) hs.moves
  (by simp only[b3e,dge,yaa])
  (fun i x hx=>by
   have hi:=(zL hx)
   have:=hs.moves;simp only[b3e,dlt hi,d8,hx,yac,g9 (show i<9223372036854775807 by omega)];rcases b8h (item:=x.Item) hs.items with ⟨h1,h2⟩|⟨k,y,h1,h2,h3,h4⟩
   ·simp only[h1,h2,b69,yac,Option.isSome_none,yaa]
   ·simp only[h1,h4,a52,yaa,Option.isSome_some,yac])
 rw[show c4 b3e (0,c,())=_ from h,o9]
theorem h3l {c:Circ} (hs:Short c):qx c=some (a48 c):=by
 unfold qx a48;simp -zeta only[a06];dsimp only;rw[e0g hs];cases (decide (64<(c.Items.length:Int))||decide (2000<(c.Moves.length:Int))) with
 |true=>rfl
 |false=>
  cases a2s (a3z c) 0 c.Items with
  |false=>rfl
  |true=>
   simp only[yaa,yac,d26 hs];cases c.Moves.all (fun m=>(c.Items.find? (fun x=>x.ID==m.Item)).isSome)<;>rfl
def a5o (c:Circ) (n:Loan):Bool:=match c.Items.find? (fun x=>x.ID==n.Item) with
 |some x=>!(!(a84 c.Patrons n.Patron).2||!(a2h x.Custody)||!(x.Custody.Who==n.Patron))
 |none=>false
def a49 (c:Circ):Bool:=c.Loans.all (a5o c)&&c.Items.all (fun x=>(b1p c.Loans x.ID).2==a2h x.Custody)
theorem h3k {c:Circ} (hs:Short c):qw c=some (a49 c):=by
 have h1:=m8 (step:=c5y) (fun i=>((i:Int),c,())) c.Loans (fun _=>a5o c) (.inr (false,())) (.inl (c,())) hs.loans
  (by simp only[c5y,dge,yaa])
  (fun i x hx=>by
   have hi:=(zL hx)
   have:=hs.loans;unfold a5o;rcases b8h (item:=x.Item) hs.items with ⟨h1,h2⟩|⟨k,y,h1,h2,h3,h4⟩
   ·simp -zeta only[c5y,dlt hi,d8,hx,yac,a06,b2v hs.patrons,h1,h2,b69,Bool.true_or]
    try rfl
   ·simp -zeta only[c5y,dlt hi,d8,hx,yac,a06,b2v hs.patrons,h1,h2,h4,a52,ybu,d9x,g9 (show i<9223372036854775807 by omega)];dsimp only;cases (!(a84 c.Patrons x.Patron).2||!(a2h y.Custody)||!(y.Custody.Who==x.Patron))<;>rfl)
 have h2:=m8 (step:=b6b) (fun i=>((i:Int),c,())) c.Items (fun _ x=>(b1p c.Loans x.ID).2==a2h x.Custody) (.inr (false,())) (.inl ()) hs.items
  (by simp only[b6b,dge,yaa])
  (fun i x hx=>by
   have hi:=(zL hx)
   have:=hs.items;simp only[b6b,dlt hi,d8,hx,yac,h0o hs.loans,d9x,g9 (show i<9223372036854775807 by omega)];cases (b1p c.Loans x.ID).2==a2h x.Custody<;>rfl)
 unfold qw a49;rw[show c4 c5y (0,c,())=_ from h1,o9];cases c.Loans.all (a5o c) with
 |false=>rfl
 |true=>
  simp only[yac];rw[show c4 b6b (0,c,())=_ from h2,o9];cases c.Items.all (fun x=>(b1p c.Loans x.ID).2==a2h x.Custody)<;>rfl
def a3y (c:Circ) (h:Hold):Bool:=
 !(!(a84 c.Patrons h.Patron).2||decide (c.NextHold≤h.ID))&&(h.State==1||(match c.Items.find? (fun x=>x.ID==h.Got) with
  |some x=>!(!(x.Record==h.Record))&&!(h.State==3&&(!(x.Custody.State==5)||!(x.Custody.Branch==h.Pickup)||!(x.Custody.Who==h.Patron)))&&
   !(h.State==2&&(!(x.Custody.State==6)||!(x.Custody.To==h.Pickup)||!(x.Custody.Who==h.Patron)))
  |none=>false))
def a4c (c:Circ) (x:Item):Bool:=!(x.Custody.State==5)||!(!(o7 c x.ID).2||!((o7 c x.ID).1.State==3))
def a47 (c:Circ):Bool:=c.Holds.all (a3y c)&&c.Items.all (a4c c)
theorem h3m {c:Circ} (hs:Short c):qy c=some (a47 c):=by
 have h1:=m8 (step:=c50) (fun i=>((i:Int),c,())) c.Holds (fun _=>a3y c) (.inr (false,())) (.inl (c,())) hs.holds
  (by simp only[c50,dge,yaa])
  (fun i x hx=>by
   have hi:=(zL hx)
   have:=hs.holds;unfold a3y;rcases b8h (item:=x.Got) hs.items with ⟨h1,h2⟩|⟨k,y,h1,h2,h3,h4⟩
   ·simp -zeta only[c50,dlt hi,d8,hx,yac,a06,b2v hs.patrons,h1,h2,b69,g9 (show i<9223372036854775807 by omega)];dsimp only;cases (!(a84 c.Patrons x.Patron).2||decide (c.NextHold≤x.ID)) with
    |true=>rfl
    |false=>cases x.State==1<;>rfl
   ·simp -zeta only[c50,dlt hi,d8,hx,yac,a06,s8,b2v hs.patrons,h1,h2,h4,a52,yaa,g9 (show i<9223372036854775807 by omega)];dsimp only;generalize (!(a84 c.Patrons x.Patron).2||decide (c.NextHold≤x.ID))=b1;generalize (x.State==1)=b2;generalize (!(y.Record==x.Record))=b3;generalize (!(y.Custody.State==5)||!(y.Custody.Branch==x.Pickup)||!(y.Custody.Who==x.Patron))=b4;generalize (!(y.Custody.State==6)||!(y.Custody.To==x.Pickup)||!(y.Custody.Who==x.Patron))=b5;generalize (x.State==3)=b6;generalize (x.State==2)=b7;cases b1<;>cases b2<;>cases b3<;>cases b4<;>cases b5<;>cases b6<;>cases b7<;>rfl)
 have h2:=m8 (step:=b6c) (fun i=>((i:Int),c,())) c.Items (fun _=>a4c c) (.inr (false,())) (.inl ()) hs.items
  (by simp only[b6c,dge,yaa])
  (fun i x hx=>by
   have hi:=(zL hx)
   have:=hs.items;unfold a4c;simp -zeta only[b6c,dlt hi,d8,hx,yac,a06,c51 hs.holds,g9 (show i<9223372036854775807 by omega)];dsimp only;cases x.Custody.State==5 with
   |false=>rfl
   |true=>
    generalize (!(o7 c x.ID).2||!((o7 c x.ID).1.State==3))=b;cases b<;>rfl)
 unfold qy a47;rw[show c4 c50 (0,c,())=_ from h1,o9];cases c.Holds.all (a3y c) with
 |false=>rfl
 |true=>
  simp only[yac];rw[show c4 b6c (0,c,())=_ from h2,o9];cases c.Items.all (a4c c)<;>rfl
end
section
open Ev
open Go (IntKind)
def a5h (c:Circ):Bool:=a04 c.Cals.x0==0&&(a04 c.Cals.x1==0&&(a04 c.Cals.x2==0&&a04 c.Cals.x3==0))
theorem d9q {c:Circ} (hs:Short c):c4 c2j (0,c,())=some (bif a5h c then .inl (c,()) else .inr (false,())):=by
 have s0:c2j (0,c,())=bif a04 c.Cals.x0==0 then some (.inl (1,c,())) else some (.inr (.inr (false,()))):=by
  show (match qq c.Cals.x0 with|some r=>(bif !(r==0) then (some (.inr (.inr (false,()))):Option ((Int×Circ×Unit)⊕((Circ×Unit)⊕(Bool×Unit)))) else some (.inl (1,c,())))|none=>none)=_
  rw[e0a hs.cal0];dsimp only;cases a04 c.Cals.x0==0<;>rfl
 have s1:c2j (1,c,())=bif a04 c.Cals.x1==0 then some (.inl (2,c,())) else some (.inr (.inr (false,()))):=by
  show (match qq c.Cals.x1 with|some r=>(bif !(r==0) then (some (.inr (.inr (false,()))):Option ((Int×Circ×Unit)⊕((Circ×Unit)⊕(Bool×Unit)))) else some (.inl (2,c,())))|none=>none)=_
  rw[e0a hs.cal1];dsimp only;cases a04 c.Cals.x1==0<;>rfl
 have s2:c2j (2,c,())=bif a04 c.Cals.x2==0 then some (.inl (3,c,())) else some (.inr (.inr (false,()))):=by
  show (match qq c.Cals.x2 with|some r=>(bif !(r==0) then (some (.inr (.inr (false,()))):Option ((Int×Circ×Unit)⊕((Circ×Unit)⊕(Bool×Unit)))) else some (.inl (3,c,())))|none=>none)=_
  rw[e0a hs.cal2];dsimp only;cases a04 c.Cals.x2==0<;>rfl
 have s3:c2j (3,c,())=bif a04 c.Cals.x3==0 then some (.inl (4,c,())) else some (.inr (.inr (false,()))):=by
  show (match qq c.Cals.x3 with|some r=>(bif !(r==0) then (some (.inr (.inr (false,()))):Option ((Int×Circ×Unit)⊕((Circ×Unit)⊕(Bool×Unit)))) else some (.inl (4,c,())))|none=>none)=_
  rw[e0a hs.cal3];dsimp only;cases a04 c.Cals.x3==0<;>rfl
 have s4:c2j (4,c,())=some (.inr (.inl (c,()))):=rfl;refine o6 5 (by rw[m5];omega) ?_;unfold a5h;simp only[o4,s0,s1,s2,s3,s4];cases a04 c.Cals.x0==0 with
 |false=>rfl
 |true=>
  simp only[yac,o4,s1];cases a04 c.Cals.x1==0 with
  |false=>rfl
  |true=>
   simp only[yac,o4,s2];cases a04 c.Cals.x2==0 with
   |false=>rfl
   |true=>
    simp only[yac,o4,s3];cases a04 c.Cals.x3==0 with
    |false=>rfl
    |true=>simp only[yac,o4,s4];rfl
def a0p (c:Circ) (x:Charge):Bool:=!(!(a84 c.Patrons x.Patron).2||decide (c.NextCharge≤x.ID))
theorem d2m {c:Circ} (hs:Short c):c4 b2m (0,c,())=some (bif c.Charges.all (a0p c) then .inl (c,()) else .inr (false,())):=by
 have h:=m8 (step:=b2m) (fun i=>((i:Int),c,())) c.Charges (fun _=>a0p c) (.inr (false,())) (.inl (c,())) hs.charges
  (by simp only[b2m,dge,yaa])
  (fun i x hx=>by
   have hi:=(zL hx)
   have:=hs.charges;unfold a0p;simp -zeta only[b2m,dlt hi,d8,hx,yac,a06,b2v hs.patrons,g9 (show i<9223372036854775807 by omega)];dsimp only;cases (!(a84 c.Patrons x.Patron).2||decide (c.NextCharge≤x.ID))<;>rfl)
 rw[show c4 b2m (0,c,())=_ from h,o9]
def a4p (c:Circ):Bool:=!(decide (c.Today<0)||decide (109572<c.Today)||decide (c.NextHold<1)||decide (100000<c.NextHold)||decide (c.NextCharge<1)||decide (100000<c.NextCharge))
def a8o (c:Circ):Bool:=!(!(a34 c.Patrons==0)||!(a2o c.Loans==0)||!(a0c c.Holds==0)||!(o1 c.Charges==0)||!(a5s c.Rules==0))
def a5c (c:Circ):Bool:=a4p c&&(a8o c&&(a5h c&&(c.Charges.all (a0p c)&&(a48 c&&(a49 c&&a47 c)))))
theorem h3a {c:Circ} (hs:Short c):q9 c=some (a5c c):=by
 unfold q9 a5c a4p a8o;simp -zeta only[a06,s8,g97 hs.patrons hs.name,g96 hs.loans,h3g hs.holds,f3e hs.charges,h3f hs.rules];dsimp only;rw[d9q hs];generalize (decide (c.Today<0)||decide (109572<c.Today)||decide (c.NextHold<1)||decide (100000<c.NextHold)||decide (c.NextCharge<1)||decide (100000<c.NextCharge))=b1;generalize (!(a34 c.Patrons==0)||!(a2o c.Loans==0)||!(a0c c.Holds==0)||!(o1 c.Charges==0)||!(a5s c.Rules==0))=b2;cases b1 with
 |true=>rfl
 |false=>
  cases b2 with
  |true=>rfl
  |false=>
   cases a5h c with
   |false=>rfl
   |true=>
    simp only[yaa,yac,d2m hs];cases c.Charges.all (a0p c) with
    |false=>rfl
    |true=>
     simp -zeta only[yaa,yac,h3l hs,h3k hs,h3m hs,s8]
     try dsimp only
     cases a48 c<;>cases a49 c<;>cases a47 c<;>rfl
def b3p (c:Circ):Bool:=
 !(decide (10<(c.Items.length:Int))||decide (8<(c.Patrons.length:Int))||decide (12<(c.Holds.length:Int))||decide (12<(c.Loans.length:Int))||decide (30<(c.Charges.length:Int))||decide (10<(c.Rules.length:Int))||decide (200<(c.Moves.length:Int)))&&
 (c.Items.all (fun x=>!(decide (300<(x.Call.length:Int))))&&(c.Patrons.all (fun x=>!(decide (300<(x.Name.length:Int))))&&
  (!(decide (20<(c.Cals.x0.Closed.length:Int)))&&(!(decide (20<(c.Cals.x1.Closed.length:Int)))&&(!(decide (20<(c.Cals.x2.Closed.length:Int)))&&!(decide (20<(c.Cals.x3.Closed.length:Int))))))))
theorem h3c (c:Circ):qb c=some (b3p c):=by
 unfold qb b3p;simp -zeta only[a06,s8];dsimp only;cases hb:(decide (10<(c.Items.length:Int))||decide (8<(c.Patrons.length:Int))||decide (12<(c.Holds.length:Int))||decide (12<(c.Loans.length:Int))||decide (30<(c.Charges.length:Int))||decide (10<(c.Rules.length:Int))||decide (200<(c.Moves.length:Int))) with
 |true=>rfl
 |false=>
  simp only[yal,yag]at hb;have h1:=m8 (step:=d2q) (fun i=>((i:Int),c,())) c.Items (fun _ x=>!(decide (300<(x.Call.length:Int)))) (.inr (false,())) (.inl (c,())) (by omega)
   (by simp only[d2q,dge,yaa])
   (fun i x hx=>by
    have hi:=(zL hx)
    simp only[d2q,dlt hi,d8,hx,yac,g9 (show i<9223372036854775807 by omega)];cases decide (300<(x.Call.length:Int))<;>rfl)
  have h2:=m8 (step:=d2r) (fun i=>((i:Int),c,())) c.Patrons (fun _ x=>!(decide (300<(x.Name.length:Int)))) (.inr (false,())) (.inl (c,())) (by omega)
   (by simp only[d2r,dge,yaa])
   (fun i x hx=>by
    have hi:=(zL hx)
    simp only[d2r,dlt hi,d8,hx,yac,g9 (show i<9223372036854775807 by omega)];cases decide (300<(x.Name.length:Int))<;>rfl)
  have h3:c4 a9v (0,c,())=some (bif (!(decide (20<(c.Cals.x0.Closed.length:Int)))&&(!(decide (20<(c.Cals.x1.Closed.length:Int)))&&(!(decide (20<(c.Cals.x2.Closed.length:Int)))&&!(decide (20<(c.Cals.x3.Closed.length:Int)))))) then .inl () else .inr (false,())):=by
   have s0:a9v (0,c,())=bif decide (20<(c.Cals.x0.Closed.length:Int)) then some (.inr (.inr (false,()))) else some (.inl (1,c,())):=rfl;have s1:a9v (1,c,())=bif decide (20<(c.Cals.x1.Closed.length:Int)) then some (.inr (.inr (false,()))) else some (.inl (2,c,())):=rfl;have s2:a9v (2,c,())=bif decide (20<(c.Cals.x2.Closed.length:Int)) then some (.inr (.inr (false,()))) else some (.inl (3,c,())):=rfl;have s3:a9v (3,c,())=bif decide (20<(c.Cals.x3.Closed.length:Int)) then some (.inr (.inr (false,()))) else some (.inl (4,c,())):=rfl;have s4:a9v (4,c,())=some (.inr (.inl ())):=rfl;refine o6 5 (by rw[m5];omega) ?_;simp only[o4,s0];cases decide (20<(c.Cals.x0.Closed.length:Int)) with
   |true=>rfl
   |false=>
    simp only[yaa,o4,s1];cases decide (20<(c.Cals.x1.Closed.length:Int)) with
    |true=>rfl
    |false=>
     simp only[yaa,o4,s2];cases decide (20<(c.Cals.x2.Closed.length:Int)) with
     |true=>rfl
     |false=>
      simp only[yaa,o4,s3];cases decide (20<(c.Cals.x3.Closed.length:Int)) with
      |true=>rfl
      |false=>simp only[yaa,o4,s4];rfl
  simp only[yaa,yap,yaQ];rw[show c4 d2q (0,c,())=_ from h1,o9];cases c.Items.all (fun x=>!(decide (300<(x.Call.length:Int)))) with
  |false=>rfl
  |true=>
   simp only[yac,yaQ];rw[show c4 d2r (0,c,())=_ from h2,o9];cases c.Patrons.all (fun x=>!(decide (300<(x.Name.length:Int)))) with
   |false=>rfl
   |true=>
    simp only[yac,yaQ,h3];cases (!(decide (20<(c.Cals.x0.Closed.length:Int)))&&(!(decide (20<(c.Cals.x1.Closed.length:Int)))&&(!(decide (20<(c.Cals.x2.Closed.length:Int)))&&!(decide (20<(c.Cals.x3.Closed.length:Int))))))<;>rfl
structure SmallP (c:Circ):Prop where
 items:c.Items.length≤10
 patrons:c.Patrons.length≤8
 holds:c.Holds.length≤12
 loans:c.Loans.length≤12
 charges:c.Charges.length≤30
 rules:c.Rules.length≤10
 moves:c.Moves.length≤200
 call:∀x∈c.Items,x.Call.length≤300
 name:∀x∈c.Patrons,x.Name.length≤300
 cal0:c.Cals.x0.Closed.length≤20
 cal1:c.Cals.x1.Closed.length≤20
 cal2:c.Cals.x2.Closed.length≤20
 cal3:c.Cals.x3.Closed.length≤20
theorem f42 {c:Circ} (h:b3p c=true):SmallP c:=by
 unfold b3p at h;simp only[yad,yas,yal,yag,yak]at h;obtain ⟨⟨⟨⟨⟨⟨⟨h1,h2⟩,h3⟩,h4⟩,h5⟩,h6⟩,h7⟩,h8,h9,h10,h11,h12,h13⟩:=h;exact ⟨by omega,by omega,by omega,by omega,by omega,by omega,by omega,fun x hx=>by have:=h8 x hx;omega,fun x hx=>by have:=h9 x hx;omega,by omega,by omega,by omega,by omega⟩
theorem SmallP.short {c:Circ} (h:SmallP c):Short c:=by
 obtain ⟨h1,h2,h3,h4,h5,h6,h7,h8,h9,h10,h11,h12,h13⟩:=h;exact ⟨by omega,by omega,by omega,by omega,by omega,by omega,by omega,fun x hx=>by have:=h8 x hx;omega,fun x hx=>by have:=h9 x hx;omega,by omega,by omega,by omega,by omega⟩
end
section
open Ev
open Go (IntKind)
theorem g9v {γ0:Type} {p:γ0→Patron→Option Bool} {q:Patron→Bool} {s:List Patron} {g:γ0} (hs:s.length<1000000000) (hp:∀x∈s,p g x=some (q x)):qa1 p s g=some (a7b q s):=by
 have h:=t7 (step:=b5g p) (fun i=>(s,g,(s.length:Int),(i:Int),())) s q (fun i _=>(.inr ((i:Int),()):Unit⊕(Int×Unit))) (.inl ()) hs
  (by simp only[b5g,dge,yaa])
  (fun i x hx=>by
   have hi:=(zL hx)
   simp only[b5g,dlt hi,yac,d8,hx,hp x (yaf hx),g9 (show i<9223372036854775807 by omega)])
 unfold qa1;rw[show c4 (b5g p) (s,g,(s.length:Int),0,())=_ from h,←a2c];have:=a0z (p:=q) (g:=fun i _=>(.inr ((i:Int),()):Unit⊕(Int×Unit))) (d:=.inl ()) (fun z=>match (some z:Option (Unit⊕(Int×Unit))) with|some (.inl _)=>some (-1)|some (.inr (v,_))=>some v|none=>none) (l:=s) (i:=0);exact this.trans ((a0z (p:=q) (g:=fun i _=>(i:Int)) (d:=-1) (fun z=>some z) (l:=s) (i:=0)).symm)
theorem h0x {l:List Patron} {id:Int} (hl:l.length<1000000000):qes l id=some (a84 l id):=by
 unfold qes qbv a84;rw[g9v (q:=fun x=>x.ID==id) hl (fun x _=>rfl)];rcases o8 (fun x:Patron=>x.ID==id) l with ⟨h1,h2⟩|⟨i,x,h1,h2,h3,h4⟩
 ·simp only[h1,h2,b69,yac]
 ·simp only[h1,h4,a52,yaa,d8,h2]
end
end Go.Proofs.YteaknldbhmocpaaGreatDoor
