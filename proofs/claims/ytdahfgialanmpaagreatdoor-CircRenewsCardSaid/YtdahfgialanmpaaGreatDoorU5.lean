/- CircRenews: a part of the proof of the given statement, which is proved without conditions. -/
import Derived.Test.YtdahfgialanmpaaGreatDoorU4
import Derived.Shelf.RegionOpenPlain
import Derived.WalkKit
import Derived.Lib.Walk
import Derived.Lib.AppendZerosOnto
import Derived.Lib.AppendZeros
import Derived.Laws.Externs
import Derived.Laws.CopyOwn
import Derived.Deep.RegionLaw
import Derived.Lib.TrimUEq
import Derived.Lib.ValidU
import Derived.Lib.FieldsP
import Derived.Lib.Join
import Derived.Shelf.Strings.OnBuilder
import Derived.Shelf.Strings.FieldsFuncAny
import Derived.Shelf.Unicode.ValidAny
import Derived.Ground.NamesProg
import Derived.Ground.Names2Prog
import Derived.Test.YtdahfgialanmpaaGreatDoorProg
import Derived.WalkMore
import Derived.Below
import Derived.Laws.RangeString
import Derived.Laws.Runes
import Derived.LoopTactic
import Derived.Deep.LoopGhost
import Derived.Test.YtdahfgialanmpaaGreatDoorTie
import Derived.KernelRfl
import Derived.Laws.BitsLemmas
set_option linter.all false
namespace Go.Proofs.YtdahfgialanmpaaGreatDoor.Ev
open Go
section
variable {P:Program} {w:World}
theorem zbk {dT sT ty elem:TypeId} {i0:TypeInfo} {g o dLen dCap sLen sCap z:Nat} {a:Addr} {L cs:List Value} {t:TypeId} (hu:P.underlying dT=some (.slice elem)) (hi:P.info? elem=some i0) (hz:i0.size=z)
 (hg:w.heap[g]?=some (.cells L.toArray t (0,0))) (hn:cs.length=Nat.min sLen dLen*z) (hsrc:∀j v,cs[j]?=some v→w.cell? (a.add j)=some v) (hfit:o+cs.length≤L.length) (h1:∀v∈cs,v.oneCell'=true) :
 (Builtin.copy_ #[dT,sT] ty #[.slice (some ⟨g,o,none⟩) dLen dCap,.slice (some a) sLen sCap]).run P w=.ok (goInt (Nat.min sLen dLen)) (w.setRow g (Go.splice L o cs).toArray):=by
 have hl:=run_firstCells_some (P:=P) w z (Nat.min sLen dLen) a sLen sCap cs hn hsrc
 have hst:=run_storeCells_at P g o t cs 0 L.toArray w hg (by simpa using hfit) h1
 simp only[Nat.add_zero]at hst
 subst hz
 simp[Builtin.copy_,run_underlying hu,Builtin.lenOf,sizeOf,typeInfo,hi,hl,hst,Go.splice]
theorem zlo {ops:Array Oper} {rest:List Oper} {o:Oper} {a:Act} {Q:Exit→Act→World→Prop} (hgd:o.guard=none) (d s:Operand) (t t':TypeId)
 (ho:o.op=.call {callee:=.builtin .copy,args:=#[d,s],argTypes:=#[t,t']}) (v u:Value) (hd:a.eval d=v) (hs:a.eval s=u) {v':Value} {w':World}
 (hr:(Builtin.copy_ #[t,t'] o.type #[v,u]).run P w=.ok v' w') (h:wpList P ops Q rest (a.put o.dst v') w'):wpList P ops Q (o::rest) a w:=
 wpList_plain hgd fun _ hK=>by
  unfold Oper.wp execOp
  simp only[ho,resolve,invoke,builtin,Sem.run_bind,Sem.run_pure,Result.andThen_ok,List.map_toArray,List.map_cons,List.map_nil,hd,hs,hr]
  exact hK _ _ h
theorem zda {ops:Array Oper} {o:Oper} {a:Act} {K:Act→World→Prop} {Q:Exit→Act→World→Prop} {E:Prop}
 (hg:o.guard=none) (d x:Operand) (dT sT:TypeId) (hop:o.op=Op.call {callee:=Callee.builtin Builtin.copy,args:=#[d,x],argTypes:=#[dT,sT]})
 (v u:Value) (hd:a.eval d=v) (hx:a.eval x=u) {v':Value} {w':World} (hr:(Builtin.copy_ #[dT,sT] o.type #[v,u]).run P w=.ok v' w') (hK:K (a.put o.dst v') w') :
 if Region.wanted o (yielded ops a.tmps)=true then Oper.wp P o a w K Q else E:=by
 have hw:Region.wanted o (yielded ops a.tmps)=true:=by simp[Region.wanted,hg]
 rw[if_pos hw]
 unfold Oper.wp
 simp[execOp,hop,resolve,invoke,builtin,hd,hx,hr,Result.andThen]
 exact hK
theorem znp {ops:Array Oper} {o:Oper} {a:Act} {K:Act→World→Prop} {Q:Exit→Act→World→Prop} {E:Prop}
 (hg:o.guard=none) (d x:Operand) (dT sT:TypeId) (hop:o.op=Op.call {callee:=Callee.builtin Builtin.append,args:=#[d,x],argTypes:=#[dT,sT]})
 (v u:Value) (hd:a.eval d=v) (hx:a.eval x=u) {v':Value} {w':World} (hr:(Builtin.append_ #[dT,sT] o.type #[v,u]).run P w=.ok v' w') (hK:K (a.put o.dst v') w') :
 if Region.wanted o (yielded ops a.tmps)=true then Oper.wp P o a w K Q else E:=by
 have hw:Region.wanted o (yielded ops a.tmps)=true:=by simp[Region.wanted,hg]
 rw[if_pos hw]
 unfold Oper.wp
 simp[execOp,hop,resolve,invoke,builtin,hd,hx,hr,Result.andThen]
 exact hK
theorem zbl {ops:Array Oper} {rest:List Oper} {o:Oper} {a:Act} {Q:Exit→Act→World→Prop} (hgd:o.guard=none) (s x:Operand) (t tn:TypeId)
 (ho:o.op=.call {callee:=.builtin .append,args:=#[s,x],argTypes:=#[t,tn]}) (vs vx:Value) (hs:a.eval s=vs) (hx:a.eval x=vx)
 {v':Value} {w':World} (hr:(Builtin.append_ #[t,tn] o.type #[vs,vx]).run P w=.ok v' w') (h:wpList P ops Q rest (a.put o.dst v') w'):wpList P ops Q (o::rest) a w:=
 Lib.wpList_append_run w hgd s x t tn ho vs vx hs hx v' w' hr h
theorem zk7 {t e ty:TypeId} {i0:TypeInfo} {z0:Value} {b o n c:Nat} {L:List Value} {tt:TypeId} (ht:P.underlying t=some (.slice e)) (hi:P.info? e=some i0) (hz:i0.zero=some z0)
 (hn:0<n) (hb:w.heap[b]?=some (.cells L.toArray tt (0,0))) (hfit:o+n*z0.cells.size≤L.length) (h1:∀v∈z0.cells,v.oneCell'=true) :
 (Builtin.clear_ #[t] ty #[.slice (some ⟨b,o,none⟩) n c]).run P w=.ok (.tuple #[]) (w.setRow b (Go.splice L o (Builtin.zeroCells z0.cells n).toList).toArray):=by
 have hl:(Builtin.zeroCells z0.cells n).toList.length=n*z0.cells.size:=by rw[Array.length_toList,Go.size_zeroCells]
 have hst:=run_storeCells_at P b o tt (Builtin.zeroCells z0.cells n).toList 0 L.toArray w hb (by rw[hl];simpa using hfit) (fun v hv=>by
  simp only[Builtin.zeroCells,Array.toList_map,List.mem_map,Array.toList_range,List.mem_range]at hv
  obtain ⟨q,hq,rfl⟩:=hv
  have hp:0<z0.cells.size:=Nat.pos_of_ne_zero (fun h=>by rw[h]at hq;omega)
  rw[getElem!_pos z0.cells _ (Nat.mod_lt _ hp)]
  exact h1 _ (Array.getElem_mem _))
 simp only[Nat.add_zero]at hst
 obtain ⟨m,rfl⟩:∃m,n=m+1:=⟨n-1,by omega⟩
 simp only[List.append_assoc]at hst
 simp[Builtin.clear_,run_underlying ht,sizeOf,typeInfo,zeroValue,hi,hz,hst,Go.splice]
theorem zdk {tS tR e:TypeId} {i0:TypeInfo} (ht:P.underlying tS=some (.slice e)) (hi:P.info? e=some i0) {a b:Addr} {la ca lb cb:Nat} (hne:a.block≠b.block)
 {va vb:Array Value} {ta tb:TypeId} {fa:Nat×Nat} (ha:w.heap[a.block]?=some (.cells va ta fa)) (ha0:0<va.size) (hb:w.heap[b.block]?=some (.cells vb tb (0,0))) (hb0:0<vb.size) :
 (Extern.SlicesOverlaps.overlaps #[tS,tS] #[tR] #[.slice (some a) la ca,.slice (some b) lb cb]).run P w=.ok (.bool false) w:=by
 have hnb:(a.block != b.block)=true:=by simpa using hne
 have hnb':(a.block==b.block)=false:=by simpa using hne
 have hsa:w.shape? a.block=some (ta,va.size):=by simp[World.shape?,ha]
 have hsb:w.shape? b.block=some (tb,vb.size):=by simp[World.shape?,hb]
 have hfb:w.frozen? b=false:=by simp[World.frozen?,hb]
 have hfb':w.frozen? {block:=b.block,off:=vb.size}=false:=by simp[World.frozen?,hb]
 change Sem.run P (α:=Value) (do
  let some t:=(#[tS,tS]:Array TypeId)[0]?|stuck "slices.overlaps: no parameter types"
  let .slice elem ←underlying t|stuck "slices.overlaps: slice type expected"
  let size ←sizeOf elem
  match (some a:Option Addr),(some b:Option Addr) with
  |some a,some b=>
   if la=0∨lb=0∨size=0 then pure (Value.bool false)
   else if a.block != b.block&&(←frozen a)&&(←frozen b) then unsupported .addressObserved
   else do
    if a.block != b.block then do
     noView a;noView b
     if ←mayBeOne a b then return Value.bool ((←choose (.extern "sameAddr.stringBytes" 2))==1)
    pure (Value.bool (a.block==b.block&&a.off<b.off+lb*size&&b.off<a.off+la*size))
  |_,_=>pure (Value.bool false)) w=_
 have hz:(Go.sizeOf e).run P w=.ok i0.size w:=by simp[sizeOf,typeInfo,hi]
 by_cases h0:la=0∨lb=0∨i0.size=0
 ·simp[run_underlying ht,hz,h0]
 ·obtain ⟨ka,hka⟩:∃k,va.size=k+1:=⟨va.size-1,by omega⟩
  obtain ⟨kb,hkb⟩:∃k,vb.size=k+1:=⟨vb.size-1,by omega⟩
  rw[hka]at hsa
  rw[hkb]at hsb hfb'
  by_cases hfa:w.frozen? a=true
  ·simp[run_underlying ht,hz,h0,hnb,hnb',frozen,noView,viewAt,mayBeOne,stringish,shape,Sem.run,hsa,hsb,hfa,hfb,hfb']
  ·have hfa:w.frozen? a=false:=by simpa using hfa
   by_cases hfe:w.frozen? {block:=a.block,off:=ka+1}=true
   ·simp[run_underlying ht,hz,h0,hnb,hnb',frozen,noView,viewAt,mayBeOne,stringish,shape,Sem.run,hsa,hsb,hfa,hfb,hfb',hfe]
   ·have hfe:w.frozen? {block:=a.block,off:=ka+1}=false:=by simpa using hfe
    simp[run_underlying ht,hz,h0,hnb,hnb',frozen,noView,viewAt,mayBeOne,stringish,shape,Sem.run,hsa,hsb,hfa,hfb,hfb',hfe]
end
end Go.Proofs.YtdahfgialanmpaaGreatDoor.Ev
namespace Go.Proofs.YtdahfgialanmpaaGreatDoor.Ev
open Go
section
variable {κ:Type} {El:κ→Type} {S:Sg κ El} {P:Program}
theorem za8 {α:Type} {L new:List α} {off j:Nat} (h:off+new.length≤L.length):(Go.splice L off new)[j]?=if off≤j∧j<off+new.length then new[j-off]? else L[j]?:=by
 unfold Go.splice
 rw[←List.append_assoc]
 exact zph L new off j h
theorem zff (sgk:SgOk S) {w w':World} {I J I':Nat→Nat→Prop} {v:Value} {d:D κ El} (h:DR S w I J v d) (hp:zfo d=true) (H:∀b o,I b o→w'.cell? ⟨b,o,none⟩=w.cell? ⟨b,o,none⟩∧I' b o):DR S w' I' I' v d:=
 (h.relendL sgk (J':=I) (zc7 hp)).mono H H
theorem zdi (sgk:SgOk S) {k:κ} {x:El k} {j:Nat} {d:D κ El} (h:(S.enc k x)[j]?=some d):zfo d=true:=sgk.plain k x d (List.mem_of_getElem? h)
theorem z6m {w:World} {I J:Nat→Nat→Prop} {v:Value} {d:D κ El} (h:DR S w I J v d) (hp:zfo d=true):v.oneCell'=true:=
 (h.lone (by cases d<;>simp_all[zfo,solid])).one
structure InsOk (P:Program) (f z E:Nat):Prop where
 shift:∀{w:World} {b n c i vb vo vc:Nat} {L vs:List Value} {t:TypeId},i<n→n+1≤c→n+1≤1073741824→vb≠b→w.heap[b]?=some (.cells L.toArray t (0,0))→L.length=c*z→vs.length=z→
  (∀j v,vs[j]?=some v→w.cell? ⟨vb,vo+j,none⟩=some v)→(∀v∈(L.drop (i*z)).take ((n-i)*z),v.oneCell'=true)→(∀v∈vs,v.oneCell'=true)→
  Calls P f #[.slice (some ⟨b,0,none⟩) n c,.int .i64 i,.slice (some ⟨vb,vo,none⟩) 1 vc] w fun e w'=>
   e=.returned (.slice (some ⟨b,0,none⟩) (n+1) c)∧w'=(w.drew.setRow b (Go.splice L ((i+1)*z) ((L.drop (i*z)).take ((n-i)*z))).toArray).setRow b (Go.splice (Go.splice L ((i+1)*z) ((L.drop (i*z)).take ((n-i)*z))) (i*z) vs).toArray
 room:∀{w:World} {b n c vb vo vc:Nat} {L vs:List Value} {t:TypeId},n+1≤c→n+1≤1073741824→w.heap[b]?=some (.cells L.toArray t (0,0))→L.length=c*z→vs.length=z→
  (∀j v,vs[j]?=some v→w.cell? ⟨vb,vo+j,none⟩=some v)→(∀v∈vs,v.oneCell'=true)→
  Calls P f #[.slice (some ⟨b,0,none⟩) n c,.int .i64 n,.slice (some ⟨vb,vo,none⟩) 1 vc] w fun e w'=>
   e=.returned (.slice (some ⟨b,0,none⟩) (n+1) c)∧w'=w.setRow b (Go.splice L (n*z) vs).toArray
 new:∀{w:World} {base:Option Addr} {n c vb vo vc:Nat} {olds vs:List Value},n≤c→c<n+1→n+1≤1073741824→vs.length=z→(base=none→n=0)→olds.length=n*z→
  (∀a,base=some a→∀j v,olds[j]?=some v→w.cell? (a.add j)=some v)→(∀j v,vs[j]?=some v→w.cell? ⟨vb,vo+j,none⟩=some v)→
  Calls P f #[.slice base n c,.int .i64 n,.slice (some ⟨vb,vo,none⟩) 1 vc] w fun e w'=>
   ∃cap zs,e=.returned (.slice (some ⟨w.heap.size,0,none⟩) (n+1) cap)∧w'=w.drew.alloc (.cells (olds++(vs++zs)).toArray E)∧n+1≤cap∧zs.length=(cap-(n+1))*z
 grow:∀{w:World} {b n c i vb vo vc:Nat} {L vs:List Value} {t:TypeId},i<n→n≤c→c<n+1→n+1≤1073741824→vb≠b→w.heap[b]?=some (.cells L.toArray t (0,0))→L.length=c*z→vs.length=z→
  (∀j v,vs[j]?=some v→w.cell? ⟨vb,vo+j,none⟩=some v)→(∀v∈(L.drop (i*z)).take ((n-i)*z),v.oneCell'=true)→(∀v∈vs,v.oneCell'=true)→
  Calls P f #[.slice (some ⟨b,0,none⟩) n c,.int .i64 i,.slice (some ⟨vb,vo,none⟩) 1 vc] w fun e w'=>
   ∃cap row,e=.returned (.slice (some ⟨w.heap.size,0,none⟩) (n+1) cap)∧n+1≤cap∧row.length=cap*z∧row.take (i*z)=L.take (i*z)∧
    w'.heap=(w.heap.push (.cells (Go.splice (Go.splice row (i*z) vs) ((i+1)*z) ((L.drop (i*z)).take ((n-i)*z))).toArray E))∧w'.os=w.os∧w'.output=w.output∧w'.tape=w.tape
theorem zjq {k:κ} {xs:List (El k)} {y:El k} {i:Nat} {L vs M:List Value} {Q:Value→D κ El→Prop} (sgk:SgOk S) (hi:i≤xs.length)
 (h1:∀(i:Nat) (hi:i<xs.length) (j:Nat) (d:D κ El),(S.enc k xs[i])[j]?=some d→∃v,L[i*S.sz k+j]?=some v∧Q v d)
 (h2:∀(j:Nat) (d:D κ El),(S.enc k y)[j]?=some d→∃v,vs[j]?=some v∧Q v d)
 (m1:∀p:Nat,p<i*S.sz k→M[p]?=L[p]?) (m2:∀j:Nat,j<S.sz k→M[i*S.sz k+j]?=vs[j]?) (m3:∀p:Nat,i*S.sz k≤p→p<xs.length*S.sz k→M[p+S.sz k]?=L[p]?) :
 ∀(i':Nat) (hi':i'<(xs.take i++y::xs.drop i).length) (j:Nat) (d:D κ El),(S.enc k (xs.take i++y::xs.drop i)[i'])[j]?=some d→∃v,M[i'*S.sz k+j]?=some v∧Q v d:=by
 intro i' hi' j d hj
 have hj':j<S.sz k:=by have:=(List.getElem?_eq_some_iff.1 hj).1;rwa [sgk.sz]at this
 have hl:(xs.take i).length=i:=by simp;omega
 by_cases hlt:i'<i
 ·have e:(xs.take i++y::xs.drop i)[i']=xs[i']'(by omega):=by rw[List.getElem_append_left (by omega)];simp
  rw[e]at hj
  obtain ⟨v,a,b⟩:=h1 i' (by omega) j d hj
  exact ⟨v,by rw[m1 _ (zdc hj' hlt)];exact a,b⟩
 ·by_cases heq:i'=i
  ·subst heq
   have e:(xs.take i'++y::xs.drop i')[i']=y:=by rw[List.getElem_append_right (by omega)];simp[hl]
   rw[e]at hj
   obtain ⟨v,a,b⟩:=h2 j d hj
   exact ⟨v,by rw[m2 j hj'];exact a,b⟩
  ·obtain ⟨p,rfl⟩:∃p,i'=p+1:=⟨i'-1,by omega⟩
   have hp:p<xs.length:=by simp at hi';omega
   have e:(xs.take i++y::xs.drop i)[p+1]=xs[p]:=by
    rw[List.getElem_append_right (by omega)]
    have e2:p+1-(xs.take i).length=(p-i)+1:=by omega
    simp only[e2,List.getElem_cons_succ,List.getElem_drop]
    congr 1;omega
   rw[e]at hj
   obtain ⟨v,a,b⟩:=h1 p hp j d hj
   refine ⟨v,?_,b⟩
   have:=m3 (p*S.sz k+j) (by have:=Nat.mul_le_mul_right (S.sz k) (show i≤p by omega);omega) (zdc hj' hp)
   rw[←a,←this]
   congr 1
   rw[Nat.add_mul];omega
theorem zalt (sgk:SgOk S) {f E:Nat} {fn:Func} {code:Code} (fok:FnOk P f fn code) (hmd:S.md f=.cons) {k:κ} (W:InsOk P f (S.sz k) E)
 {xs:List (El k)} {y:El k} {i:Nat} {ds:List (D κ El)} (hi:i≤xs.length) (hlim:xs.length+1≤1073741824) (hwl:WL ds [.lst k xs,.int .i64 (i:Int),.lst k [y]]) :
 Con P S f ds [] (.lst k (xs.take i++y::xs.drop i)) []:=by
 unfold Con
 rw[hmd]
 intro _ k' xs' ds0 hds k2 xs2 hd w I J mb v0 vs hp ho ha
 subst hds
 cases hd
 have hw0:=hwl.2 0 _ _ rfl rfl
 cases hw0 with
 |leaf _ _ hw0=>
 cases hw0
 have ha:=WL.args (cs':=[.int .i64 (i:Int),.lst k [y]]) ⟨by simpa using hwl.1,fun q d d' h1 h2=>hwl.2 (q+1) d d' (by simpa using h1) (by simpa using h2)⟩ ha
 obtain ⟨base,c,rfl,hnc,hz⟩:=ho
 obtain ⟨hvs,hav⟩:=ha
 obtain ⟨u1,u2,rfl⟩:∃u1 u2,vs = #[u1,u2]:=by
  simp at hvs
  exact ⟨vs[0],vs[1],by
   apply Array.ext
   ·simp[hvs]
   ·intro j h1 h2;simp at h2;rcases (show j=0∨j=1 by omega) with rfl|rfl<;>rfl⟩
 have hu1:u1=.int .i64 i:=(hav 0 u1 _ rfl rfl).int_inv
 have hu2:=hav 1 u2 _ rfl rfl
 subst hu1
 obtain ⟨n,hn⟩:∃n,n=xs.length:=⟨_,rfl⟩
 have hpos:=sgk.pos k
 cases hu2 with
 |lst vb vo vc _ _ cv hvcap hvc hvv=>
 obtain ⟨us,hus⟩:∃us,us=(List.range (S.sz k)).map (cv 0):=⟨_,rfl⟩
 have husl:us.length=S.sz k:=by rw[hus];simp
 have hug:∀j,j<S.sz k→us[j]?=some (cv 0 j):=fun j hj=>by rw[hus];simp[hj]
 have huc:∀j v,us[j]?=some v→w.cell? ⟨vb,vo+j,none⟩=some v:=fun j v hj=>by
  have hlt:=(List.getElem?_eq_some_iff.1 hj).1
  rw[husl]at hlt
  rw[hug j hlt]at hj;cases hj
  have:=(hvc 0 j (by simp) hlt).1
  simpa using this
 have huI:∀j,j<S.sz k→I vb (vo+j):=fun j hlt=>by have:=(hvc 0 j (by simp) hlt).2;simpa using this
 have hud:∀j d,(S.enc k y)[j]?=some d→∃v,us[j]?=some v∧DR S w I J v d:=fun j d hj=>by
  have hlt:=(List.getElem?_eq_some_iff.1 hj).1
  rw[sgk.sz]at hlt
  exact ⟨_,hug j hlt,hvv 0 (by simp) j d hj⟩
 have hu1c:∀v∈us,v.oneCell'=true:=fun v hv=>by
  obtain ⟨j,hj⟩:=List.getElem?_of_mem hv
  have hlt:=(List.getElem?_eq_some_iff.1 hj).1
  have hlt':j<(S.enc k y).length:=by rw[sgk.sz,←husl];exact hlt
  obtain ⟨v',e1,e2⟩:=hud j _ (List.getElem?_eq_getElem hlt')
  rw[hj]at e1;cases e1
  exact z6m e2 (sgk.plain k y _ (List.getElem_mem hlt'))
 have hIw:∀b o,I b o→b<w.heap.size:=hp.ib
 have hres:(xs.take i++y::xs.drop i).length=n+1:=by simp;omega
 unfold zcz
 rw[MuLone.run_callFunc_enter fok.at_ fok.name fok.body _ w]
 simp only
 show Calls P f #[.slice base xs.length c,.int .i64 (i:Int),.slice (some ⟨vb,vo,none⟩) 1 vc] w _
 rcases hz with ⟨rfl,rfl⟩|⟨b,vals,t,rfl,rfl,hb,hvsz,hel⟩
 ·have hx0:xs=[]:=List.eq_nil_of_length_eq_zero (by omega)
  subst hx0
  have hi0:i=0:=by simpa using hi
  subst hi0
  have hnew:=W.new (w:=w) (base:=base) (n:=0) (c:=0) (vb:=vb) (vo:=vo) (vc:=vc) (olds:=[]) (vs:=us) (by omega) (by omega) (by omega) husl (fun _=>rfl) (by simp) (fun a _ j v hj=>by simp at hj) huc
  refine hnew.mono (fun e w' he=>?_)
  obtain ⟨cap,zs,rfl,rfl,hcap,hzl⟩:=he
  refine ⟨I,⟨by rw[World.size_alloc];show w.heap.size≤w.heap.size+1;omega,rfl,rfl,rfl,fun q hq _=>?_,fun _ _ h=>h,fun _ _ h=>.inl h,fun q o h=>by have:=hIw q o h;rw[World.size_alloc];show q<w.heap.size+1;omega⟩,
   some ⟨w.heap.size,0,none⟩,cap,by simp,by simp;omega,.inr ⟨w.heap.size,_,E,rfl,zds w.drew _,?_,.inl (Nat.le_refl _),fun o h=>absurd (hIw _ _ h) (by omega),?_⟩⟩
  ·simp only[World.alloc];rw[Array.getElem?_push,if_neg (by show ¬q=w.heap.size;omega)];rfl
  ·simp[husl,hzl]
   obtain ⟨q,rfl⟩:∃q,cap=q+1:=⟨cap-1,by omega⟩
   rw[Nat.add_sub_cancel,Nat.add_mul];omega
  ·intro i' hi' j d hj
   have:=zjq (L:=[]) (vs:=us) (M:=us++zs) (Q:=fun v d=>DR S (w.drew.alloc (.cells ([]++(us++zs)).toArray E)) I I v d) sgk (i:=0) (xs:=[]) (y:=y) (by simp) (fun i hi=>absurd hi (by simp))
    (fun j d hj=>by
     obtain ⟨v,a,b⟩:=hud j d hj
     exact ⟨v,a,zff sgk b (zdi sgk hj) (fun q o h=>⟨by
      have:=hIw q o h
      simp only[World.cell?,World.alloc];rw[Array.getElem?_push,if_neg (by show ¬q=w.heap.size;omega)];rfl,h⟩)⟩)
    (fun p hp=>absurd hp (by omega)) (fun j hj=>by rw[Nat.zero_mul,Nat.zero_add,List.getElem?_append_left (by omega)]) (fun p _ hp=>by simp at hp) i' hi' j d hj
   simpa using this
 ·have hbw:b<w.heap.size:=(Array.getElem?_eq_some_iff.1 hb).1
  have hbI:∀o,¬I b o:=fun o h=>(hp.jb b o (hp.ij b o h)).2 (by simp)
  have hne:vb≠b:=fun e=>by subst e;exact hbI _ (huI 0 hpos)
  obtain ⟨L,hL⟩:∃L,L=vals.toList:=⟨_,rfl⟩
  have hLa:vals=L.toArray:=by rw[hL]
  have hLl:L.length=c*S.sz k:=by rw[hL];simpa using hvsz
  rw[hLa]at hb
  have hel':∀i (hi:i<xs.length) j d,(S.enc k xs[i])[j]?=some d→∃v,L[i*S.sz k+j]?=some v∧DR S w I J v d:=fun i hi j d hj=>by
   obtain ⟨v,a,e⟩:=hel i hi j d hj
   exact ⟨v,by rw[hL];simpa using a,e⟩
  have hnL:n*S.sz k≤L.length:=by rw[hLl];exact Nat.mul_le_mul_right _ (by omega)
  have hone:∀v∈L.take (n*S.sz k),v.oneCell'=true:=fun v hv=>by
   obtain ⟨p,hp'⟩:=List.getElem?_of_mem hv
   have hlt:=(List.getElem?_eq_some_iff.1 hp').1
   simp only[List.length_take]at hlt
   have h1:p / S.sz k<n:=(Nat.div_lt_iff_lt_mul hpos).2 (by omega)
   have h2:=Nat.mod_lt p hpos
   have h3:p % S.sz k<(S.enc k (xs[p / S.sz k]'(by omega))).length:=by rw[sgk.sz];exact h2
   obtain ⟨v',a,e⟩:=hel' (p / S.sz k) (by omega) _ _ (List.getElem?_eq_getElem h3)
   rw[Nat.div_add_mod']at a
   rw[List.getElem?_take,if_pos (by omega),a]at hp'
   cases hp'
   exact z6m e (sgk.plain k _ _ (List.getElem_mem h3))
  have hC1:(L.drop (i*S.sz k)).take ((n-i)*S.sz k)=(L.take (n*S.sz k)).drop (i*S.sz k):=by
   rw[List.drop_take];congr 1;rw[Nat.sub_mul]
  have hone1:∀v∈(L.drop (i*S.sz k)).take ((n-i)*S.sz k),v.oneCell'=true:=fun v hv=>hone v (by rw[hC1]at hv;exact List.mem_of_mem_drop hv)
  have hin:i*S.sz k≤n*S.sz k:=Nat.mul_le_mul_right _ (by omega)
  have hi1:(i+1)*S.sz k=i*S.sz k+S.sz k:=by rw[Nat.add_mul,Nat.one_mul]
  have hn1:(n+1)*S.sz k=n*S.sz k+S.sz k:=by rw[Nat.add_mul,Nat.one_mul]
  obtain ⟨C1,hC⟩:∃C1,C1=(L.drop (i*S.sz k)).take ((n-i)*S.sz k):=⟨_,rfl⟩
  have hC1l:C1.length=n*S.sz k-i*S.sz k:=by rw[hC,hC1];simp;omega
  have hC1g:∀q,q<n*S.sz k-i*S.sz k→C1[q]?=L[i*S.sz k+q]?:=fun q hq=>by rw[hC,hC1,List.getElem?_drop,List.getElem?_take,if_pos (by omega)]
  have inpl:∀(M:List Value) (w':World),M.length=L.length→(w'=w.setRow b M.toArray∨∃M0:Array Value,w'=(w.drew.setRow b M0).setRow b M.toArray)→n+1≤c→
   (∀p:Nat,p<i*S.sz k→M[p]?=L[p]?)→(∀j:Nat,j<S.sz k→M[i*S.sz k+j]?=us[j]?)→(∀p:Nat,i*S.sz k≤p→p<xs.length*S.sz k→M[p+S.sz k]?=L[p]?)→
   ∃I',GrowM [b] w w' I I'∧NewO S w' I' w.heap.size [b] k (xs.take i++y::xs.drop i) (.slice (some ⟨b,0,none⟩) (n+1) c):=by
   intro M w' hMl hw' hroom m1 m2 m3
   have hheap:w'.heap[b]?=some (.cells M.toArray t (0,0)):=by
    rcases hw' with rfl|⟨M0,rfl⟩
    ·exact setRow_heap _ _ _ _ _ _ hb
    ·exact setRow_heap _ _ _ _ _ _ (setRow_heap w.drew _ _ _ _ _ hb)
   have hoth:∀q,q≠b→w'.heap[q]?=w.heap[q]?:=fun q hq=>by
    rcases hw' with rfl|⟨M0,rfl⟩
    ·exact setRow_other _ _ _ _ hq
    ·rw[setRow_other _ _ _ _ hq,setRow_other _ _ _ _ hq];rfl
   have hsz:w'.heap.size=w.heap.size:=by
    rcases hw' with rfl|⟨M0,rfl⟩<;>simp only[setRow_size]<;>rfl
   refine ⟨I,⟨by omega,by rcases hw' with rfl|⟨M0,rfl⟩<;>rfl,by rcases hw' with rfl|⟨M0,rfl⟩<;>rfl,by rcases hw' with rfl|⟨M0,rfl⟩<;>rfl,fun q hq hm=>hoth q (by simpa using hm),fun _ _ h=>h,fun _ _ h=>.inl h,fun q o h=>by have:=hIw q o h;omega⟩,
    some ⟨b,0,none⟩,c,by rw[hres],by omega,.inr ⟨b,_,t,rfl,hheap,by simp[hMl,hLl],.inr (by simp),hbI,?_⟩⟩
   intro i' hi' j d hj
   have:=zjq (L:=L) (vs:=us) (M:=M) (Q:=fun v d=>DR S w' I I v d) sgk (by omega)
    (fun i hi j d hj=>by
     obtain ⟨v,a,e⟩:=hel' i hi j d hj
     exact ⟨v,a,zff sgk e (zdi sgk hj) (fun q o h=>⟨by simp only[World.cell?];rw[hoth q (fun e=>by subst e;exact hbI o h)],h⟩)⟩)
    (fun j d hj=>by
     obtain ⟨v,a,e⟩:=hud j d hj
     exact ⟨v,a,zff sgk e (zdi sgk hj) (fun q o h=>⟨by simp only[World.cell?];rw[hoth q (fun e=>by subst e;exact hbI o h)],h⟩)⟩) m1 m2 m3 i' hi' j d hj
   simpa using this
  have newb:∀(M:List Value) (cap:Nat) (w':World),M.length=cap*S.sz k→w'.heap=w.heap.push (.cells M.toArray E)→w'.os=w.os→w'.output=w.output→w'.tape=w.tape→n+1≤cap→
   (∀p:Nat,p<i*S.sz k→M[p]?=L[p]?)→(∀j:Nat,j<S.sz k→M[i*S.sz k+j]?=us[j]?)→(∀p:Nat,i*S.sz k≤p→p<xs.length*S.sz k→M[p+S.sz k]?=L[p]?)→
   ∃I',GrowM [b] w w' I I'∧NewO S w' I' w.heap.size [b] k (xs.take i++y::xs.drop i) (.slice (some ⟨w.heap.size,0,none⟩) (n+1) cap):=by
   intro M cap w' hMl hheap h1 h2 h3 hcap m1 m2 m3
   have hoth:∀q,q<w.heap.size→w'.heap[q]?=w.heap[q]?:=fun q hq=>by rw[hheap,Array.getElem?_push,if_neg (by omega)]
   refine ⟨I,⟨by rw[hheap];simp,h1,h2,h3,fun q hq _=>hoth q hq,fun _ _ h=>h,fun _ _ h=>.inl h,fun q o h=>by have:=hIw q o h;rw[hheap];simp;omega⟩,
    some ⟨w.heap.size,0,none⟩,cap,by rw[hres],by omega,.inr ⟨w.heap.size,_,E,rfl,by rw[hheap];exact Array.getElem?_push_size,by simp[hMl],.inl (Nat.le_refl _),fun o h=>absurd (hIw _ _ h) (by omega),?_⟩⟩
   intro i' hi' j d hj
   have:=zjq (L:=L) (vs:=us) (M:=M) (Q:=fun v d=>DR S w' I I v d) sgk (by omega)
    (fun i hi j d hj=>by
     obtain ⟨v,a,e⟩:=hel' i hi j d hj
     exact ⟨v,a,zff sgk e (zdi sgk hj) (fun q o h=>⟨by simp only[World.cell?];rw[hoth q (hIw q o h)],h⟩)⟩)
    (fun j d hj=>by
     obtain ⟨v,a,e⟩:=hud j d hj
     exact ⟨v,a,zff sgk e (zdi sgk hj) (fun q o h=>⟨by simp only[World.cell?];rw[hoth q (hIw q o h)],h⟩)⟩) m1 m2 m3 i' hi' j d hj
   simpa using this
  rw[←hn]at hi hlim hnc ⊢
  by_cases hroom:n+1≤c
  ·have hn1c:(n+1)*S.sz k≤L.length:=by rw[hLl];exact Nat.mul_le_mul_right _ hroom
   by_cases hlt:i<n
   ·refine (W.shift (vc:=vc) hlt hroom hlim hne hb hLl husl huc hone1 hu1c).mono (fun e w' he=>?_)
    obtain ⟨rfl,rfl⟩:=he
    rw[←hC]
    have l1:(Go.splice L ((i+1)*S.sz k) C1).length=L.length:=length_splice _ _ _ (by omega)
    refine inpl _ _ ?_ (.inr ⟨_,rfl⟩) hroom ?_ ?_ ?_
    ·rw[length_splice _ _ _ (by omega),l1]
    ·intro p hp'
     rw[za8 (by omega),if_neg (by omega),za8 (by omega),if_neg (by omega)]
    ·intro j hj
     rw[za8 (by omega),if_pos (by omega)]
     congr 1;omega
    ·intro p h1 h2
     rw[←hn]at h2
     rw[za8 (by omega),if_neg (by omega),za8 (by omega),if_pos (by omega),hC1g _ (by omega)]
     congr 1;omega
   ·have hie:i=n:=by omega
    subst hie
    refine (W.room (vc:=vc) hroom hlim hb hLl husl huc hu1c).mono (fun e w' he=>?_)
    obtain ⟨rfl,rfl⟩:=he
    refine inpl _ _ (length_splice _ _ _ (by omega)) (.inl rfl) hroom ?_ ?_ ?_
    ·intro p hp'
     rw[za8 (by omega),if_neg (by omega)]
    ·intro j hj
     rw[za8 (by omega),if_pos (by omega)]
     congr 1;omega
    ·intro p h1 h2
     rw[←hn]at h2
     omega
  ·by_cases hlt:i<n
   ·refine (W.grow (vc:=vc) hlt hnc (by omega) hlim hne hb hLl husl huc hone1 hu1c).mono (fun e w' he=>?_)
    obtain ⟨cap,row,rfl,hcap,hrl,hrt,hheap,q1,q2,q3⟩:=he
    rw[←hC]at hheap
    have hrl':(n+1)*S.sz k≤row.length:=by rw[hrl];exact Nat.mul_le_mul_right _ hcap
    have l1:(Go.splice row (i*S.sz k) us).length=row.length:=length_splice _ _ _ (by omega)
    refine newb _ cap w' ?_ hheap q1 q2 q3 hcap ?_ ?_ ?_
    ·rw[length_splice _ _ _ (by omega),l1,hrl]
    ·intro p hp'
     rw[za8 (by omega),if_neg (by omega),za8 (by omega),if_neg (by omega)]
     have e1:(row.take (i*S.sz k))[p]?=row[p]?:=by rw[List.getElem?_take,if_pos hp']
     have e2:(L.take (i*S.sz k))[p]?=L[p]?:=by rw[List.getElem?_take,if_pos hp']
     rw[←e1,hrt,e2]
    ·intro j hj
     rw[za8 (by omega),if_neg (by omega),za8 (by omega),if_pos (by omega)]
     congr 1;omega
    ·intro p h1 h2
     rw[←hn]at h2
     rw[za8 (by omega),if_pos (by omega),hC1g _ (by omega)]
     congr 1;omega
   ·have hie:i=n:=by omega
    subst hie
    refine (W.new (base:=some ⟨b,0,none⟩) (vc:=vc) (olds:=L.take (i*S.sz k)) hnc (by omega) hlim husl (fun h=>by cases h) (by simp;omega) (fun a ha j v hj=>?_) huc).mono (fun e w' he=>?_)
    ·cases ha
     rw[List.getElem?_take]at hj
     split at hj
     ·rw[zbo,Nat.zero_add]
      simp only[World.cell?,hb]
      simpa using hj
     ·cases hj
    ·obtain ⟨cap,zs,rfl,rfl,hcap,hzl⟩:=he
     obtain ⟨q,rfl⟩:∃q,cap=q+(i+1):=⟨cap-(i+1),by omega⟩
     rw[Nat.add_sub_cancel]at hzl
     have hTl:(L.take (i*S.sz k)).length=i*S.sz k:=by simp;omega
     refine newb _ (q+(i+1)) _ ?_ rfl rfl rfl rfl hcap ?_ ?_ ?_
     ·simp only[List.length_append,hTl,husl,hzl]
      rw[Nat.add_mul,hi1];omega
     ·intro p hp'
      rw[List.getElem?_append_left (by omega),List.getElem?_take,if_pos hp']
     ·intro j hj
      rw[List.getElem?_append_right (by omega),List.getElem?_append_left (by omega)]
      congr 1;omega
     ·intro p h1 h2
      rw[←hn]at h2
      omega
theorem zn6 (sgk:SgOk S) {f E:Nat} {fn:Func} {code:Code} (fok:FnOk P f fn code) (hmd:S.md f=.cons) {k:κ} (W:InsOk P f (S.sz k) E)
 {xs vs r:List (El k)} {i:Int} {ds:List (D κ El)} (hwl:WL ds [.lst k xs,.int .i64 i,.lst k vs]) (hr:zjr xs i vs=some r):Con P S f ds [] (.lst k r) []:=by
 unfold zjr at hr
 split at hr
 ·rename_i y
  rw[zad]at hr
  split at hr
  ·rename_i h
   simp only[Bool.and_eq_true,decide_eq_true_eq]at h
   cases hr
   obtain ⟨n,rfl⟩:=Int.eq_ofNat_of_zero_le h.1.1
   exact zalt sgk fok hmd W (i:=n) (by omega) h.2 hwl
  ·cases hr
 ·cases hr
end
end Go.Proofs.YtdahfgialanmpaaGreatDoor.Ev
namespace Go.Proofs.YtdahfgialanmpaaGreatDoor.Ev
open Go
section
variable {κ:Type} {El:κ→Type} {S:Sg κ El} {P:Program}
structure DelOk (P:Program) (f z:Nat):Prop where
 non:∀{w:World} {base:Option Addr} {n c i:Nat},n≤c→i≤n→Calls P f #[.slice base n c,.int .i64 i,.int .i64 i] w fun e w'=>e=.returned (.slice base n c)∧w'=w
 som:∀{w:World} {b n c i j:Nat} {L:List Value} {t:TypeId},i<j→j≤n→n≤c→w.heap[b]?=some (.cells L.toArray t (0,0))→L.length=c*z→(∀v∈(L.drop (j*z)).take ((n-j)*z),v.oneCell'=true)→
  Calls P f #[.slice (some ⟨b,0,none⟩) n c,.int .i64 i,.int .i64 j] w fun e w'=>
   e=.returned (.slice (some ⟨b,0,none⟩) (i+(n-j)) c)∧∃(M0:Array Value) (zs:List Value),zs.length=(j-i)*z∧w'=(w.drew.setRow b M0).setRow b (Go.splice (Go.splice L (i*z) ((L.drop (j*z)).take ((n-j)*z))) ((i+(n-j))*z) zs).toArray
theorem zals (sgk:SgOk S) {f:Nat} {fn:Func} {code:Code} (fok:FnOk P f fn code) (hmd:S.md f=.cons) {k:κ} (W:DelOk P f (S.sz k))
 {xs:List (El k)} {i j:Nat} {ds:List (D κ El)} (hij:i≤j) (hj:j≤xs.length) (hwl:WL ds [.lst k xs,.int .i64 (i:Int),.int .i64 (j:Int)]) :
 Con P S f ds [] (.lst k (xs.take i++xs.drop j)) []:=by
 unfold Con
 rw[hmd]
 intro _ k' xs' ds0 hds k2 xs2 hd w I J mb v0 vs hp ho ha
 subst hds
 cases hd
 have hw0:=hwl.2 0 _ _ rfl rfl
 cases hw0 with
 |leaf _ _ hw0=>
 cases hw0
 have ha:=WL.args (cs':=[.int .i64 (i:Int),.int .i64 (j:Int)]) ⟨by simpa using hwl.1,fun q d d' h1 h2=>hwl.2 (q+1) d d' (by simpa using h1) (by simpa using h2)⟩ ha
 obtain ⟨base,c,rfl,hnc,hz⟩:=ho
 obtain ⟨hvs,hav⟩:=ha
 obtain ⟨u1,u2,rfl⟩:∃u1 u2,vs = #[u1,u2]:=by
  simp at hvs
  exact ⟨vs[0],vs[1],by
   apply Array.ext
   ·simp[hvs]
   ·intro j h1 h2;simp at h2;rcases (show j=0∨j=1 by omega) with rfl|rfl<;>rfl⟩
 have hu1:u1=.int .i64 i:=(hav 0 u1 _ rfl rfl).int_inv
 have hu2:u2=.int .i64 j:=(hav 1 u2 _ rfl rfl).int_inv
 subst hu1 hu2
 obtain ⟨n,hn⟩:∃n,n=xs.length:=⟨_,rfl⟩
 have hpos:=sgk.pos k
 have hIw:∀b o,I b o→b<w.heap.size:=hp.ib
 have hres:(xs.take i++xs.drop j).length=i+(n-j):=by simp;omega
 unfold zcz
 rw[MuLone.run_callFunc_enter fok.at_ fok.name fok.body _ w]
 simp only
 show Calls P f #[.slice base xs.length c,.int .i64 (i:Int),.int .i64 (j:Int)] w _
 by_cases heq:i=j
 ·subst heq
  refine (W.non hnc hj).mono (fun e w' he=>?_)
  obtain ⟨rfl,rfl⟩:=he
  have e:xs.take i++xs.drop i=xs:=by simp
  rw[e]
  refine ⟨I,⟨Nat.le_refl _,rfl,rfl,rfl,fun _ _ _=>rfl,fun _ _ h=>h,fun _ _ h=>.inl h,hIw⟩,base,c,rfl,hnc,?_⟩
  rcases hz with ⟨h,_⟩|⟨b,vals,t,rfl,rfl,hb,hvsz,hel⟩
  ·exact .inl h
  ·have hbI:∀o,¬I b o:=fun o h=>(hp.jb b o (hp.ij b o h)).2 (by simp)
   refine .inr ⟨b,vals,t,rfl,hb,hvsz,.inr (by simp),hbI,fun q hq j d hj=>?_⟩
   obtain ⟨v,a,e⟩:=hel q hq j d hj
   exact ⟨v,a,zff sgk e (zdi sgk hj) (fun _ _ h=>⟨rfl,h⟩)⟩
 ·have hlt:i<j:=by omega
  rcases hz with ⟨rfl,rfl⟩|⟨b,vals,t,rfl,rfl,hb,hvsz,hel⟩
  ·exfalso;omega
  ·have hbw:b<w.heap.size:=(Array.getElem?_eq_some_iff.1 hb).1
   have hbI:∀o,¬I b o:=fun o h=>(hp.jb b o (hp.ij b o h)).2 (by simp)
   obtain ⟨L,hL⟩:∃L,L=vals.toList:=⟨_,rfl⟩
   have hLa:vals=L.toArray:=by rw[hL]
   have hLl:L.length=c*S.sz k:=by rw[hL];simpa using hvsz
   rw[hLa]at hb
   have hel':∀i (hi:i<xs.length) j d,(S.enc k xs[i])[j]?=some d→∃v,L[i*S.sz k+j]?=some v∧DR S w I J v d:=fun i hi j d hj=>by
    obtain ⟨v,a,e⟩:=hel i hi j d hj
    exact ⟨v,by rw[hL];simpa using a,e⟩
   have hnL:n*S.sz k≤L.length:=by rw[hLl];exact Nat.mul_le_mul_right _ (by omega)
   have hone:∀v∈L.take (n*S.sz k),v.oneCell'=true:=fun v hv=>by
    obtain ⟨p,hp'⟩:=List.getElem?_of_mem hv
    have hlt:=(List.getElem?_eq_some_iff.1 hp').1
    simp only[List.length_take]at hlt
    have h1:p / S.sz k<n:=(Nat.div_lt_iff_lt_mul hpos).2 (by omega)
    have h2:=Nat.mod_lt p hpos
    have h3:p % S.sz k<(S.enc k (xs[p / S.sz k]'(by omega))).length:=by rw[sgk.sz];exact h2
    obtain ⟨v',a,e⟩:=hel' (p / S.sz k) (by omega) _ _ (List.getElem?_eq_getElem h3)
    rw[Nat.div_add_mod']at a
    rw[List.getElem?_take,if_pos (by omega),a]at hp'
    cases hp'
    exact z6m e (sgk.plain k _ _ (List.getElem_mem h3))
   have hjn:j*S.sz k≤n*S.sz k:=Nat.mul_le_mul_right _ (by omega)
   have hC1:(L.drop (j*S.sz k)).take ((n-j)*S.sz k)=(L.take (n*S.sz k)).drop (j*S.sz k):=by
    rw[List.drop_take];congr 1;rw[Nat.sub_mul]
   have hone1:∀v∈(L.drop (j*S.sz k)).take ((n-j)*S.sz k),v.oneCell'=true:=fun v hv=>hone v (by rw[hC1]at hv;exact List.mem_of_mem_drop hv)
   obtain ⟨C1,hC⟩:∃C1,C1=(L.drop (j*S.sz k)).take ((n-j)*S.sz k):=⟨_,rfl⟩
   have hC1l:C1.length=n*S.sz k-j*S.sz k:=by rw[hC,hC1];simp;omega
   have hC1g:∀q,q<n*S.sz k-j*S.sz k→C1[q]?=L[j*S.sz k+q]?:=fun q hq=>by rw[hC,hC1,List.getElem?_drop,List.getElem?_take,if_pos (by omega)]
   have hij':i*S.sz k≤j*S.sz k:=Nat.mul_le_mul_right _ (by omega)
   have hm:(i+(n-j))*S.sz k=i*S.sz k+(n*S.sz k-j*S.sz k):=by rw[Nat.add_mul,Nat.sub_mul]
   have hz2:(j-i)*S.sz k=j*S.sz k-i*S.sz k:=by rw[Nat.sub_mul]
   refine (W.som hlt hj hnc hb hLl (by rw[←hn];exact hone1)).mono (fun e w' he=>?_)
   obtain ⟨rfl,M0,zs,hzl,rfl⟩:=he
   rw[←hn,←hC]
   have l1:(Go.splice L (i*S.sz k) C1).length=L.length:=length_splice _ _ _ (by omega)
   have l2:(Go.splice (Go.splice L (i*S.sz k) C1) ((i+(n-j))*S.sz k) zs).length=L.length:=by rw[length_splice _ _ _ (by omega),l1]
   generalize hM:Go.splice (Go.splice L (i*S.sz k) C1) ((i+(n-j))*S.sz k) zs=M at l2 ⊢
   have hMg:∀p,p<(i+(n-j))*S.sz k→M[p]?=if p<i*S.sz k then L[p]? else L[p+(j*S.sz k-i*S.sz k)]?:=fun p hp=>by
    rw[←hM,za8 (by omega),if_neg (by omega),za8 (by omega)]
    by_cases h:p<i*S.sz k
    ·rw[if_neg (by omega),if_pos h]
    ·rw[if_pos (by omega),if_neg h,hC1g _ (by omega)]
     congr 1;omega
   have hheap:((w.drew.setRow b M0).setRow b M.toArray).heap[b]?=some (.cells M.toArray t (0,0)):=setRow_heap _ _ _ _ _ _ (setRow_heap w.drew _ _ _ _ _ hb)
   have hoth:∀q,q≠b→((w.drew.setRow b M0).setRow b M.toArray).heap[q]?=w.heap[q]?:=fun q hq=>by rw[setRow_other _ _ _ _ hq,setRow_other _ _ _ _ hq];rfl
   have hsz:((w.drew.setRow b M0).setRow b M.toArray).heap.size=w.heap.size:=by simp only[setRow_size];rfl
   refine ⟨I,⟨by omega,rfl,rfl,rfl,fun q hq hm=>hoth q (by simpa using hm),fun _ _ h=>h,fun _ _ h=>.inl h,fun q o h=>by have:=hIw q o h;omega⟩,
    some ⟨b,0,none⟩,c,by rw[hres],by omega,.inr ⟨b,_,t,rfl,hheap,by simp[l2,hLl],.inr (by simp),hbI,?_⟩⟩
   intro q hq s d hs
   have hs':s<S.sz k:=by have:=(List.getElem?_eq_some_iff.1 hs).1;rwa [sgk.sz]at this
   rw[hres]at hq
   have hlt2:=zdc hs' hq
   by_cases hqi:q<i
   ·have e:(xs.take i++xs.drop j)[q]'(by omega)=xs[q]'(by omega):=by rw[List.getElem_append_left (by simp;omega)];simp
    rw[e]at hs
    obtain ⟨v,a,e2⟩:=hel' q (by omega) s d hs
    refine ⟨v,?_,zff sgk e2 (zdi sgk hs) (fun q o h=>⟨by simp only[World.cell?];rw[hoth q (fun e=>by subst e;exact hbI o h)],h⟩)⟩
    rw[←a,List.getElem?_toArray,hMg _ hlt2,if_pos (zdc hs' hqi)]
   ·have e:(xs.take i++xs.drop j)[q]'(by omega)=xs[q+(j-i)]'(by omega):=by
     have hl:(xs.take i).length=i:=by simp;omega
     rw[List.getElem_append_right (by omega)]
     simp only[hl,List.getElem_drop]
     congr 1;omega
    rw[e]at hs
    obtain ⟨v,a,e2⟩:=hel' (q+(j-i)) (by omega) s d hs
    refine ⟨v,?_,zff sgk e2 (zdi sgk hs) (fun q o h=>⟨by simp only[World.cell?];rw[hoth q (fun e=>by subst e;exact hbI o h)],h⟩)⟩
    have hqz:i*S.sz k≤q*S.sz k:=Nat.mul_le_mul_right _ (by omega)
    rw[←a,List.getElem?_toArray,hMg _ hlt2,if_neg (by omega)]
    congr 1
    rw[Nat.add_mul,hz2];omega
theorem zv7 (sgk:SgOk S) {f:Nat} {fn:Func} {code:Code} (fok:FnOk P f fn code) (hmd:S.md f=.cons) {k:κ} (W:DelOk P f (S.sz k))
 {xs r:List (El k)} {i j:Int} {ds:List (D κ El)} (hwl:WL ds [.lst k xs,.int .i64 i,.int .i64 j]) (hr:zoi xs i j=some r):Con P S f ds [] (.lst k r) []:=by
 unfold zoi at hr
 rw[zad]at hr
 split at hr
 ·rename_i h
  simp only[Bool.and_eq_true,decide_eq_true_eq]at h
  cases hr
  obtain ⟨n,rfl⟩:=Int.eq_ofNat_of_zero_le h.1.1.1
  obtain ⟨m,rfl⟩:=Int.eq_ofNat_of_zero_le (Int.le_trans h.1.1.1 h.1.1.2)
  exact zals sgk fok hmd W (i:=n) (j:=m) (by omega) (by omega) hwl
 ·cases hr
end
end Go.Proofs.YtdahfgialanmpaaGreatDoor.Ev
namespace Go.Proofs.YtdahfgialanmpaaGreatDoor.Ev
open Go
def badC (c:Nat):Bool:=decide (c<32)||(decide (127≤c)&&decide (c≤159))||decide (65535<c)
theorem zfv {c:Nat}:badC c=true↔c<32∨(127≤c∧c≤159)∨65535<c:=by
 unfold badC;simp only[Bool.or_eq_true,Bool.and_eq_true,decide_eq_true_eq];omega
theorem za1n {a:UInt8} {r:List UInt8} {k:Nat}:(a::r).getD (k+1) 0=r.getD k 0:=by simp[List.getD]
set_option maxHeartbeats 2000000 in
theorem zmg {l:List UInt8} (hl:l≠[]):dcd l=if ((Lib.decodeL l).1=65533∧(Lib.decodeL l).2=1)∨badC (Lib.decodeL l).1=true then (0,0) else Lib.decodeL l:=by
 cases l with
 |nil=>exact absurd rfl hl
 |cons a r=>
  rw[Lib.decodeL_N]
  have ha:=a.toNat_lt
  simp only[zfv]
  rcases r with _|⟨b,_|⟨c,_|⟨d,r⟩⟩⟩
  ·simp only[List.getD_cons_zero,List.getD_cons_succ,List.getD_nil,List.length_cons,List.length_nil]
   obtain ⟨X,hX⟩:∃X,Lib.decodeN (0+1) a.toNat (0:UInt8).toNat (0:UInt8).toNat (0:UInt8).toNat=X:=⟨_,rfl⟩
   rw[hX]
   unfold Lib.decodeN at hX
   unfold dcd
   dsimp only
   split at hX
   ·subst hX
    repeat' split
    all_goals first|with_reducible rfl|(exfalso;omega)
   ·rw[if_neg (by omega),if_neg (by omega),if_neg (by omega)]at hX
    subst hX
    repeat' split
    all_goals first|with_reducible rfl|(exfalso;omega)
  ·simp only[List.getD_cons_zero,List.getD_cons_succ,List.getD_nil,List.length_cons,List.length_nil]
   have hb:=b.toNat_lt
   obtain ⟨X,hX⟩:∃X,Lib.decodeN (0+1+1) a.toNat b.toNat (0:UInt8).toNat (0:UInt8).toNat=X:=⟨_,rfl⟩
   rw[hX]
   unfold Lib.decodeN at hX
   unfold dcd
   dsimp only
   repeat' split at hX
   all_goals subst hX
   all_goals dsimp only
   all_goals repeat' split
   all_goals first|with_reducible rfl|(exfalso;omega)|(simp only[Prod.mk.injEq,and_true];omega)
  ·simp only[List.getD_cons_zero,List.getD_cons_succ,List.getD_nil,List.length_cons,List.length_nil]
   have hb:=b.toNat_lt
   have hc:=c.toNat_lt
   obtain ⟨X,hX⟩:∃X,Lib.decodeN (0+1+1+1) a.toNat b.toNat c.toNat (0:UInt8).toNat=X:=⟨_,rfl⟩
   rw[hX]
   unfold Lib.decodeN at hX
   unfold dcd
   dsimp only
   repeat' split at hX
   all_goals subst hX
   all_goals dsimp only
   all_goals repeat' split
   all_goals first|with_reducible rfl|(exfalso;omega)|(simp only[Prod.mk.injEq,and_true];omega)
  ·simp only[List.getD_cons_zero,List.getD_cons_succ,List.getD_nil,List.length_cons,List.length_nil]
   have hb:=b.toNat_lt
   have hc:=c.toNat_lt
   have hd:=d.toNat_lt
   obtain ⟨X,hX⟩:∃X,Lib.decodeN (r.length+1+1+1+1) a.toNat b.toNat c.toNat d.toNat=X:=⟨_,rfl⟩
   rw[hX]
   unfold Lib.decodeN at hX
   unfold dcd
   dsimp only
   repeat' split at hX
   all_goals subst hX
   all_goals dsimp only
   all_goals repeat' split
   all_goals first|with_reducible rfl|(exfalso;omega)|(simp only[Prod.mk.injEq,and_true];omega)
def okN:Nat→List UInt8→Bool
 |0,_=>true
 |n+1,l=>if l=[] then true else if badC (Lib.decodeL l).1 then false else okN n (l.drop (Lib.decodeL l).2)
theorem ze1 {l:List UInt8} (hl:l≠[]):1≤(Lib.decodeL l).2∧(Lib.decodeL l).2≤l.length:=by
 cases l with
 |nil=>exact absurd rfl hl
 |cons a r=>
  rw[Lib.decodeL_N]
  unfold Lib.decodeN
  have:1≤(a::r).length:=by simp
  repeat' split
  all_goals simp only
  all_goals omega
theorem zau9:∀(n:Nat) (l:List UInt8),vldN n l=(Lib.validGoD n l&&okN n l):=by
 intro n
 induction n with
 |zero=>intro l;rfl
 |succ n ih=>
  intro l
  simp only[vldN,Lib.validGoD,okN]
  by_cases hl:l=[]
  ·simp[hl]
  ·simp only[hl,if_false]
   rw[zmg hl]
   by_cases h1:(Lib.decodeL l).1=65533∧(Lib.decodeL l).2=1
   ·simp[h1]
   ·by_cases h2:badC (Lib.decodeL l).1=true
    ·simp[h2]
    ·have:=ze1 hl
     have hne:¬(((Lib.decodeL l).1=65533∧(Lib.decodeL l).2=1)∨badC (Lib.decodeL l).1=true):=fun h=>h.elim h1 h2
     rw[if_neg hne,if_neg (show ¬(Lib.decodeL l).2=0 by omega),if_neg h1,if_neg h2]
     exact ih _
theorem zaew:∀(n m:Nat) (l:List UInt8),l.length≤n→l.length≤m→okN n l=okN m l:=by
 intro n
 induction n with
 |zero=>intro m l h1 h2;have:l=[]:=List.length_eq_zero_iff.1 (by omega);subst this;cases m<;>simp[okN]
 |succ n ih=>
  intro m l h1 h2
  by_cases hl:l=[]
  ·subst hl;cases m<;>simp[okN]
  ·have hp:=ze1 hl
   have:0<l.length:=List.length_pos_iff.2 hl
   obtain ⟨m,rfl⟩:∃k,m=k+1:=⟨m-1,by omega⟩
   simp only[okN,hl,if_false]
   split
   ·rfl
   ·exact ih m _ (by rw[List.length_drop];omega) (by rw[List.length_drop];omega)
theorem z4v (xs:List (List UInt8)) (y sep:List UInt8):Lib.join (xs++[y]) sep=if xs=[] then y else Lib.join xs sep++(sep++y):=by
 cases xs with
 |nil=>simp[Lib.join_one]
 |cons x xs=>
  rw[List.cons_append,Lib.join_cons,Lib.join_cons]
  simp[Lib.joinTail]
def pcs (l:List UInt8) (acc:List (Nat×Nat)):List (List UInt8):=acc.map fun x=>(l.take x.2).drop x.1
def J (l:List UInt8) (acc:List (Nat×Nat)):List UInt8:=Lib.join (pcs l acc) [32]
theorem zave (l:List UInt8):J l []=[]:=rfl
theorem z1h (l:List UInt8) (acc:List (Nat×Nat)) (a b:Nat):J l (acc++[(a,b)])=if acc=[] then (l.take b).drop a else J l acc++([32]++(l.take b).drop a):=by
 unfold J pcs
 rw[List.map_append,List.map_singleton,z4v]
 simp only[List.map_eq_nil_iff]
theorem J_ne {l:List UInt8}:∀{acc:List (Nat×Nat)},(∀x∈acc,x.1<x.2∧x.2≤l.length)→acc≠[]→J l acc≠[]:=by
 intro acc h hne
 obtain ⟨x,r,rfl⟩:=List.exists_cons_of_ne_nil hne
 have hx:=h x (by simp)
 unfold J pcs
 rw[List.map_cons,Lib.join_cons]
 intro e
 have:=congrArg List.length e
 simp only[List.length_append,List.length_drop,List.length_take,List.length_nil]at this
 omega
theorem z2r {s:ByteArray} {l:List UInt8} (hl:s.data.toList=l) (p:Nat→Bool) (hp:∀c,p c=blk c):∀(f pos:Nat) (st:Option Nat) (acc:List (Nat×Nat)) (gap:Bool),
 s.size≤pos+f→pos≤s.size→vldN f (l.drop pos)=true→(∀a,st=some a→a<pos∧gap=false)→(st=none→gap=true∨acc=[])→(∀x∈acc,x.1<x.2∧x.2≤l.length)→
 J l (Lib.closeSpans s (Lib.spansFromP p s f pos st acc))=clnN f (l.drop pos) (match st with|some a=>J l (acc++[(a,pos)])|none=>J l acc) gap:=by
 have hsz:s.size=l.length:=by rw[Lib.size_eq,hl]
 intro f
 induction f with
 |zero=>
  intro pos st acc gap h1 h2 hv hs hn hacc
  have:pos=s.size:=by omega
  subst this
  simp only[Lib.spansFromP,clnN]
  cases st with
  |none=>rfl
  |some a=>rfl
 |succ f ih=>
  intro pos st acc gap h1 h2 hv hs hn hacc
  by_cases hlt:pos<s.size
  ·have hne:l.drop pos≠[]:=by simp;omega
   have hdec:Lib.decodeL (l.drop pos)=Utf8.decode s pos:=by rw[←hl];exact Lib.decodeL_drop s pos
   have hpos:=ze1 hne
   rw[List.length_drop]at hpos
   have hv2:=hv
   simp only[vldN,hne,if_false]at hv2
   have hd:=zmg hne
   split at hd
   ·rw[hd]at hv2;simp at hv2
   ·rename_i hnb
    have hz:¬(dcd (l.drop pos)).2=0:=by rw[hd];omega
    rw[if_neg hz,List.drop_drop,hd,hdec]at hv2
    have hw:wid (l.drop pos)=(Utf8.decode s pos).2:=by unfold wid;rw[hd,hdec,if_neg (by rw[←hdec];omega)]
    rw[hdec]at hpos
    obtain ⟨k,hk⟩:∃k,(Utf8.decode s pos).2=k:=⟨_,rfl⟩
    rw[clnN,if_neg hne,List.drop_drop,hw,hd,hdec]
    simp only[Lib.spansFromP,hlt,if_true,hp]
    rw[hk]at hpos hv2 ⊢
    have htk:∀a,a≤pos→(l.take pos).drop a++(l.drop pos).take k=(l.take (pos+k)).drop a:=by
     intro a ha
     rw[List.take_add,List.drop_append_of_le_length (by simp;omega)]
    cases hb:blk (Utf8.decode s pos).1 with
    |true=>
     simp only[if_true]
     cases st with
     |none=>exact ih (pos+k) none acc true (by omega) (by omega) hv2 (fun a h=>by cases h) (fun _=>.inl rfl) hacc
     |some a=>
      have:=(hs a rfl).1
      exact ih (pos+k) none (acc++[(a,pos)]) true (by omega) (by omega) hv2 (fun a h=>by cases h) (fun _=>.inl rfl) (fun x hx=>by
       rcases List.mem_append.1 hx with h|h
       ·exact hacc x h
       ·simp only[List.mem_singleton]at h;subst h;exact ⟨this,by simp only;omega⟩)
    |false=>
     simp only[Bool.false_eq_true,if_false]
     cases st with
     |some a=>
      obtain ⟨ha,hg⟩:=hs a rfl
      subst hg
      rw[ih (pos+k) (some a) acc false (by omega) (by omega) hv2 (fun b h=>by cases h;exact ⟨by omega,rfl⟩) (fun h=>by cases h) hacc]
      simp only[Bool.false_and,Bool.false_eq_true,if_false]
      congr 1
      rw[z1h,z1h]
      split
      ·exact (htk a (by omega)).symm
      ·rw[←htk a (by omega)];simp
     |none=>
      rw[ih (pos+k) (some pos) acc false (by omega) (by omega) hv2 (fun b h=>by cases h;exact ⟨by omega,rfl⟩) (fun h=>by cases h) hacc]
      congr 1
      dsimp only
      rw[z1h]
      have e:=htk pos (Nat.le_refl _)
      rw[@List.drop_eq_nil_of_le _ (l.take pos) _ (by simp;omega),List.nil_append]at e
      rcases hn rfl with hg|hacc0
      ·subst hg
       by_cases h0:acc=[]
       ·subst h0;simp[zave,e]
       ·have:=J_ne hacc h0
        have hb2:(J l acc==[])=false:=by simpa using this
        simp[h0,hb2,e]
      ·subst hacc0;simp[zave,e]
  ·have:pos=s.size:=by omega
   subst this
   have hnil:l.drop s.size=[]:=by rw[hsz];simp
   rw[Lib.spansFromP_end _ _ _ _ _ _ hlt,clnN,if_pos hnil]
   cases st with
   |none=>rfl
   |some a=>rfl
theorem zzb {s:ByteArray} {p:Nat→Bool} (hp:∀c,p c=blk c) (hv:vld s.data.toList=true):Lib.join ((Lib.goFieldsP p s).map (·.data.toList)) [32]=cln s.data.toList:=by
 have h:=z2r (s:=s) rfl p hp s.size 0 none [] false (by omega) (by omega) (by rw[List.drop_zero,Lib.size_eq];exact hv) (fun a h=>by cases h) (fun _=>.inr rfl) (fun x h=>by cases h)
 rw[List.drop_zero]at h
 have hc:cln s.data.toList=clnN s.size s.data.toList [] false:=by unfold cln;rw[Lib.size_eq]
 rw[hc]
 refine Eq.trans ?_ h
 unfold J pcs Lib.goFieldsP Lib.spansOfP
 rw[List.map_map]
 congr 1
 refine List.map_congr_left (fun x _=>?_)
 show (s.extract x.1 x.2).data.toList=(s.data.toList.take x.2).drop x.1
 rw[Lib.extract_data,List.drop_take]
theorem z98 (p:Nat→Bool) (s:ByteArray):∀(f pos:Nat) (st:Option Nat) (acc:List (Nat×Nat)),(Lib.spansFromP p s f pos st acc).1.length≤acc.length+f:=by
 intro f
 induction f with
 |zero=>intro pos st acc;exact Nat.le_refl _
 |succ f ih=>
  intro pos st acc
  unfold Lib.spansFromP
  split
  ·split
   ·cases st with
    |none=>exact Nat.le_trans (ih _ _ _) (by omega)
    |some a=>exact Nat.le_trans (ih _ _ _) (by simp;omega)
   ·cases st with
    |none=>exact Nat.le_trans (ih _ _ _) (by omega)
    |some a=>exact Nat.le_trans (ih _ _ _) (by omega)
  ·simp
theorem zzp (p:Nat→Bool) (s:ByteArray):(Lib.goFieldsP p s).length≤s.size+1:=by
 have:=z98 p s s.size 0 none []
 unfold Lib.goFieldsP Lib.spansOfP Lib.closeSpans
 rw[List.length_map]
 split
 ·rw[List.length_append];simp at this ⊢;omega
 ·simp at this;omega
theorem zacd:∀(n:Nat) (l out:List UInt8) (gap:Bool),(clnN n l out gap).length≤out.length+2*l.length:=by
 intro n
 induction n with
 |zero=>intro l out gap;simp[clnN]
 |succ n ih=>
  intro l out gap
  rw[clnN]
  split
  ·omega
  ·have hw:1≤wid l:=by unfold wid;split<;>omega
   have hl:0<l.length:=List.length_pos_iff.2 (by assumption)
   split
   ·have:=ih (l.drop (wid l)) out true
    rw[List.length_drop]at this
    omega
   ·have:=ih (l.drop (wid l)) ((if gap&&!(out==[]) then out++[32] else out)++l.take (wid l)) false
    rw[List.length_drop]at this
    have h2:(if gap&&!(out==[]) then out++[32] else out).length≤out.length+1:=by split<;>simp
    simp only[List.length_append,List.length_take]at this
    omega
theorem zalr (s:ByteArray):(cln s.data.toList).length≤2*s.size:=by
 have:=zacd s.data.toList.length s.data.toList [] false
 rw[Lib.size_eq]
 simpa[cln]using this
end Go.Proofs.YtdahfgialanmpaaGreatDoor.Ev
namespace Go.Proofs
open Go.Shelf
def Tryz.laysValid_ren:Go.Shelf.Ren:=⟨fun|196=>296|259=>329|n=>n,fun|9=>9|4=>4|3=>3|5=>5|12=>12|119=>263|0=>0|46=>237|139=>266|138=>265|53=>261|n=>n,fun|3=>1|4=>2|n=>n⟩
theorem Tryz.laysValid:Go.Proofs.Lays.n196 Tryz.prog Tryz.laysValid_ren:={
 mixed:=by kernel_rfl
 f196:=Tryz.func296.trans (congrArg some (by kernel_rfl))
 f259:=Tryz.func329.trans (congrArg some (by kernel_rfl))
 t0:=Tryz.underlying0
 a0:=Tryz.isAgg0
 z0:=Tryz.sizeOf0
 v0:=Tryz.zeroValue0
 t3:=Tryz.underlying3
 a3:=Tryz.isAgg3
 z3:=Tryz.sizeOf3
 v3:=Tryz.zeroValue3
 t4:=Tryz.underlying4
 a4:=Tryz.isAgg4
 z4:=Tryz.sizeOf4
 v4:=Tryz.zeroValue4
 t5:=Tryz.underlying5
 a5:=Tryz.isAgg5
 z5:=Tryz.sizeOf5
 v5:=Tryz.zeroValue5
 t9:=Tryz.underlying9
 a9:=Tryz.isAgg9
 z9:=Tryz.sizeOf9
 v9:=Tryz.zeroValue9
 t12:=Tryz.underlying12
 a12:=Tryz.isAgg12
 z12:=Tryz.sizeOf12
 v12:=Tryz.zeroValue12
 t46:=Tryz.underlying237
 a46:=Tryz.isAgg237
 z46:=Tryz.sizeOf237
 v46:=Tryz.zeroValue237
 t53:=Tryz.underlying261
 a53:=Tryz.isAgg261
 z53:=Tryz.sizeOf261
 v53:=Tryz.zeroValue261
 t119:=Tryz.underlying263
 a119:=Tryz.isAgg263
 z119:=Tryz.sizeOf263
 t138:=Tryz.underlying265
 a138:=Tryz.isAgg265
 z138:=Tryz.sizeOf265
 v138:=Tryz.zeroValue265
 t139:=Tryz.underlying266
 a139:=Tryz.isAgg266
 z139:=Tryz.sizeOf266
 v139:=Tryz.zeroValue266
 g3:=by kernel_rfl
 g4:=by kernel_rfl}
def Tryz.lays156_ren:Go.Shelf.Ren:=⟨fun|156=>330|165=>346|166=>347|169=>348|240=>352|241=>353|276=>354|277=>355|n=>n,fun|31=>268|9=>9|3=>3|4=>4|0=>0|20=>20|72=>283|76=>286|70=>280|37=>281|75=>285|127=>294|164=>295|5=>5|80=>288|n=>n,fun|n=>n⟩
theorem Tryz.lays156:Go.Proofs.Lays.n156 Tryz.prog Tryz.lays156_ren:={
 mixed:=by kernel_rfl
 f156:=Tryz.func330.trans (congrArg some (by kernel_rfl))
 f165:=Tryz.func346.trans (congrArg some (by kernel_rfl))
 f166:=Tryz.func347.trans (congrArg some (by kernel_rfl))
 f169:=Tryz.func348.trans (congrArg some (by kernel_rfl))
 f240:=Tryz.func352.trans (congrArg some (by kernel_rfl))
 f241:=Tryz.func353.trans (congrArg some (by kernel_rfl))
 f276:=Tryz.func354.trans (congrArg some (by kernel_rfl))
 f277:=Tryz.func355.trans (congrArg some (by kernel_rfl))
 t0:=Tryz.underlying0
 a0:=Tryz.isAgg0
 z0:=Tryz.sizeOf0
 v0:=Tryz.zeroValue0
 t3:=Tryz.underlying3
 a3:=Tryz.isAgg3
 z3:=Tryz.sizeOf3
 v3:=Tryz.zeroValue3
 t4:=Tryz.underlying4
 a4:=Tryz.isAgg4
 z4:=Tryz.sizeOf4
 v4:=Tryz.zeroValue4
 t9:=Tryz.underlying9
 a9:=Tryz.isAgg9
 z9:=Tryz.sizeOf9
 v9:=Tryz.zeroValue9
 t20:=Tryz.underlying20
 a20:=Tryz.isAgg20
 z20:=Tryz.sizeOf20
 v20:=Tryz.zeroValue20
 t31:=Tryz.underlying268
 a31:=Tryz.isAgg268
 z31:=Tryz.sizeOf268
 v31:=Tryz.zeroValue268
 t37:=Tryz.underlying281
 a37:=Tryz.isAgg281
 z37:=Tryz.sizeOf281
 v37:=Tryz.zeroValue281
 t70:=Tryz.underlying280
 a70:=Tryz.isAgg280
 z70:=Tryz.sizeOf280
 v70:=Tryz.zeroValue280
 t72:=Tryz.underlying283
 a72:=Tryz.isAgg283
 z72:=Tryz.sizeOf283
 v72:=Tryz.zeroValue283
 t75:=Tryz.underlying285
 a75:=Tryz.isAgg285
 z75:=Tryz.sizeOf285
 v75:=Tryz.zeroValue285
 t76:=Tryz.underlying286
 a76:=Tryz.isAgg286
 z76:=Tryz.sizeOf286
 v76:=Tryz.zeroValue286
 t127:=Tryz.underlying294
 a127:=Tryz.isAgg294
 z127:=Tryz.sizeOf294
 v127:=Tryz.zeroValue294
 t164:=Tryz.underlying295
 a164:=Tryz.isAgg295
 z164:=Tryz.sizeOf295
 v164:=Tryz.zeroValue295}
theorem Tryz.Builder_Extra_156:Builder.Extra Tryz.prog Tryz.lays156_ren:={
 sizeBuilder:=by kernel_rfl
 liesBuilder:=by kernel_rfl
 t5:=Tryz.underlying5
 a5:=Tryz.isAgg5
 z5:=Tryz.sizeOf5
 v5:=Tryz.zeroValue5
 infoByte:=by kernel_rfl
 cellsByte:=by kernel_rfl
 sizeByte:=by kernel_rfl
 neB5:=by decide}
open Go.RowKit in
theorem Tryz.strings_Join (bk o c:Nat) (xs:List ByteArray) (sep:ByteArray) (w:World) (hcells:∀(j:Nat) x,xs[j]?=some x→w.cell? ⟨bk,o+j,none⟩=some (.string x)) (hbk:bk<w.heap.size) (hN:xs.length≤140737488355328) (hcap:xs.length≤c) (hlen:(Lib.join (xs.map (·.data.toList)) sep.data.toList).length≤140737488355328) :
 Calls Tryz.prog 330 #[.slice (some ⟨bk,o,none⟩) xs.length c,.string sep] w fun e w'=>e=.returned (.string ⟨(Lib.join (xs.map (·.data.toList)) sep.data.toList).toArray⟩)∧Below w.heap.size w w':=Any.strings_Join Tryz.lays156 Tryz.Builder_Extra_156 bk o c xs sep w hcells hbk hN hcap hlen
def Tryz.lays229_ren:Go.Shelf.Ren:=⟨fun|229=>331|n=>n,fun|9=>9|40=>270|31=>268|152=>289|3=>3|0=>0|4=>4|21=>21|154=>291|n=>n,fun|n=>n⟩
theorem Tryz.lays229:Go.Proofs.Lays.n229 Tryz.prog Tryz.lays229_ren:={
 mixed:=by kernel_rfl
 f229:=Tryz.func331.trans (congrArg some (by kernel_rfl))
 t0:=Tryz.underlying0
 a0:=Tryz.isAgg0
 z0:=Tryz.sizeOf0
 v0:=Tryz.zeroValue0
 t3:=Tryz.underlying3
 a3:=Tryz.isAgg3
 z3:=Tryz.sizeOf3
 v3:=Tryz.zeroValue3
 t4:=Tryz.underlying4
 a4:=Tryz.isAgg4
 z4:=Tryz.sizeOf4
 v4:=Tryz.zeroValue4
 t9:=Tryz.underlying9
 a9:=Tryz.isAgg9
 z9:=Tryz.sizeOf9
 v9:=Tryz.zeroValue9
 t21:=Tryz.underlying21
 a21:=Tryz.isAgg21
 z21:=Tryz.sizeOf21
 v21:=Tryz.zeroValue21
 t31:=Tryz.underlying268
 a31:=Tryz.isAgg268
 z31:=Tryz.sizeOf268
 v31:=Tryz.zeroValue268
 t40:=Tryz.underlying270
 a40:=Tryz.isAgg270
 z40:=Tryz.sizeOf270
 v40:=Tryz.zeroValue270
 t152:=Tryz.underlying289
 a152:=Tryz.isAgg289
 z152:=Tryz.sizeOf289
 v152:=Tryz.zeroValue289
 t154:=Tryz.underlying291
 a154:=Tryz.isAgg291
 z154:=Tryz.sizeOf291
 v154:=Tryz.zeroValue291}
open Go.RowKit Go.Lib in
theorem Tryz.strings_FieldsFunc_runes (g:Nat) (lb:Array Value) (eg:∀args w,(callFunc g args).run Tryz.prog w=.ok (.enter g args) w) (p:Nat→Bool) (s:ByteArray) (w:World) (hs:s.size≤4294967296) (hp:PredAtRunes Tryz.prog g lb p w) :
 Calls Tryz.prog 331 #[.string s,.func (.func g) #[] lb] w fun e w'=>∃A,e=.returned (.slice (some ⟨A,0,none⟩) (Lib.goFieldsP p s).length (Lib.goFieldsP p s).length)∧w.heap.size≤A∧
  w'.ownsRow w.heap.size 9 1 (.slice (some ⟨A,0,none⟩) (Lib.goFieldsP p s).length (Lib.goFieldsP p s).length) (Lib.goFieldsP p s).length ((Lib.goFieldsP p s).map Value.string)∧Below w.heap.size w w':=Any.strings_FieldsFunc_runes Tryz.lays229 g lb eg p s w hs hp (by kernel_rfl) (by kernel_rfl)
open Go.RowKit in
theorem Tryz.strings_Join_none (a:Option Addr) (c:Nat) (sep:ByteArray) (w:World) :
 Calls Tryz.prog 330 #[.slice a 0 c,.string sep] w fun e w'=>e=.returned (.string ⟨#[]⟩)∧w'=w:=Any.strings_Join_none Tryz.lays156 Tryz.Builder_Extra_156 a c sep w
end Go.Proofs
namespace Go.Proofs.YtdahfgialanmpaaGreatDoor
open Go Ev
open Go.Lib Go.RowKit
theorem z7h {X:Ending} (b:Bool) {b':Bool} (h:X=.returned (.bool b)) (e:b=b'):X=.returned (.bool b'):=e▸h
set_option maxHeartbeats 4000000 in
set_option maxRecDepth 1000000 in
theorem z1d (s:ByteArray) (w:World) (hs:s.size≤1073741824) (hT:Lib.Utf8Tabs 1 2 w) :
 Calls Tryz.prog 244 #[.string s] w fun e w'=>e=.returned (.bool (vld s.data.toList))∧Below w.heap.size w w':=by
 have cV:Calls Tryz.prog 296 #[.string s] w _:=Any.utf8_ValidString Tryz.laysValid s w (by omega) hT
 have hvl:vld s.data.toList=(Lib.validD s.data.toList&&okN s.size s.data.toList):=by rw[Lib.size_eq];exact zau9 _ _
 rw[hvl]
 clear hvl
 generalize Lib.validD s.data.toList=V at cV ⊢
 cases V with
 |false=>
  rw[Bool.false_and]
  go_enter Tryz.func244,Tryz.ntmps244
  go_wp2_with (go_at_call 296;refine cV.mono ?_;rintro e w' ⟨rfl,hb⟩)
  go_ret
  exact ⟨rfl,hb⟩
 |true=>
  rw[Bool.true_and]
  go_enter Tryz.func244,Tryz.ntmps244
  go_wp2_with (go_at_call 296;refine cV.mono ?_;rintro e w' ⟨rfl,hb⟩)
  go_loopg [4] (s.size+1) (fun gk s4 wx=>∃pos:Nat,wx.heap[w'.heap.size]?=some (.stringIter s pos)∧Below w.heap.size w wx∧
   okN gk (s.data.toList.drop pos)=okN s.size s.data.toList∧s.size≤pos+gk∧pos≤s.size)
  case atStart=>
   refine ⟨0,World.iter_heap w' s 0,hb.alloc hb.size _,?_,by omega,by omega⟩
   rw[List.drop_zero]
   exact zaew _ _ _ (by rw[←Lib.size_eq];omega) (by rw[←Lib.size_eq];omega)
  case round=>
   obtain ⟨pos,hit,hbw,hok,hfu,hps⟩:=hrel
   have hdec:Lib.decodeL (s.data.toList.drop pos)=Utf8.decode s pos:=Lib.decodeL_drop s pos
   by_cases hlt:pos<s.size
   ·obtain ⟨g',rfl⟩:∃g',gk=g'+1:=⟨gk-1,by omega⟩
    have hnx:∀ty,(Instr.next (.pointer (some ⟨w'.heap.size,0,none⟩)) true ty).run Tryz.prog wr=_:=fun ty=>Lib.run_next_any_at wr w'.heap.size s pos ty hit hlt
    have hne:s.data.toList.drop pos≠[]:=by rw[Ne,List.drop_eq_nil_iff,←Lib.size_eq];omega
    have hwd:=ze1 hne
    rw[hdec,List.length_drop,←Lib.size_eq]at hwd
    simp only[okN,hne,if_false,hdec,List.drop_drop]at hok
    obtain ⟨R,hR⟩:∃R,(Utf8.decode s pos).1=R:=⟨_,rfl⟩
    obtain ⟨K,hK⟩:∃K,(Utf8.decode s pos).2=K:=⟨_,rfl⟩
    rw[hR,hK]at hnx hok
    rw[hK]at hwd
    have hit2:=Lib.iterAt_heap wr w'.heap.size s pos (pos+K) hit
    have hbw2:=Lib.below_iterAt hbw (k:=w'.heap.size) hb.size s (pos+K)
    by_cases h1:R<32
    ·have hz:(R:Int)<32:=by omega
     have hb1:badC R=true:=zfv.2 (.inl h1)
     rw[if_pos hb1]at hok
     go_wp2
     go_ret
     first|exact ⟨rfl,hbw2⟩|exact ⟨z7h false rfl hok,hbw2⟩
    ·have hz:¬(R:Int)<32:=by omega
     by_cases h2:127≤R
     ·have hz2:(127:Int)≤(R:Int):=by omega
      by_cases h3:R≤159
      ·have hz3:(R:Int)≤159:=by omega
       have hb1:badC R=true:=zfv.2 (.inr (.inl ⟨h2,h3⟩))
       rw[if_pos hb1]at hok
       go_wp2
       go_ret
       first|exact ⟨rfl,hbw2⟩|exact ⟨z7h false rfl hok,hbw2⟩
      ·have hz3:¬(R:Int)≤159:=by omega
       by_cases h4:65535<R
       ·have hz4:(65535:Int)<(R:Int):=by omega
        have hb1:badC R=true:=zfv.2 (.inr (.inr h4))
        rw[if_pos hb1]at hok
        go_wp2
        go_ret
        first|exact ⟨rfl,hbw2⟩|exact ⟨z7h false rfl hok,hbw2⟩
       ·have hz4:¬(65535:Int)<(R:Int):=by omega
        have hb1:¬badC R=true:=fun h=>by rw[zfv]at h;omega
        rw[if_neg hb1]at hok
        go_wp2
        go_roundg g'
        case measure=>omega
        case rel=>exact ⟨pos+K,hit2,hbw2,hok,by omega,by omega⟩
     ·have hz2:¬(127:Int)≤(R:Int):=by omega
      have hz4:¬(65535:Int)<(R:Int):=by omega
      have hb1:¬badC R=true:=fun h=>by rw[zfv]at h;omega
      rw[if_neg hb1]at hok
      go_wp2
      go_roundg g'
      case measure=>omega
      case rel=>exact ⟨pos+K,hit2,hbw2,hok,by omega,by omega⟩
   ·have:pos=s.size:=by omega
    subst this
    have hnx:∀ty,(Instr.next (.pointer (some ⟨w'.heap.size,0,none⟩)) true ty).run Tryz.prog wr=_:=fun ty=>Lib.run_next_end_at wr w'.heap.size s s.size ty hit hlt
    have hnil:s.data.toList.drop s.size=[]:=by rw[Lib.size_eq];simp
    have hok2:okN s.size s.data.toList=true:=by rw[←hok,hnil];cases gk<;>simp[okN]
    go_wp2
    go_ret
    first|exact ⟨rfl,hbw⟩|exact ⟨z7h true rfl hok2.symm,hbw⟩
set_option maxRecDepth 1000000 in
theorem zyw (R:Nat) (hR:R≤1114111) (w:World):Calls Tryz.prog 332 #[.int .i32 (R:Int)] w fun e w'=>e=.returned (.bool (blk R))∧∃q,w'=w.drewN q:=by
 by_cases h1:R=32
 ·subst h1
  go_enter Tryz.func332,Tryz.ntmps332
  go_wp2
  go_ret
  exact ⟨rfl,0,rfl⟩
 ·have z1:¬(R:Int)=32:=by omega
  by_cases h2:R=160
  ·subst h2
   go_enter Tryz.func332,Tryz.ntmps332
   go_wp2
   go_ret
   exact ⟨rfl,0,rfl⟩
  ·have z2:¬(R:Int)=160:=by omega
   have hb:blk R=false:=by unfold blk;simp[h1,h2]
   go_enter Tryz.func332,Tryz.ntmps332
   go_wp2
   go_ret
   exact ⟨z7h ((R:Int)==32||(R:Int)==160) rfl (by rw[hb,Bool.or_eq_false_iff];exact ⟨by simp;omega,by simp;omega⟩),0,rfl⟩
set_option maxHeartbeats 4000000 in
set_option maxRecDepth 1000000 in
theorem zza (s:ByteArray) (w:World) (hs:s.size≤1073741824) (hv:vld s.data.toList=true) :
 Calls Tryz.prog 297 #[.string s] w fun e w'=>e=.returned (.string ⟨(cln s.data.toList).toArray⟩)∧Below w.heap.size w w':=by
 have eg:∀args w,(callFunc 332 args).run Tryz.prog w=.ok (.enter 332 args) w:=enters_of Tryz.func332 (by kernel_rfl) rfl
 have hp:PredAtRunes Tryz.prog 332 #[] blk w:=fun W x hx hb=>by
  exact zyw x hx W
 have cF:=Tryz.strings_FieldsFunc_runes 332 #[] eg blk s w (by omega) hp
 have hj:=zzb (s:=s) (p:=blk) (fun _=>rfl) hv
 have hlen:(cln s.data.toList).length≤2*s.size:=zalr s
 obtain ⟨Fs,hFs⟩:∃Fs,Lib.goFieldsP blk s=Fs:=⟨_,rfl⟩
 have hfl:=zzp blk s
 rw[hFs]at hj cF hfl
 have cJ:∀A W,Below w.heap.size w W→W.ownsRow w.heap.size 9 1 (.slice (some ⟨A,0,none⟩) Fs.length Fs.length) Fs.length (Fs.map Value.string)→
  Calls Tryz.prog 330 #[.slice (some ⟨A,0,none⟩) Fs.length Fs.length,.string ⟨#[32]⟩] W fun e w'=>e=.returned (.string ⟨(cln s.data.toList).toArray⟩)∧Below w.heap.size w w':=by
  intro A W hb hrow
  by_cases h0:Fs=[]
  ·subst h0
   have:=Tryz.strings_Join_none (some ⟨A,0,none⟩) 0 ⟨#[32]⟩ W
   refine this.mono ?_
   rintro e w' ⟨rfl,rfl⟩
   rw[←hj]
   exact ⟨rfl,hb⟩
  ·obtain ⟨-,h|⟨g,cap,cur,hv2,hbg,hh,hn,hmx,hcs,hct⟩⟩:=hrow
   ·exact absurd (List.length_eq_zero_iff.1 h.2) h0
   ·injection hv2 with e1 e2 e3
    injection e1 with e1
    injection e1 with e1
    subst e1
    have hj2:(Lib.join (Fs.map (·.data.toList)) (⟨#[32]⟩:ByteArray).data.toList)=cln s.data.toList:=hj
    have:=Tryz.strings_Join A 0 Fs.length Fs ⟨#[32]⟩ W (fun j x hx=>by
     rw[Nat.mul_one]at hct
     have hj3:j<Fs.length:=(List.getElem?_eq_some_iff.1 hx).1
     have e4:cur.toList[j]?=some (Value.string x):=by
      rw[←List.getElem?_take_of_lt hj3,hct,List.getElem?_map,hx];rfl
     rw[Array.getElem?_toList]at e4
     rw[Nat.zero_add]
     simp only[World.cell?,hh]
     exact e4) (Array.getElem?_eq_some_iff.1 hh).1 (by omega) (Nat.le_refl _) (by rw[hj2];omega)
    refine this.mono ?_
    rintro e w' ⟨rfl,hb2⟩
    rw[hj2]
    exact ⟨rfl,hb.trans (hb2.mono hb.size)⟩
 clear hj hlen hFs hfl
 go_enter Tryz.func297,Tryz.ntmps297
 go_wp2_with (first|(go_at_call 331;refine cF.mono ?_;rintro e w' ⟨A,rfl,hA,hrow,hb⟩)|(go_at_call 330;refine (cJ A _ hb hrow).mono ?_;rintro e w'' ⟨rfl,hb2⟩))
 go_ret
 exact ⟨rfl,hb2⟩
end Go.Proofs.YtdahfgialanmpaaGreatDoor
namespace Go.Proofs.YtdahfgialanmpaaGreatDoor
open Go Ev
theorem zgv:∃i0 z,Tryz.prog.info? 43=some i0∧i0.zero=some z∧z.cells.size=10∧i0.size=10∧i0.bytes≤128:=by
 have h:(match Tryz.prog.info? 43 with|some i=>(match i.zero with|some z=>Nat.beq z.cells.size 10&&Nat.beq i.size 10&&Nat.ble i.bytes 128|none=>false)|none=>false)=true:=by kernel_rfl
 split at h
 ·rename_i i hi
  split at h
  ·rename_i z hz
   simp only[Bool.and_eq_true]at h
   exact ⟨i,z,hi,hz,Nat.eq_of_beq_eq_true h.1.1,Nat.eq_of_beq_eq_true h.1.2,Nat.le_of_ble_eq_true h.2⟩
  ·cases h
 ·cases h
set_option maxHeartbeats 4000000 in
set_option maxRecDepth 100000 in
theorem zlv {w:World} {b n c i vb vo vc:Nat} {L vs:List Value} {t:TypeId} (hi:i<n) (hroom:n+1≤c) (hlim:n+1≤1073741824) (hvb:vb≠b)
 (hb:w.heap[b]?=some (.cells L.toArray t (0,0))) (hL:L.length=c*10) (hvl:vs.length=10)
 (hvs:∀j v,vs[j]?=some v→w.cell? ⟨vb,vo+j,none⟩=some v) (h1:∀v∈(L.drop (i*10)).take ((n-i)*10),v.oneCell'=true) (h2:∀v∈vs,v.oneCell'=true) :
 Calls Tryz.prog 82 #[.slice (some ⟨b,0,none⟩) n c,.int .i64 i,.slice (some ⟨vb,vo,none⟩) 1 vc] w fun e w'=>
  e=.returned (.slice (some ⟨b,0,none⟩) (n+1) c)∧w'=(w.drew.setRow b (Go.splice L ((i+1)*10) ((L.drop (i*10)).take ((n-i)*10))).toArray).setRow b (Go.splice (Go.splice L ((i+1)*10) ((L.drop (i*10)).take ((n-i)*10))) (i*10) vs).toArray:=by
 obtain ⟨i0,z0,hi0,hz0,hzs,hsz,hby⟩:=zgv
 have hz2:¬((i:Int)=(n:Int)):=by omega
 have hva:∃va ta fa,w.heap[vb]?=some (.cells va ta fa)∧0<va.size:=by
  have h:=hvs 0 _ (List.getElem?_eq_getElem (by omega))
  unfold World.cell? at h
  split at h
  ·rename_i c0 t0 f0 hc0
   exact ⟨c0,t0,f0,hc0,by have:=(Array.getElem?_eq_some_iff.1 h).1;omega⟩
  ·cases h
 obtain ⟨va,ta,fa,hva,hva0⟩:=hva
 have hov:∀lb cb,(callFunc 182 #[.slice (some ⟨vb,vo,none⟩) 1 vc,.slice (some ⟨b,(i+1)*10,none⟩) lb cb]).run Tryz.prog w=.ok (.value (.bool false)) w:=fun lb cb=>by
  rw[run_callFunc_extern Tryz.func182 (by kernel_rfl) (by kernel_rfl) (by kernel_rfl) (e:=Extern.SlicesOverlaps.overlaps #[22,22] #[4]) (by kernel_rfl),
   zdk Tryz.underlying22 hi0 (a:=⟨vb,vo,none⟩) (b:=⟨b,(i+1)*10,none⟩) hvb hva hva0 hb (by simp only[List.size_toArray];omega)]
  rfl
 have hLn:(n+1)*10≤L.length:=by rw[hL];exact Nat.mul_le_mul_right _ hroom
 obtain ⟨C1,hC1⟩:∃C1,C1=(L.drop (i*10)).take ((n-i)*10):=⟨_,rfl⟩
 have hC1l:C1.length=(n-i)*10:=by rw[hC1];simp;omega
 obtain ⟨M1,hM1⟩:∃M1,M1=Go.splice L ((i+1)*10) C1:=⟨_,rfl⟩
 have hM1l:M1.length=L.length:=by rw[hM1];exact length_splice _ _ _ (by omega)
 rw[←hC1,←hM1]
 have hcp1:∀ty dc sc,(Builtin.copy_ #[22,22] ty #[.slice (some ⟨b,(i+1)*10,none⟩) (n-i) dc,.slice (some ⟨b,i*10,none⟩) (n+1-i) sc]).run Tryz.prog w.drew=.ok (goInt ((n-i:Nat):Int)) (w.drew.setRow b M1.toArray):=fun ty dc sc=>by
  have hmin:Nat.min (n+1-i) (n-i)=n-i:=by show min _ _=_;omega
  have:=zbk (P:=Tryz.prog) (w:=w.drew) (sT:=22) (ty:=ty) (dCap:=dc) (sCap:=sc) (dLen:=n-i) (sLen:=n+1-i) (o:=(i+1)*10) (a:=⟨b,i*10,none⟩) Tryz.underlying22 hi0 hsz hb (cs:=C1) (by rw[hmin];exact hC1l)
   (fun j v hj=>by
    rw[Addr.add_lit]
    show w.cell? _=_
    simp only[World.cell?,hb]
    rw[hC1,List.getElem?_take]at hj
    split at hj
    ·simpa using hj
    ·cases hj) (by omega) (by rw[hC1];exact h1)
  rw[hmin,←hM1]at this
  exact this
 have hcp2:∀(W:World),W=(w.drew.setRow b M1.toArray)→∀ty dc,(Builtin.copy_ #[22,22] ty #[.slice (some ⟨b,i*10,none⟩) (n+1-i) dc,.slice (some ⟨vb,vo,none⟩) 1 vc]).run Tryz.prog W=.ok (goInt 1) (W.setRow b (Go.splice M1 (i*10) vs).toArray):=fun W hW ty dc=>by
  have hmin:Nat.min 1 (n+1-i)=1:=by show min _ _=_;omega
  have:=zbk (P:=Tryz.prog) (w:=W) (sT:=22) (ty:=ty) (dCap:=dc) (sCap:=vc) (dLen:=n+1-i) (sLen:=1) (o:=i*10) (a:=⟨vb,vo,none⟩) Tryz.underlying22 hi0 hsz (g:=b) (t:=t) (L:=M1) (by rw[hW];exact setRow_heap _ _ _ _ _ _ hb) (cs:=vs) (by rw[hmin];omega)
   (fun j v hj=>by
    rw[Addr.add_lit,hW,cell_setRow_other _ _ _ _ hvb]
    exact hvs j v hj) (by omega) h2
  rw[hmin]at this
  exact this
 have hw1:IntKind.i64.wrap ((i:Int)+1)=(i:Int)+1:=by rw[IntKind.wrap_i64];omega
 have hb1:(0:Int)≤(i:Int)+1:=by omega
 have hin:i≤n:=by omega
 have htn:((i:Int)+1).toNat=i+1:=by omega
 have hb2:¬(c=i+1):=by omega
 have hb3:(i:Int)≤(n:Int)+1:=by omega
 have hb4:¬(c=i):=by omega
 have mixed:Tryz.prog.follows .mixedOrders=true:=by kernel_rfl
 clear hC1 hM1 hC1l hM1l h1 h2 hvs hL
 go_enter Tryz.func82,Tryz.ntmps82
 go_wp2_with (simp only[hov])
 go_region_law_o (refine zda rfl _ _ 22 22 rfl _ _ (by simp[Act.eval,Act.put]) (by simp[Act.eval,Act.put]) (hcp1 _ _ _) ?_)
 go_wp2_with (at_builtin;refine zlo rfl _ _ 22 22 rfl _ _ rfl rfl (hcp2 _ rfl _ _) ?_)
 go_ret
 exact ⟨rfl,rfl⟩
theorem zl6 {i0:TypeInfo} {k c:Nat} (h:c<k) (hk:k≤1073741824) (hby:i0.bytes≤128):Builtin.nextslicecap k c*i0.bytes≤281474976710656:=
 growslice_fits h (Nat.le_trans (Nat.mul_le_mul hk hby) (by decide))
set_option maxHeartbeats 4000000 in
set_option maxRecDepth 100000 in
theorem zox {w:World} {b n c vb vo vc:Nat} {L vs:List Value} {t:TypeId} (hroom:n+1≤c) (hlim:n+1≤1073741824)
 (hb:w.heap[b]?=some (.cells L.toArray t (0,0))) (hL:L.length=c*10) (hvl:vs.length=10)
 (hvs:∀j v,vs[j]?=some v→w.cell? ⟨vb,vo+j,none⟩=some v) (h2:∀v∈vs,v.oneCell'=true) :
 Calls Tryz.prog 82 #[.slice (some ⟨b,0,none⟩) n c,.int .i64 n,.slice (some ⟨vb,vo,none⟩) 1 vc] w fun e w'=>
  e=.returned (.slice (some ⟨b,0,none⟩) (n+1) c)∧w'=w.setRow b (Go.splice L (n*10) vs).toArray:=by
 obtain ⟨i0,z0,hi0,hz0,hzs,hsz,hby⟩:=zgv
 have hLn:(n+1)*10≤L.length:=by rw[hL];exact Nat.mul_le_mul_right _ hroom
 have hf:=run_firstCells_some (P:=Tryz.prog) w i0.size 1 ⟨vb,vo,none⟩ 1 vc vs (by omega) (fun j v hj=>by rw[Addr.add_lit];exact hvs j v hj)
 have hap:∀ty,(Builtin.append_ #[22,22] ty #[.slice (some ⟨b,0,none⟩) n c,.slice (some ⟨vb,vo,none⟩) 1 vc]).run Tryz.prog w=.ok (.slice (some ⟨b,0,none⟩) (n+1) c) (w.setRow b (Go.splice L (n*10) vs).toArray):=fun ty=>by
  have:=zb2 (P:=Tryz.prog) (w:=w) (ty:=ty) (ts:=#[22,22]) rfl rfl Tryz.underlying22 Tryz.underlying22 hi0 hf hroom hb (by simp only[List.size_toArray];rw[hsz];omega) h2
  rw[hsz]at this
  simpa[Go.splice]using this
 go_enter Tryz.func82,Tryz.ntmps82
 go_wp2_with (at_builtin;refine zbl rfl _ _ _ _ rfl _ _ rfl rfl (hap _) ?_)
 all_goals (go_ret;exact ⟨rfl,rfl⟩)
set_option maxHeartbeats 4000000 in
set_option maxRecDepth 100000 in
theorem zqp {w:World} {base:Option Addr} {n c vb vo vc:Nat} {olds vs:List Value} (hnc:n≤c) (hroom:c<n+1) (hlim:n+1≤1073741824) (hvl:vs.length=10)
 (hnil:base=none→n=0) (hol:olds.length=n*10) (hos:∀a,base=some a→∀j v,olds[j]?=some v→w.cell? (a.add j)=some v)
 (hvs:∀j v,vs[j]?=some v→w.cell? ⟨vb,vo+j,none⟩=some v) :
 Calls Tryz.prog 82 #[.slice base n c,.int .i64 n,.slice (some ⟨vb,vo,none⟩) 1 vc] w fun e w'=>
  ∃cap zs,e=.returned (.slice (some ⟨w.heap.size,0,none⟩) (n+1) cap)∧w'=w.drew.alloc (.cells (olds++(vs++zs)).toArray 43)∧n+1≤cap∧zs.length=(cap-(n+1))*10:=by
 obtain ⟨i0,z0,hi0,hz0,hzs,hsz,hby⟩:=zgv
 have hf:=run_firstCells_some (P:=Tryz.prog) w.drew i0.size 1 ⟨vb,vo,none⟩ 1 vc vs (by omega) (fun j v hj=>by rw[Addr.add_lit];exact hvs j v hj)
 have hold:(Builtin.firstCells i0.size n (.slice base n c)).run Tryz.prog w.drew=.ok olds.toArray w.drew:=by
  cases base with
  |none=>
   have h0:=hnil rfl
   subst h0
   rw[List.length_eq_zero_iff.1 (by omega:olds.length=0)]
   exact run_firstCells_none w.drew _ 0 0 c
  |some a=>exact run_firstCells_some w.drew _ n a n c olds (by rw[hsz];omega) (fun j v hj=>hos a rfl j v hj)
 have hap:∀ty,(Builtin.append_ #[22,22] ty #[.slice base n c,.slice (some ⟨vb,vo,none⟩) 1 vc]).run Tryz.prog w=_:=fun ty=>
  zcg (P:=Tryz.prog) (w:=w) (ty:=ty) (ts:=#[22,22]) rfl rfl Tryz.underlying22 Tryz.underlying22 hi0 hz0 hf hold hroom (by omega) (zl6 hroom hlim hby)
 have hge:=zb9 w (n+1) c 43
 obtain ⟨G,hG⟩:∃G,G=grownCap w (n+1) c 43:=⟨_,rfl⟩
 obtain ⟨zs,hzs'⟩:∃zs,zs=(Builtin.zeroCells z0.cells (G-(n+1))).toList:=⟨_,rfl⟩
 rw[←hG]at hap hge
 rw[←hzs']at hap
 have hzl:zs.length=(G-(n+1))*10:=by rw[hzs',Array.length_toList,size_zeroCells,hzs]
 clear hG hzs'
 go_enter Tryz.func82,Tryz.ntmps82
 cases base with
 |none=>
  have h0:=hnil rfl
  subst h0
  go_wp2_with (at_builtin;refine zbl rfl _ _ _ _ rfl _ _ rfl rfl (hap _) ?_)
  all_goals (go_ret;first|exact ⟨_,_,rfl,rfl,hge,hzl⟩|exact ⟨_,rfl,_,rfl,hge,hzl⟩)
 |some a=>
  obtain ⟨ab,ao,asp⟩:=a
  go_wp2_with (at_builtin;refine zbl rfl _ _ _ _ rfl _ _ rfl rfl (hap _) ?_)
  all_goals (go_ret;first|exact ⟨_,_,rfl,rfl,hge,hzl⟩|exact ⟨_,rfl,_,rfl,hge,hzl⟩)
set_option maxHeartbeats 4000000 in
set_option maxRecDepth 100000 in
theorem zow {w:World} {b n c i vb vo vc:Nat} {L vs:List Value} {t:TypeId} (hi:i<n) (hnc:n≤c) (hroom:c<n+1) (hlim:n+1≤1073741824) (hvb:vb≠b)
 (hb:w.heap[b]?=some (.cells L.toArray t (0,0))) (hL:L.length=c*10) (hvl:vs.length=10)
 (hvs:∀j v,vs[j]?=some v→w.cell? ⟨vb,vo+j,none⟩=some v) (h1:∀v∈(L.drop (i*10)).take ((n-i)*10),v.oneCell'=true) (h2:∀v∈vs,v.oneCell'=true) :
 Calls Tryz.prog 82 #[.slice (some ⟨b,0,none⟩) n c,.int .i64 i,.slice (some ⟨vb,vo,none⟩) 1 vc] w fun e w'=>
  ∃cap row,e=.returned (.slice (some ⟨w.heap.size,0,none⟩) (n+1) cap)∧n+1≤cap∧row.length=cap*10∧row.take (i*10)=L.take (i*10)∧
   w'.heap=(w.heap.push (.cells (Go.splice (Go.splice row (i*10) vs) ((i+1)*10) ((L.drop (i*10)).take ((n-i)*10))).toArray 43))∧w'.os=w.os∧w'.output=w.output∧w'.tape=w.tape:=by
 obtain ⟨i0,z0,hi0,hz0,hzs,hsz,hby⟩:=zgv
 have hz2:¬((i:Int)=(n:Int)):=by omega
 have hz3:(c:Int)<(n:Int)+1:=by omega
 have hLn:n*10≤L.length:=by rw[hL];exact Nat.mul_le_mul_right _ hnc
 have hbw:b<w.heap.size:=(Array.getElem?_eq_some_iff.1 hb).1
 have hvw:vb<w.heap.size:=by
  have h:=hvs 0 _ (List.getElem?_eq_getElem (by omega))
  unfold World.cell? at h
  split at h
  ·rename_i c0 t0 f0 hc0
   exact (Array.getElem?_eq_some_iff.1 hc0).1
  ·cases h
 have hkk:(n:Int)+1-(i:Int)=((n+1-i:Nat):Int):=by omega
 have hik:i+(n+1-i)=n+1:=by omega
 have hTl:(L.take (i*10)).length=i*10:=by simp;omega
 have hold:(Builtin.firstCells i0.size i (.slice (some ⟨b,0,none⟩) i c)).run Tryz.prog w.drew=.ok (L.take (i*10)).toArray w.drew:=by
  refine run_firstCells_some w.drew _ i ⟨b,0,none⟩ i c (L.take (i*10)) (by rw[hsz];exact hTl) (fun j v hj=>?_)
  rw[Addr.add_lit,Nat.zero_add]
  show w.cell? _=_
  simp only[World.cell?,hb]
  rw[List.getElem?_take]at hj
  split at hj
  ·simpa using hj
  ·cases hj
 have hrz:∀ty,(Builtin.append_ #[22,3] ty #[.slice (some ⟨b,0,none⟩) i c,.int .i64 ((n:Int)+1-(i:Int))]).run Tryz.prog w =
  .ok (.slice (some ⟨w.heap.size,0,none⟩) (n+1) (grownCap w (n+1) c 43)) (w.drew.alloc (.cells ((L.take (i*10)).toArray++Builtin.zeroCells z0.cells (n+1-i)++Builtin.zeroCells z0.cells (grownCap w (n+1) c 43-(n+1))) 43)):=fun ty=>by
  have h:=Lib.run_append_grow_zeros w 22 3 ty 43 i0 _ .i64 .i64 Tryz.underlying22 Tryz.underlying3 hi0 hz0 (some ⟨b,0,none⟩) i c _ hold (n+1-i) (by omega) (by omega) (by omega) (by omega)
   (Nat.le_trans (Nat.mul_le_mul (show n+1-i≤1073741824 by omega) hby) (by decide)) (by rw[hik];exact zl6 hroom hlim hby)
  rw[hik]at h
  rw[hkk]
  exact h
 have hge:=zb9 w (n+1) c 43
 obtain ⟨G,hG⟩:∃G,G=grownCap w (n+1) c 43:=⟨_,rfl⟩
 rw[←hG]at hrz hge
 have hG63:G≤9223372036854775807:=by
  have:=grownCap_le_maxLen w (n+1) c 43 (by unfold maxLen;omega)
  rw[←hG]at this
  unfold maxLen at this
  omega
 obtain ⟨R,hR⟩:∃R:List Value,R=L.take (i*10)++((Builtin.zeroCells z0.cells (n+1-i)).toList++(Builtin.zeroCells z0.cells (G-(n+1))).toList):=⟨_,rfl⟩
 have hRl:R.length=G*10:=by
  rw[hR]
  simp only[List.length_append,Array.length_toList,size_zeroCells,hzs,hTl]
  rw[←Nat.add_mul,←Nat.add_mul]
  congr 1
  omega
 have hRt:R.take (i*10)=L.take (i*10):=by rw[hR,List.take_append_of_le_length (by omega),List.take_of_length_le (by omega)]
 have hRe:(L.take (i*10)).toArray++Builtin.zeroCells z0.cells (n+1-i)++Builtin.zeroCells z0.cells (G-(n+1))=R.toArray:=by
  rw[hR];apply Array.ext';simp
 rw[hRe]at hrz
 obtain ⟨C1,hC1⟩:∃C1,C1=(L.drop (i*10)).take ((n-i)*10):=⟨_,rfl⟩
 have hC1l:C1.length=(n-i)*10:=by rw[hC1];simp;omega
 have hGn:(n+1)*10≤R.length:=by rw[hRl];exact Nat.mul_le_mul_right _ hge
 obtain ⟨M1,hM1⟩:∃M1,M1=Go.splice R (i*10) vs:=⟨_,rfl⟩
 have hM1l:M1.length=R.length:=by rw[hM1];exact length_splice _ _ _ (by omega)
 rw[←hC1]
 obtain ⟨gb,hgb⟩:∃gb,gb=w.heap.size:=⟨_,rfl⟩
 have hnew:∀W:World,W.heap=w.heap.push (.cells R.toArray 43)→W.heap[gb]?=some (.cells R.toArray 43 (0,0)):=fun W hW=>by rw[hW,hgb];simp
 have hpast:∀W:World,W.heap=w.heap.push (.cells R.toArray 43)→∀k,k<w.heap.size→W.heap[k]?=w.heap[k]?:=fun W hW k hk=>by rw[hW,Array.getElem?_push_lt hk];simp[hk]
 have hcpA:∀(W:World),W.heap=w.heap.push (.cells R.toArray 43)→∀ty dc,(Builtin.copy_ #[22,22] ty #[.slice (some ⟨gb,i*10,none⟩) (n+1-i) dc,.slice (some ⟨vb,vo,none⟩) 1 vc]).run Tryz.prog W=.ok (goInt 1) (W.setRow gb M1.toArray):=fun W hW ty dc=>by
  have hmin:Nat.min 1 (n+1-i)=1:=by show min _ _=_;omega
  have:=zbk (P:=Tryz.prog) (w:=W) (sT:=22) (ty:=ty) (dCap:=dc) (sCap:=vc) (dLen:=n+1-i) (sLen:=1) (o:=i*10) (a:=⟨vb,vo,none⟩) Tryz.underlying22 hi0 hsz (g:=gb) (t:=43) (L:=R) (hnew W hW) (cs:=vs) (by rw[hmin];omega)
   (fun j v hj=>by
    rw[Addr.add_lit]
    unfold World.cell?
    rw[show W.heap[(⟨vb,vo+j,none⟩:Addr).block]?=w.heap[vb]? from hpast W hW vb hvw]
    exact hvs j v hj) (by omega) h2
  rw[hmin,←hM1]at this
  exact this
 have hcpB:∀(W W0:World),W0.heap=w.heap.push (.cells R.toArray 43)→W.heap=(W0.setRow gb M1.toArray).heap→∀ty dc sc,(Builtin.copy_ #[22,22] ty #[.slice (some ⟨gb,(i+1)*10,none⟩) (n-i) dc,.slice (some ⟨b,i*10,none⟩) (n-i) sc]).run Tryz.prog W=.ok (goInt ((n-i:Nat):Int)) (W.setRow gb (Go.splice M1 ((i+1)*10) C1).toArray):=fun W W0 hW0 hW ty dc sc=>by
  have hmin:Nat.min (n-i) (n-i)=n-i:=by show min _ _=_;omega
  have:=zbk (P:=Tryz.prog) (w:=W) (sT:=22) (ty:=ty) (dCap:=dc) (sCap:=sc) (dLen:=n-i) (sLen:=n-i) (o:=(i+1)*10) (a:=⟨b,i*10,none⟩) Tryz.underlying22 hi0 hsz (g:=gb) (t:=43) (L:=M1) (by rw[hW];exact setRow_heap _ _ _ _ _ _ (hnew W0 hW0)) (cs:=C1) (by rw[hmin];exact hC1l)
   (fun j v hj=>by
    rw[Addr.add_lit]
    unfold World.cell?
    have e:W.heap[(⟨b,i*10+j,none⟩:Addr).block]?=w.heap[b]?:=by
     show W.heap[b]?=_
     rw[hW,setRow_other _ _ _ _ (by omega),hpast W0 hW0 b hbw]
    rw[e,hb]
    rw[hC1,List.getElem?_take]at hj
    split at hj
    ·simpa using hj
    ·cases hj) (by omega) (by rw[hC1];exact h1)
  rw[hmin]at this
  exact this
 have hw1:IntKind.i64.wrap ((i:Int)+1)=(i:Int)+1:=by rw[IntKind.wrap_i64];omega
 have hb1:(0:Int)≤(i:Int)+1:=by omega
 have hin:i≤n:=by omega
 have htn:((i:Int)+1).toNat=i+1:=by omega
 have hb3:(i:Int)≤(n:Int):=by omega
 have hGi:¬(G=i):=by omega
 have hGim:¬(G=i+1):=by omega
 have hci:¬(c=i):=by omega
 have hmixed:Tryz.prog.follows .mixedOrders=true:=by kernel_rfl
 have mixed:=hmixed
 have hfin:∀W W0:World,W0.heap=w.heap.push (.cells R.toArray 43)→W.heap=(W0.setRow gb M1.toArray).heap→(W.setRow gb (Go.splice M1 ((i+1)*10) C1).toArray).heap=w.heap.push (.cells (Go.splice M1 ((i+1)*10) C1).toArray 43):=fun W W0 hW0 hW=>by
  have h1:W.heap[gb]?=some (.cells M1.toArray 43 (0,0)):=by rw[hW];exact setRow_heap _ _ _ _ _ _ (hnew W0 hW0)
  have hsz0:W.heap.size=w.heap.size+1:=by rw[hW,setRow_size,hW0];simp
  apply Array.ext_getElem?
  intro k
  by_cases hk:k=gb
  ·subst hk
   rw[setRow_heap _ _ _ _ _ _ h1,hgb];simp
  ·rw[setRow_other _ _ _ _ hk]
   by_cases hk2:k<w.heap.size
   ·rw[hW,setRow_other _ _ _ _ hk,hpast W0 hW0 k hk2,Array.getElem?_push_lt hk2];simp[hk2]
   ·rw[Array.getElem?_eq_none (by omega),Array.getElem?_eq_none (by simp;omega)]
 have hMM:Go.splice (Go.splice R (i*10) vs) ((i+1)*10) C1=Go.splice M1 ((i+1)*10) C1:=by rw[hM1]
 subst hgb
 have hcpA':=hcpA ((w.alloc (.cells R.toArray 43)).drew) rfl
 clear hkk hcpA hik hold hG hR hRe hC1 hM1 hC1l hM1l h1 h2 hvs hL hTl
 go_enter Tryz.func82,Tryz.ntmps82
 go_wp2_with (at_builtin;refine zbl rfl _ _ _ _ rfl _ _ rfl rfl (hrz _) ?_)
 go_region_law_o (refine zda rfl _ _ 22 22 rfl (.slice (some ⟨w.heap.size,(i+1)*10,none⟩) (n-i) (G-(i+1))) (.slice (some ⟨b,i*10,none⟩) (n-i) (c-i)) (by simp[Act.eval,Act.put]) (by simp[Act.eval,Act.put]) (hcpB (((w.alloc (.cells R.toArray 43)).drew.setRow w.heap.size M1.toArray).drew) (w.drew.alloc (.cells R.toArray 43)) rfl rfl 3 (G-(i+1)) (c-i)) ?_)
 go_wp2
 go_ret
 refine ⟨G,R,rfl,hge,hRl,hRt,?_,rfl,rfl,rfl⟩
 rw[hMM]
 exact hfin _ (w.drew.alloc (.cells R.toArray 43)) rfl rfl
end Go.Proofs.YtdahfgialanmpaaGreatDoor
namespace Go.Proofs.YtdahfgialanmpaaGreatDoor
open Go Ev
theorem ze3:∃i0 z,Tryz.prog.info? 45=some i0∧i0.zero=some z∧z.cells.size=6∧i0.size=6∧i0.bytes≤128:=by
 have h:(match Tryz.prog.info? 45 with|some i=>(match i.zero with|some z=>Nat.beq z.cells.size 6&&Nat.beq i.size 6&&Nat.ble i.bytes 128|none=>false)|none=>false)=true:=by kernel_rfl
 split at h
 ·rename_i i hi
  split at h
  ·rename_i z hz
   simp only[Bool.and_eq_true]at h
   exact ⟨i,z,hi,hz,Nat.eq_of_beq_eq_true h.1.1,Nat.eq_of_beq_eq_true h.1.2,Nat.le_of_ble_eq_true h.2⟩
  ·cases h
 ·cases h
set_option maxHeartbeats 4000000 in
set_option maxRecDepth 100000 in
theorem zib {w:World} {b n c i vb vo vc:Nat} {L vs:List Value} {t:TypeId} (hi:i<n) (hroom:n+1≤c) (hlim:n+1≤1073741824) (hvb:vb≠b)
 (hb:w.heap[b]?=some (.cells L.toArray t (0,0))) (hL:L.length=c*6) (hvl:vs.length=6)
 (hvs:∀j v,vs[j]?=some v→w.cell? ⟨vb,vo+j,none⟩=some v) (h1:∀v∈(L.drop (i*6)).take ((n-i)*6),v.oneCell'=true) (h2:∀v∈vs,v.oneCell'=true) :
 Calls Tryz.prog 188 #[.slice (some ⟨b,0,none⟩) n c,.int .i64 i,.slice (some ⟨vb,vo,none⟩) 1 vc] w fun e w'=>
  e=.returned (.slice (some ⟨b,0,none⟩) (n+1) c)∧w'=(w.drew.setRow b (Go.splice L ((i+1)*6) ((L.drop (i*6)).take ((n-i)*6))).toArray).setRow b (Go.splice (Go.splice L ((i+1)*6) ((L.drop (i*6)).take ((n-i)*6))) (i*6) vs).toArray:=by
 obtain ⟨i0,z0,hi0,hz0,hzs,hsz,hby⟩:=ze3
 have hz2:¬((i:Int)=(n:Int)):=by omega
 have hva:∃va ta fa,w.heap[vb]?=some (.cells va ta fa)∧0<va.size:=by
  have h:=hvs 0 _ (List.getElem?_eq_getElem (by omega))
  unfold World.cell? at h
  split at h
  ·rename_i c0 t0 f0 hc0
   exact ⟨c0,t0,f0,hc0,by have:=(Array.getElem?_eq_some_iff.1 h).1;omega⟩
  ·cases h
 obtain ⟨va,ta,fa,hva,hva0⟩:=hva
 have hov:∀lb cb,(callFunc 266 #[.slice (some ⟨vb,vo,none⟩) 1 vc,.slice (some ⟨b,(i+1)*6,none⟩) lb cb]).run Tryz.prog w=.ok (.value (.bool false)) w:=fun lb cb=>by
  rw[run_callFunc_extern Tryz.func266 (by kernel_rfl) (by kernel_rfl) (by kernel_rfl) (e:=Extern.SlicesOverlaps.overlaps #[23,23] #[4]) (by kernel_rfl),
   zdk Tryz.underlying23 hi0 (a:=⟨vb,vo,none⟩) (b:=⟨b,(i+1)*6,none⟩) hvb hva hva0 hb (by simp only[List.size_toArray];omega)]
  rfl
 have hLn:(n+1)*6≤L.length:=by rw[hL];exact Nat.mul_le_mul_right _ hroom
 obtain ⟨C1,hC1⟩:∃C1,C1=(L.drop (i*6)).take ((n-i)*6):=⟨_,rfl⟩
 have hC1l:C1.length=(n-i)*6:=by rw[hC1];simp;omega
 obtain ⟨M1,hM1⟩:∃M1,M1=Go.splice L ((i+1)*6) C1:=⟨_,rfl⟩
 have hM1l:M1.length=L.length:=by rw[hM1];exact length_splice _ _ _ (by omega)
 rw[←hC1,←hM1]
 have hcp1:∀ty dc sc,(Builtin.copy_ #[23,23] ty #[.slice (some ⟨b,(i+1)*6,none⟩) (n-i) dc,.slice (some ⟨b,i*6,none⟩) (n+1-i) sc]).run Tryz.prog w.drew=.ok (goInt ((n-i:Nat):Int)) (w.drew.setRow b M1.toArray):=fun ty dc sc=>by
  have hmin:Nat.min (n+1-i) (n-i)=n-i:=by show min _ _=_;omega
  have:=zbk (P:=Tryz.prog) (w:=w.drew) (sT:=23) (ty:=ty) (dCap:=dc) (sCap:=sc) (dLen:=n-i) (sLen:=n+1-i) (o:=(i+1)*6) (a:=⟨b,i*6,none⟩) Tryz.underlying23 hi0 hsz hb (cs:=C1) (by rw[hmin];exact hC1l)
   (fun j v hj=>by
    rw[Addr.add_lit]
    show w.cell? _=_
    simp only[World.cell?,hb]
    rw[hC1,List.getElem?_take]at hj
    split at hj
    ·simpa using hj
    ·cases hj) (by omega) (by rw[hC1];exact h1)
  rw[hmin,←hM1]at this
  exact this
 have hcp2:∀(W:World),W=(w.drew.setRow b M1.toArray)→∀ty dc,(Builtin.copy_ #[23,23] ty #[.slice (some ⟨b,i*6,none⟩) (n+1-i) dc,.slice (some ⟨vb,vo,none⟩) 1 vc]).run Tryz.prog W=.ok (goInt 1) (W.setRow b (Go.splice M1 (i*6) vs).toArray):=fun W hW ty dc=>by
  have hmin:Nat.min 1 (n+1-i)=1:=by show min _ _=_;omega
  have:=zbk (P:=Tryz.prog) (w:=W) (sT:=23) (ty:=ty) (dCap:=dc) (sCap:=vc) (dLen:=n+1-i) (sLen:=1) (o:=i*6) (a:=⟨vb,vo,none⟩) Tryz.underlying23 hi0 hsz (g:=b) (t:=t) (L:=M1) (by rw[hW];exact setRow_heap _ _ _ _ _ _ hb) (cs:=vs) (by rw[hmin];omega)
   (fun j v hj=>by
    rw[Addr.add_lit,hW,cell_setRow_other _ _ _ _ hvb]
    exact hvs j v hj) (by omega) h2
  rw[hmin]at this
  exact this
 have hw1:IntKind.i64.wrap ((i:Int)+1)=(i:Int)+1:=by rw[IntKind.wrap_i64];omega
 have hb1:(0:Int)≤(i:Int)+1:=by omega
 have hin:i≤n:=by omega
 have htn:((i:Int)+1).toNat=i+1:=by omega
 have hb2:¬(c=i+1):=by omega
 have hb3:(i:Int)≤(n:Int)+1:=by omega
 have hb4:¬(c=i):=by omega
 have mixed:Tryz.prog.follows .mixedOrders=true:=by kernel_rfl
 clear hC1 hM1 hC1l hM1l h1 h2 hvs hL
 go_enter Tryz.func188,Tryz.ntmps188
 go_wp2_with (simp only[hov])
 go_region_law_o (refine zda rfl _ _ 23 23 rfl _ _ (by simp[Act.eval,Act.put]) (by simp[Act.eval,Act.put]) (hcp1 _ _ _) ?_)
 go_wp2_with (at_builtin;refine zlo rfl _ _ 23 23 rfl _ _ rfl rfl (hcp2 _ rfl _ _) ?_)
 go_ret
 exact ⟨rfl,rfl⟩
theorem zhr {i0:TypeInfo} {k c:Nat} (h:c<k) (hk:k≤1073741824) (hby:i0.bytes≤128):Builtin.nextslicecap k c*i0.bytes≤281474976710656:=
 growslice_fits h (Nat.le_trans (Nat.mul_le_mul hk hby) (by decide))
set_option maxHeartbeats 4000000 in
set_option maxRecDepth 100000 in
theorem zjp {w:World} {b n c vb vo vc:Nat} {L vs:List Value} {t:TypeId} (hroom:n+1≤c) (hlim:n+1≤1073741824)
 (hb:w.heap[b]?=some (.cells L.toArray t (0,0))) (hL:L.length=c*6) (hvl:vs.length=6)
 (hvs:∀j v,vs[j]?=some v→w.cell? ⟨vb,vo+j,none⟩=some v) (h2:∀v∈vs,v.oneCell'=true) :
 Calls Tryz.prog 188 #[.slice (some ⟨b,0,none⟩) n c,.int .i64 n,.slice (some ⟨vb,vo,none⟩) 1 vc] w fun e w'=>
  e=.returned (.slice (some ⟨b,0,none⟩) (n+1) c)∧w'=w.setRow b (Go.splice L (n*6) vs).toArray:=by
 obtain ⟨i0,z0,hi0,hz0,hzs,hsz,hby⟩:=ze3
 have hLn:(n+1)*6≤L.length:=by rw[hL];exact Nat.mul_le_mul_right _ hroom
 have hf:=run_firstCells_some (P:=Tryz.prog) w i0.size 1 ⟨vb,vo,none⟩ 1 vc vs (by omega) (fun j v hj=>by rw[Addr.add_lit];exact hvs j v hj)
 have hap:∀ty,(Builtin.append_ #[23,23] ty #[.slice (some ⟨b,0,none⟩) n c,.slice (some ⟨vb,vo,none⟩) 1 vc]).run Tryz.prog w=.ok (.slice (some ⟨b,0,none⟩) (n+1) c) (w.setRow b (Go.splice L (n*6) vs).toArray):=fun ty=>by
  have:=zb2 (P:=Tryz.prog) (w:=w) (ty:=ty) (ts:=#[23,23]) rfl rfl Tryz.underlying23 Tryz.underlying23 hi0 hf hroom hb (by simp only[List.size_toArray];rw[hsz];omega) h2
  rw[hsz]at this
  simpa[Go.splice]using this
 go_enter Tryz.func188,Tryz.ntmps188
 go_wp2_with (at_builtin;refine zbl rfl _ _ _ _ rfl _ _ rfl rfl (hap _) ?_)
 all_goals (go_ret;exact ⟨rfl,rfl⟩)
set_option maxHeartbeats 4000000 in
set_option maxRecDepth 100000 in
theorem zlx {w:World} {base:Option Addr} {n c vb vo vc:Nat} {olds vs:List Value} (hnc:n≤c) (hroom:c<n+1) (hlim:n+1≤1073741824) (hvl:vs.length=6)
 (hnil:base=none→n=0) (hol:olds.length=n*6) (hos:∀a,base=some a→∀j v,olds[j]?=some v→w.cell? (a.add j)=some v)
 (hvs:∀j v,vs[j]?=some v→w.cell? ⟨vb,vo+j,none⟩=some v) :
 Calls Tryz.prog 188 #[.slice base n c,.int .i64 n,.slice (some ⟨vb,vo,none⟩) 1 vc] w fun e w'=>
  ∃cap zs,e=.returned (.slice (some ⟨w.heap.size,0,none⟩) (n+1) cap)∧w'=w.drew.alloc (.cells (olds++(vs++zs)).toArray 45)∧n+1≤cap∧zs.length=(cap-(n+1))*6:=by
 obtain ⟨i0,z0,hi0,hz0,hzs,hsz,hby⟩:=ze3
 have hf:=run_firstCells_some (P:=Tryz.prog) w.drew i0.size 1 ⟨vb,vo,none⟩ 1 vc vs (by omega) (fun j v hj=>by rw[Addr.add_lit];exact hvs j v hj)
 have hold:(Builtin.firstCells i0.size n (.slice base n c)).run Tryz.prog w.drew=.ok olds.toArray w.drew:=by
  cases base with
  |none=>
   have h0:=hnil rfl
   subst h0
   rw[List.length_eq_zero_iff.1 (by omega:olds.length=0)]
   exact run_firstCells_none w.drew _ 0 0 c
  |some a=>exact run_firstCells_some w.drew _ n a n c olds (by rw[hsz];omega) (fun j v hj=>hos a rfl j v hj)
 have hap:∀ty,(Builtin.append_ #[23,23] ty #[.slice base n c,.slice (some ⟨vb,vo,none⟩) 1 vc]).run Tryz.prog w=_:=fun ty=>
  zcg (P:=Tryz.prog) (w:=w) (ty:=ty) (ts:=#[23,23]) rfl rfl Tryz.underlying23 Tryz.underlying23 hi0 hz0 hf hold hroom (by omega) (zhr hroom hlim hby)
 have hge:=zb9 w (n+1) c 45
 obtain ⟨G,hG⟩:∃G,G=grownCap w (n+1) c 45:=⟨_,rfl⟩
 obtain ⟨zs,hzs'⟩:∃zs,zs=(Builtin.zeroCells z0.cells (G-(n+1))).toList:=⟨_,rfl⟩
 rw[←hG]at hap hge
 rw[←hzs']at hap
 have hzl:zs.length=(G-(n+1))*6:=by rw[hzs',Array.length_toList,size_zeroCells,hzs]
 clear hG hzs'
 go_enter Tryz.func188,Tryz.ntmps188
 cases base with
 |none=>
  have h0:=hnil rfl
  subst h0
  go_wp2_with (at_builtin;refine zbl rfl _ _ _ _ rfl _ _ rfl rfl (hap _) ?_)
  all_goals (go_ret;first|exact ⟨_,_,rfl,rfl,hge,hzl⟩|exact ⟨_,rfl,_,rfl,hge,hzl⟩)
 |some a=>
  obtain ⟨ab,ao,asp⟩:=a
  go_wp2_with (at_builtin;refine zbl rfl _ _ _ _ rfl _ _ rfl rfl (hap _) ?_)
  all_goals (go_ret;first|exact ⟨_,_,rfl,rfl,hge,hzl⟩|exact ⟨_,rfl,_,rfl,hge,hzl⟩)
set_option maxHeartbeats 4000000 in
set_option maxRecDepth 100000 in
theorem zjo {w:World} {b n c i vb vo vc:Nat} {L vs:List Value} {t:TypeId} (hi:i<n) (hnc:n≤c) (hroom:c<n+1) (hlim:n+1≤1073741824) (hvb:vb≠b)
 (hb:w.heap[b]?=some (.cells L.toArray t (0,0))) (hL:L.length=c*6) (hvl:vs.length=6)
 (hvs:∀j v,vs[j]?=some v→w.cell? ⟨vb,vo+j,none⟩=some v) (h1:∀v∈(L.drop (i*6)).take ((n-i)*6),v.oneCell'=true) (h2:∀v∈vs,v.oneCell'=true) :
 Calls Tryz.prog 188 #[.slice (some ⟨b,0,none⟩) n c,.int .i64 i,.slice (some ⟨vb,vo,none⟩) 1 vc] w fun e w'=>
  ∃cap row,e=.returned (.slice (some ⟨w.heap.size,0,none⟩) (n+1) cap)∧n+1≤cap∧row.length=cap*6∧row.take (i*6)=L.take (i*6)∧
   w'.heap=(w.heap.push (.cells (Go.splice (Go.splice row (i*6) vs) ((i+1)*6) ((L.drop (i*6)).take ((n-i)*6))).toArray 45))∧w'.os=w.os∧w'.output=w.output∧w'.tape=w.tape:=by
 obtain ⟨i0,z0,hi0,hz0,hzs,hsz,hby⟩:=ze3
 have hz2:¬((i:Int)=(n:Int)):=by omega
 have hz3:(c:Int)<(n:Int)+1:=by omega
 have hLn:n*6≤L.length:=by rw[hL];exact Nat.mul_le_mul_right _ hnc
 have hbw:b<w.heap.size:=(Array.getElem?_eq_some_iff.1 hb).1
 have hvw:vb<w.heap.size:=by
  have h:=hvs 0 _ (List.getElem?_eq_getElem (by omega))
  unfold World.cell? at h
  split at h
  ·rename_i c0 t0 f0 hc0
   exact (Array.getElem?_eq_some_iff.1 hc0).1
  ·cases h
 have hkk:(n:Int)+1-(i:Int)=((n+1-i:Nat):Int):=by omega
 have hik:i+(n+1-i)=n+1:=by omega
 have hTl:(L.take (i*6)).length=i*6:=by simp;omega
 have hold:(Builtin.firstCells i0.size i (.slice (some ⟨b,0,none⟩) i c)).run Tryz.prog w.drew=.ok (L.take (i*6)).toArray w.drew:=by
  refine run_firstCells_some w.drew _ i ⟨b,0,none⟩ i c (L.take (i*6)) (by rw[hsz];exact hTl) (fun j v hj=>?_)
  rw[Addr.add_lit,Nat.zero_add]
  show w.cell? _=_
  simp only[World.cell?,hb]
  rw[List.getElem?_take]at hj
  split at hj
  ·simpa using hj
  ·cases hj
 have hrz:∀ty,(Builtin.append_ #[23,3] ty #[.slice (some ⟨b,0,none⟩) i c,.int .i64 ((n:Int)+1-(i:Int))]).run Tryz.prog w =
  .ok (.slice (some ⟨w.heap.size,0,none⟩) (n+1) (grownCap w (n+1) c 45)) (w.drew.alloc (.cells ((L.take (i*6)).toArray++Builtin.zeroCells z0.cells (n+1-i)++Builtin.zeroCells z0.cells (grownCap w (n+1) c 45-(n+1))) 45)):=fun ty=>by
  have h:=Lib.run_append_grow_zeros w 23 3 ty 45 i0 _ .i64 .i64 Tryz.underlying23 Tryz.underlying3 hi0 hz0 (some ⟨b,0,none⟩) i c _ hold (n+1-i) (by omega) (by omega) (by omega) (by omega)
   (Nat.le_trans (Nat.mul_le_mul (show n+1-i≤1073741824 by omega) hby) (by decide)) (by rw[hik];exact zhr hroom hlim hby)
  rw[hik]at h
  rw[hkk]
  exact h
 have hge:=zb9 w (n+1) c 45
 obtain ⟨G,hG⟩:∃G,G=grownCap w (n+1) c 45:=⟨_,rfl⟩
 rw[←hG]at hrz hge
 have hG63:G≤9223372036854775807:=by
  have:=grownCap_le_maxLen w (n+1) c 45 (by unfold maxLen;omega)
  rw[←hG]at this
  unfold maxLen at this
  omega
 obtain ⟨R,hR⟩:∃R:List Value,R=L.take (i*6)++((Builtin.zeroCells z0.cells (n+1-i)).toList++(Builtin.zeroCells z0.cells (G-(n+1))).toList):=⟨_,rfl⟩
 have hRl:R.length=G*6:=by
  rw[hR]
  simp only[List.length_append,Array.length_toList,size_zeroCells,hzs,hTl]
  rw[←Nat.add_mul,←Nat.add_mul]
  congr 1
  omega
 have hRt:R.take (i*6)=L.take (i*6):=by rw[hR,List.take_append_of_le_length (by omega),List.take_of_length_le (by omega)]
 have hRe:(L.take (i*6)).toArray++Builtin.zeroCells z0.cells (n+1-i)++Builtin.zeroCells z0.cells (G-(n+1))=R.toArray:=by
  rw[hR];apply Array.ext';simp
 rw[hRe]at hrz
 obtain ⟨C1,hC1⟩:∃C1,C1=(L.drop (i*6)).take ((n-i)*6):=⟨_,rfl⟩
 have hC1l:C1.length=(n-i)*6:=by rw[hC1];simp;omega
 have hGn:(n+1)*6≤R.length:=by rw[hRl];exact Nat.mul_le_mul_right _ hge
 obtain ⟨M1,hM1⟩:∃M1,M1=Go.splice R (i*6) vs:=⟨_,rfl⟩
 have hM1l:M1.length=R.length:=by rw[hM1];exact length_splice _ _ _ (by omega)
 rw[←hC1]
 obtain ⟨gb,hgb⟩:∃gb,gb=w.heap.size:=⟨_,rfl⟩
 have hnew:∀W:World,W.heap=w.heap.push (.cells R.toArray 45)→W.heap[gb]?=some (.cells R.toArray 45 (0,0)):=fun W hW=>by rw[hW,hgb];simp
 have hpast:∀W:World,W.heap=w.heap.push (.cells R.toArray 45)→∀k,k<w.heap.size→W.heap[k]?=w.heap[k]?:=fun W hW k hk=>by rw[hW,Array.getElem?_push_lt hk];simp[hk]
 have hcpA:∀(W:World),W.heap=w.heap.push (.cells R.toArray 45)→∀ty dc,(Builtin.copy_ #[23,23] ty #[.slice (some ⟨gb,i*6,none⟩) (n+1-i) dc,.slice (some ⟨vb,vo,none⟩) 1 vc]).run Tryz.prog W=.ok (goInt 1) (W.setRow gb M1.toArray):=fun W hW ty dc=>by
  have hmin:Nat.min 1 (n+1-i)=1:=by show min _ _=_;omega
  have:=zbk (P:=Tryz.prog) (w:=W) (sT:=23) (ty:=ty) (dCap:=dc) (sCap:=vc) (dLen:=n+1-i) (sLen:=1) (o:=i*6) (a:=⟨vb,vo,none⟩) Tryz.underlying23 hi0 hsz (g:=gb) (t:=45) (L:=R) (hnew W hW) (cs:=vs) (by rw[hmin];omega)
   (fun j v hj=>by
    rw[Addr.add_lit]
    unfold World.cell?
    rw[show W.heap[(⟨vb,vo+j,none⟩:Addr).block]?=w.heap[vb]? from hpast W hW vb hvw]
    exact hvs j v hj) (by omega) h2
  rw[hmin,←hM1]at this
  exact this
 have hcpB:∀(W W0:World),W0.heap=w.heap.push (.cells R.toArray 45)→W.heap=(W0.setRow gb M1.toArray).heap→∀ty dc sc,(Builtin.copy_ #[23,23] ty #[.slice (some ⟨gb,(i+1)*6,none⟩) (n-i) dc,.slice (some ⟨b,i*6,none⟩) (n-i) sc]).run Tryz.prog W=.ok (goInt ((n-i:Nat):Int)) (W.setRow gb (Go.splice M1 ((i+1)*6) C1).toArray):=fun W W0 hW0 hW ty dc sc=>by
  have hmin:Nat.min (n-i) (n-i)=n-i:=by show min _ _=_;omega
  have:=zbk (P:=Tryz.prog) (w:=W) (sT:=23) (ty:=ty) (dCap:=dc) (sCap:=sc) (dLen:=n-i) (sLen:=n-i) (o:=(i+1)*6) (a:=⟨b,i*6,none⟩) Tryz.underlying23 hi0 hsz (g:=gb) (t:=45) (L:=M1) (by rw[hW];exact setRow_heap _ _ _ _ _ _ (hnew W0 hW0)) (cs:=C1) (by rw[hmin];exact hC1l)
   (fun j v hj=>by
    rw[Addr.add_lit]
    unfold World.cell?
    have e:W.heap[(⟨b,i*6+j,none⟩:Addr).block]?=w.heap[b]?:=by
     show W.heap[b]?=_
     rw[hW,setRow_other _ _ _ _ (by omega),hpast W0 hW0 b hbw]
    rw[e,hb]
    rw[hC1,List.getElem?_take]at hj
    split at hj
    ·simpa using hj
    ·cases hj) (by omega) (by rw[hC1];exact h1)
  rw[hmin]at this
  exact this
 have hw1:IntKind.i64.wrap ((i:Int)+1)=(i:Int)+1:=by rw[IntKind.wrap_i64];omega
 have hb1:(0:Int)≤(i:Int)+1:=by omega
 have hin:i≤n:=by omega
 have htn:((i:Int)+1).toNat=i+1:=by omega
 have hb3:(i:Int)≤(n:Int):=by omega
 have hGi:¬(G=i):=by omega
 have hGim:¬(G=i+1):=by omega
 have hci:¬(c=i):=by omega
 have hmixed:Tryz.prog.follows .mixedOrders=true:=by kernel_rfl
 have mixed:=hmixed
 have hfin:∀W W0:World,W0.heap=w.heap.push (.cells R.toArray 45)→W.heap=(W0.setRow gb M1.toArray).heap→(W.setRow gb (Go.splice M1 ((i+1)*6) C1).toArray).heap=w.heap.push (.cells (Go.splice M1 ((i+1)*6) C1).toArray 45):=fun W W0 hW0 hW=>by
  have h1:W.heap[gb]?=some (.cells M1.toArray 45 (0,0)):=by rw[hW];exact setRow_heap _ _ _ _ _ _ (hnew W0 hW0)
  have hsz0:W.heap.size=w.heap.size+1:=by rw[hW,setRow_size,hW0];simp
  apply Array.ext_getElem?
  intro k
  by_cases hk:k=gb
  ·subst hk
   rw[setRow_heap _ _ _ _ _ _ h1,hgb];simp
  ·rw[setRow_other _ _ _ _ hk]
   by_cases hk2:k<w.heap.size
   ·rw[hW,setRow_other _ _ _ _ hk,hpast W0 hW0 k hk2,Array.getElem?_push_lt hk2];simp[hk2]
   ·rw[Array.getElem?_eq_none (by omega),Array.getElem?_eq_none (by simp;omega)]
 have hMM:Go.splice (Go.splice R (i*6) vs) ((i+1)*6) C1=Go.splice M1 ((i+1)*6) C1:=by rw[hM1]
 subst hgb
 have hcpA':=hcpA ((w.alloc (.cells R.toArray 45)).drew) rfl
 clear hkk hcpA hik hold hG hR hRe hC1 hM1 hC1l hM1l h1 h2 hvs hL hTl
 go_enter Tryz.func188,Tryz.ntmps188
 go_wp2_with (at_builtin;refine zbl rfl _ _ _ _ rfl _ _ rfl rfl (hrz _) ?_)
 go_region_law_o (refine zda rfl _ _ 23 23 rfl (.slice (some ⟨w.heap.size,(i+1)*6,none⟩) (n-i) (G-(i+1))) (.slice (some ⟨b,i*6,none⟩) (n-i) (c-i)) (by simp[Act.eval,Act.put]) (by simp[Act.eval,Act.put]) (hcpB (((w.alloc (.cells R.toArray 45)).drew.setRow w.heap.size M1.toArray).drew) (w.drew.alloc (.cells R.toArray 45)) rfl rfl 3 (G-(i+1)) (c-i)) ?_)
 go_wp2
 go_ret
 refine ⟨G,R,rfl,hge,hRl,hRt,?_,rfl,rfl,rfl⟩
 rw[hMM]
 exact hfin _ (w.drew.alloc (.cells R.toArray 45)) rfl rfl
end Go.Proofs.YtdahfgialanmpaaGreatDoor
namespace Go.Proofs.YtdahfgialanmpaaGreatDoor
open Go Ev
theorem zgw:∃i0 z,Tryz.prog.info? 76=some i0∧i0.zero=some z∧z.cells.size=6∧i0.size=6∧i0.bytes≤128:=by
 have h:(match Tryz.prog.info? 76 with|some i=>(match i.zero with|some z=>Nat.beq z.cells.size 6&&Nat.beq i.size 6&&Nat.ble i.bytes 128|none=>false)|none=>false)=true:=by kernel_rfl
 split at h
 ·rename_i i hi
  split at h
  ·rename_i z hz
   simp only[Bool.and_eq_true]at h
   exact ⟨i,z,hi,hz,Nat.eq_of_beq_eq_true h.1.1,Nat.eq_of_beq_eq_true h.1.2,Nat.le_of_ble_eq_true h.2⟩
  ·cases h
 ·cases h
set_option maxHeartbeats 4000000 in
set_option maxRecDepth 100000 in
theorem zlw {w:World} {b n c i vb vo vc:Nat} {L vs:List Value} {t:TypeId} (hi:i<n) (hroom:n+1≤c) (hlim:n+1≤1073741824) (hvb:vb≠b)
 (hb:w.heap[b]?=some (.cells L.toArray t (0,0))) (hL:L.length=c*6) (hvl:vs.length=6)
 (hvs:∀j v,vs[j]?=some v→w.cell? ⟨vb,vo+j,none⟩=some v) (h1:∀v∈(L.drop (i*6)).take ((n-i)*6),v.oneCell'=true) (h2:∀v∈vs,v.oneCell'=true) :
 Calls Tryz.prog 195 #[.slice (some ⟨b,0,none⟩) n c,.int .i64 i,.slice (some ⟨vb,vo,none⟩) 1 vc] w fun e w'=>
  e=.returned (.slice (some ⟨b,0,none⟩) (n+1) c)∧w'=(w.drew.setRow b (Go.splice L ((i+1)*6) ((L.drop (i*6)).take ((n-i)*6))).toArray).setRow b (Go.splice (Go.splice L ((i+1)*6) ((L.drop (i*6)).take ((n-i)*6))) (i*6) vs).toArray:=by
 obtain ⟨i0,z0,hi0,hz0,hzs,hsz,hby⟩:=zgw
 have hz2:¬((i:Int)=(n:Int)):=by omega
 have hva:∃va ta fa,w.heap[vb]?=some (.cells va ta fa)∧0<va.size:=by
  have h:=hvs 0 _ (List.getElem?_eq_getElem (by omega))
  unfold World.cell? at h
  split at h
  ·rename_i c0 t0 f0 hc0
   exact ⟨c0,t0,f0,hc0,by have:=(Array.getElem?_eq_some_iff.1 h).1;omega⟩
  ·cases h
 obtain ⟨va,ta,fa,hva,hva0⟩:=hva
 have hov:∀lb cb,(callFunc 271 #[.slice (some ⟨vb,vo,none⟩) 1 vc,.slice (some ⟨b,(i+1)*6,none⟩) lb cb]).run Tryz.prog w=.ok (.value (.bool false)) w:=fun lb cb=>by
  rw[run_callFunc_extern Tryz.func271 (by kernel_rfl) (by kernel_rfl) (by kernel_rfl) (e:=Extern.SlicesOverlaps.overlaps #[24,24] #[4]) (by kernel_rfl),
   zdk Tryz.underlying24 hi0 (a:=⟨vb,vo,none⟩) (b:=⟨b,(i+1)*6,none⟩) hvb hva hva0 hb (by simp only[List.size_toArray];omega)]
  rfl
 have hLn:(n+1)*6≤L.length:=by rw[hL];exact Nat.mul_le_mul_right _ hroom
 obtain ⟨C1,hC1⟩:∃C1,C1=(L.drop (i*6)).take ((n-i)*6):=⟨_,rfl⟩
 have hC1l:C1.length=(n-i)*6:=by rw[hC1];simp;omega
 obtain ⟨M1,hM1⟩:∃M1,M1=Go.splice L ((i+1)*6) C1:=⟨_,rfl⟩
 have hM1l:M1.length=L.length:=by rw[hM1];exact length_splice _ _ _ (by omega)
 rw[←hC1,←hM1]
 have hcp1:∀ty dc sc,(Builtin.copy_ #[24,24] ty #[.slice (some ⟨b,(i+1)*6,none⟩) (n-i) dc,.slice (some ⟨b,i*6,none⟩) (n+1-i) sc]).run Tryz.prog w.drew=.ok (goInt ((n-i:Nat):Int)) (w.drew.setRow b M1.toArray):=fun ty dc sc=>by
  have hmin:Nat.min (n+1-i) (n-i)=n-i:=by show min _ _=_;omega
  have:=zbk (P:=Tryz.prog) (w:=w.drew) (sT:=24) (ty:=ty) (dCap:=dc) (sCap:=sc) (dLen:=n-i) (sLen:=n+1-i) (o:=(i+1)*6) (a:=⟨b,i*6,none⟩) Tryz.underlying24 hi0 hsz hb (cs:=C1) (by rw[hmin];exact hC1l)
   (fun j v hj=>by
    rw[Addr.add_lit]
    show w.cell? _=_
    simp only[World.cell?,hb]
    rw[hC1,List.getElem?_take]at hj
    split at hj
    ·simpa using hj
    ·cases hj) (by omega) (by rw[hC1];exact h1)
  rw[hmin,←hM1]at this
  exact this
 have hcp2:∀(W:World),W=(w.drew.setRow b M1.toArray)→∀ty dc,(Builtin.copy_ #[24,24] ty #[.slice (some ⟨b,i*6,none⟩) (n+1-i) dc,.slice (some ⟨vb,vo,none⟩) 1 vc]).run Tryz.prog W=.ok (goInt 1) (W.setRow b (Go.splice M1 (i*6) vs).toArray):=fun W hW ty dc=>by
  have hmin:Nat.min 1 (n+1-i)=1:=by show min _ _=_;omega
  have:=zbk (P:=Tryz.prog) (w:=W) (sT:=24) (ty:=ty) (dCap:=dc) (sCap:=vc) (dLen:=n+1-i) (sLen:=1) (o:=i*6) (a:=⟨vb,vo,none⟩) Tryz.underlying24 hi0 hsz (g:=b) (t:=t) (L:=M1) (by rw[hW];exact setRow_heap _ _ _ _ _ _ hb) (cs:=vs) (by rw[hmin];omega)
   (fun j v hj=>by
    rw[Addr.add_lit,hW,cell_setRow_other _ _ _ _ hvb]
    exact hvs j v hj) (by omega) h2
  rw[hmin]at this
  exact this
 have hw1:IntKind.i64.wrap ((i:Int)+1)=(i:Int)+1:=by rw[IntKind.wrap_i64];omega
 have hb1:(0:Int)≤(i:Int)+1:=by omega
 have hin:i≤n:=by omega
 have htn:((i:Int)+1).toNat=i+1:=by omega
 have hb2:¬(c=i+1):=by omega
 have hb3:(i:Int)≤(n:Int)+1:=by omega
 have hb4:¬(c=i):=by omega
 have mixed:Tryz.prog.follows .mixedOrders=true:=by kernel_rfl
 clear hC1 hM1 hC1l hM1l h1 h2 hvs hL
 go_enter Tryz.func195,Tryz.ntmps195
 go_wp2_with (simp only[hov])
 go_region_law_o (refine zda rfl _ _ 24 24 rfl _ _ (by simp[Act.eval,Act.put]) (by simp[Act.eval,Act.put]) (hcp1 _ _ _) ?_)
 go_wp2_with (at_builtin;refine zlo rfl _ _ 24 24 rfl _ _ rfl rfl (hcp2 _ rfl _ _) ?_)
 go_ret
 exact ⟨rfl,rfl⟩
theorem zl7 {i0:TypeInfo} {k c:Nat} (h:c<k) (hk:k≤1073741824) (hby:i0.bytes≤128):Builtin.nextslicecap k c*i0.bytes≤281474976710656:=
 growslice_fits h (Nat.le_trans (Nat.mul_le_mul hk hby) (by decide))
set_option maxHeartbeats 4000000 in
set_option maxRecDepth 100000 in
theorem zoz {w:World} {b n c vb vo vc:Nat} {L vs:List Value} {t:TypeId} (hroom:n+1≤c) (hlim:n+1≤1073741824)
 (hb:w.heap[b]?=some (.cells L.toArray t (0,0))) (hL:L.length=c*6) (hvl:vs.length=6)
 (hvs:∀j v,vs[j]?=some v→w.cell? ⟨vb,vo+j,none⟩=some v) (h2:∀v∈vs,v.oneCell'=true) :
 Calls Tryz.prog 195 #[.slice (some ⟨b,0,none⟩) n c,.int .i64 n,.slice (some ⟨vb,vo,none⟩) 1 vc] w fun e w'=>
  e=.returned (.slice (some ⟨b,0,none⟩) (n+1) c)∧w'=w.setRow b (Go.splice L (n*6) vs).toArray:=by
 obtain ⟨i0,z0,hi0,hz0,hzs,hsz,hby⟩:=zgw
 have hLn:(n+1)*6≤L.length:=by rw[hL];exact Nat.mul_le_mul_right _ hroom
 have hf:=run_firstCells_some (P:=Tryz.prog) w i0.size 1 ⟨vb,vo,none⟩ 1 vc vs (by omega) (fun j v hj=>by rw[Addr.add_lit];exact hvs j v hj)
 have hap:∀ty,(Builtin.append_ #[24,24] ty #[.slice (some ⟨b,0,none⟩) n c,.slice (some ⟨vb,vo,none⟩) 1 vc]).run Tryz.prog w=.ok (.slice (some ⟨b,0,none⟩) (n+1) c) (w.setRow b (Go.splice L (n*6) vs).toArray):=fun ty=>by
  have:=zb2 (P:=Tryz.prog) (w:=w) (ty:=ty) (ts:=#[24,24]) rfl rfl Tryz.underlying24 Tryz.underlying24 hi0 hf hroom hb (by simp only[List.size_toArray];rw[hsz];omega) h2
  rw[hsz]at this
  simpa[Go.splice]using this
 go_enter Tryz.func195,Tryz.ntmps195
 go_wp2_with (at_builtin;refine zbl rfl _ _ _ _ rfl _ _ rfl rfl (hap _) ?_)
 all_goals (go_ret;exact ⟨rfl,rfl⟩)
set_option maxHeartbeats 4000000 in
set_option maxRecDepth 100000 in
theorem zqq {w:World} {base:Option Addr} {n c vb vo vc:Nat} {olds vs:List Value} (hnc:n≤c) (hroom:c<n+1) (hlim:n+1≤1073741824) (hvl:vs.length=6)
 (hnil:base=none→n=0) (hol:olds.length=n*6) (hos:∀a,base=some a→∀j v,olds[j]?=some v→w.cell? (a.add j)=some v)
 (hvs:∀j v,vs[j]?=some v→w.cell? ⟨vb,vo+j,none⟩=some v) :
 Calls Tryz.prog 195 #[.slice base n c,.int .i64 n,.slice (some ⟨vb,vo,none⟩) 1 vc] w fun e w'=>
  ∃cap zs,e=.returned (.slice (some ⟨w.heap.size,0,none⟩) (n+1) cap)∧w'=w.drew.alloc (.cells (olds++(vs++zs)).toArray 76)∧n+1≤cap∧zs.length=(cap-(n+1))*6:=by
 obtain ⟨i0,z0,hi0,hz0,hzs,hsz,hby⟩:=zgw
 have hf:=run_firstCells_some (P:=Tryz.prog) w.drew i0.size 1 ⟨vb,vo,none⟩ 1 vc vs (by omega) (fun j v hj=>by rw[Addr.add_lit];exact hvs j v hj)
 have hold:(Builtin.firstCells i0.size n (.slice base n c)).run Tryz.prog w.drew=.ok olds.toArray w.drew:=by
  cases base with
  |none=>
   have h0:=hnil rfl
   subst h0
   rw[List.length_eq_zero_iff.1 (by omega:olds.length=0)]
   exact run_firstCells_none w.drew _ 0 0 c
  |some a=>exact run_firstCells_some w.drew _ n a n c olds (by rw[hsz];omega) (fun j v hj=>hos a rfl j v hj)
 have hap:∀ty,(Builtin.append_ #[24,24] ty #[.slice base n c,.slice (some ⟨vb,vo,none⟩) 1 vc]).run Tryz.prog w=_:=fun ty=>
  zcg (P:=Tryz.prog) (w:=w) (ty:=ty) (ts:=#[24,24]) rfl rfl Tryz.underlying24 Tryz.underlying24 hi0 hz0 hf hold hroom (by omega) (zl7 hroom hlim hby)
 have hge:=zb9 w (n+1) c 76
 obtain ⟨G,hG⟩:∃G,G=grownCap w (n+1) c 76:=⟨_,rfl⟩
 obtain ⟨zs,hzs'⟩:∃zs,zs=(Builtin.zeroCells z0.cells (G-(n+1))).toList:=⟨_,rfl⟩
 rw[←hG]at hap hge
 rw[←hzs']at hap
 have hzl:zs.length=(G-(n+1))*6:=by rw[hzs',Array.length_toList,size_zeroCells,hzs]
 clear hG hzs'
 go_enter Tryz.func195,Tryz.ntmps195
 cases base with
 |none=>
  have h0:=hnil rfl
  subst h0
  go_wp2_with (at_builtin;refine zbl rfl _ _ _ _ rfl _ _ rfl rfl (hap _) ?_)
  all_goals (go_ret;first|exact ⟨_,_,rfl,rfl,hge,hzl⟩|exact ⟨_,rfl,_,rfl,hge,hzl⟩)
 |some a=>
  obtain ⟨ab,ao,asp⟩:=a
  go_wp2_with (at_builtin;refine zbl rfl _ _ _ _ rfl _ _ rfl rfl (hap _) ?_)
  all_goals (go_ret;first|exact ⟨_,_,rfl,rfl,hge,hzl⟩|exact ⟨_,rfl,_,rfl,hge,hzl⟩)
set_option maxHeartbeats 4000000 in
set_option maxRecDepth 100000 in
theorem zoy {w:World} {b n c i vb vo vc:Nat} {L vs:List Value} {t:TypeId} (hi:i<n) (hnc:n≤c) (hroom:c<n+1) (hlim:n+1≤1073741824) (hvb:vb≠b)
 (hb:w.heap[b]?=some (.cells L.toArray t (0,0))) (hL:L.length=c*6) (hvl:vs.length=6)
 (hvs:∀j v,vs[j]?=some v→w.cell? ⟨vb,vo+j,none⟩=some v) (h1:∀v∈(L.drop (i*6)).take ((n-i)*6),v.oneCell'=true) (h2:∀v∈vs,v.oneCell'=true) :
 Calls Tryz.prog 195 #[.slice (some ⟨b,0,none⟩) n c,.int .i64 i,.slice (some ⟨vb,vo,none⟩) 1 vc] w fun e w'=>
  ∃cap row,e=.returned (.slice (some ⟨w.heap.size,0,none⟩) (n+1) cap)∧n+1≤cap∧row.length=cap*6∧row.take (i*6)=L.take (i*6)∧
   w'.heap=(w.heap.push (.cells (Go.splice (Go.splice row (i*6) vs) ((i+1)*6) ((L.drop (i*6)).take ((n-i)*6))).toArray 76))∧w'.os=w.os∧w'.output=w.output∧w'.tape=w.tape:=by
 obtain ⟨i0,z0,hi0,hz0,hzs,hsz,hby⟩:=zgw
 have hz2:¬((i:Int)=(n:Int)):=by omega
 have hz3:(c:Int)<(n:Int)+1:=by omega
 have hLn:n*6≤L.length:=by rw[hL];exact Nat.mul_le_mul_right _ hnc
 have hbw:b<w.heap.size:=(Array.getElem?_eq_some_iff.1 hb).1
 have hvw:vb<w.heap.size:=by
  have h:=hvs 0 _ (List.getElem?_eq_getElem (by omega))
  unfold World.cell? at h
  split at h
  ·rename_i c0 t0 f0 hc0
   exact (Array.getElem?_eq_some_iff.1 hc0).1
  ·cases h
 have hkk:(n:Int)+1-(i:Int)=((n+1-i:Nat):Int):=by omega
 have hik:i+(n+1-i)=n+1:=by omega
 have hTl:(L.take (i*6)).length=i*6:=by simp;omega
 have hold:(Builtin.firstCells i0.size i (.slice (some ⟨b,0,none⟩) i c)).run Tryz.prog w.drew=.ok (L.take (i*6)).toArray w.drew:=by
  refine run_firstCells_some w.drew _ i ⟨b,0,none⟩ i c (L.take (i*6)) (by rw[hsz];exact hTl) (fun j v hj=>?_)
  rw[Addr.add_lit,Nat.zero_add]
  show w.cell? _=_
  simp only[World.cell?,hb]
  rw[List.getElem?_take]at hj
  split at hj
  ·simpa using hj
  ·cases hj
 have hrz:∀ty,(Builtin.append_ #[24,3] ty #[.slice (some ⟨b,0,none⟩) i c,.int .i64 ((n:Int)+1-(i:Int))]).run Tryz.prog w =
  .ok (.slice (some ⟨w.heap.size,0,none⟩) (n+1) (grownCap w (n+1) c 76)) (w.drew.alloc (.cells ((L.take (i*6)).toArray++Builtin.zeroCells z0.cells (n+1-i)++Builtin.zeroCells z0.cells (grownCap w (n+1) c 76-(n+1))) 76)):=fun ty=>by
  have h:=Lib.run_append_grow_zeros w 24 3 ty 76 i0 _ .i64 .i64 Tryz.underlying24 Tryz.underlying3 hi0 hz0 (some ⟨b,0,none⟩) i c _ hold (n+1-i) (by omega) (by omega) (by omega) (by omega)
   (Nat.le_trans (Nat.mul_le_mul (show n+1-i≤1073741824 by omega) hby) (by decide)) (by rw[hik];exact zl7 hroom hlim hby)
  rw[hik]at h
  rw[hkk]
  exact h
 have hge:=zb9 w (n+1) c 76
 obtain ⟨G,hG⟩:∃G,G=grownCap w (n+1) c 76:=⟨_,rfl⟩
 rw[←hG]at hrz hge
 have hG63:G≤9223372036854775807:=by
  have:=grownCap_le_maxLen w (n+1) c 76 (by unfold maxLen;omega)
  rw[←hG]at this
  unfold maxLen at this
  omega
 obtain ⟨R,hR⟩:∃R:List Value,R=L.take (i*6)++((Builtin.zeroCells z0.cells (n+1-i)).toList++(Builtin.zeroCells z0.cells (G-(n+1))).toList):=⟨_,rfl⟩
 have hRl:R.length=G*6:=by
  rw[hR]
  simp only[List.length_append,Array.length_toList,size_zeroCells,hzs,hTl]
  rw[←Nat.add_mul,←Nat.add_mul]
  congr 1
  omega
 have hRt:R.take (i*6)=L.take (i*6):=by rw[hR,List.take_append_of_le_length (by omega),List.take_of_length_le (by omega)]
 have hRe:(L.take (i*6)).toArray++Builtin.zeroCells z0.cells (n+1-i)++Builtin.zeroCells z0.cells (G-(n+1))=R.toArray:=by
  rw[hR];apply Array.ext';simp
 rw[hRe]at hrz
 obtain ⟨C1,hC1⟩:∃C1,C1=(L.drop (i*6)).take ((n-i)*6):=⟨_,rfl⟩
 have hC1l:C1.length=(n-i)*6:=by rw[hC1];simp;omega
 have hGn:(n+1)*6≤R.length:=by rw[hRl];exact Nat.mul_le_mul_right _ hge
 obtain ⟨M1,hM1⟩:∃M1,M1=Go.splice R (i*6) vs:=⟨_,rfl⟩
 have hM1l:M1.length=R.length:=by rw[hM1];exact length_splice _ _ _ (by omega)
 rw[←hC1]
 obtain ⟨gb,hgb⟩:∃gb,gb=w.heap.size:=⟨_,rfl⟩
 have hnew:∀W:World,W.heap=w.heap.push (.cells R.toArray 76)→W.heap[gb]?=some (.cells R.toArray 76 (0,0)):=fun W hW=>by rw[hW,hgb];simp
 have hpast:∀W:World,W.heap=w.heap.push (.cells R.toArray 76)→∀k,k<w.heap.size→W.heap[k]?=w.heap[k]?:=fun W hW k hk=>by rw[hW,Array.getElem?_push_lt hk];simp[hk]
 have hcpA:∀(W:World),W.heap=w.heap.push (.cells R.toArray 76)→∀ty dc,(Builtin.copy_ #[24,24] ty #[.slice (some ⟨gb,i*6,none⟩) (n+1-i) dc,.slice (some ⟨vb,vo,none⟩) 1 vc]).run Tryz.prog W=.ok (goInt 1) (W.setRow gb M1.toArray):=fun W hW ty dc=>by
  have hmin:Nat.min 1 (n+1-i)=1:=by show min _ _=_;omega
  have:=zbk (P:=Tryz.prog) (w:=W) (sT:=24) (ty:=ty) (dCap:=dc) (sCap:=vc) (dLen:=n+1-i) (sLen:=1) (o:=i*6) (a:=⟨vb,vo,none⟩) Tryz.underlying24 hi0 hsz (g:=gb) (t:=76) (L:=R) (hnew W hW) (cs:=vs) (by rw[hmin];omega)
   (fun j v hj=>by
    rw[Addr.add_lit]
    unfold World.cell?
    rw[show W.heap[(⟨vb,vo+j,none⟩:Addr).block]?=w.heap[vb]? from hpast W hW vb hvw]
    exact hvs j v hj) (by omega) h2
  rw[hmin,←hM1]at this
  exact this
 have hcpB:∀(W W0:World),W0.heap=w.heap.push (.cells R.toArray 76)→W.heap=(W0.setRow gb M1.toArray).heap→∀ty dc sc,(Builtin.copy_ #[24,24] ty #[.slice (some ⟨gb,(i+1)*6,none⟩) (n-i) dc,.slice (some ⟨b,i*6,none⟩) (n-i) sc]).run Tryz.prog W=.ok (goInt ((n-i:Nat):Int)) (W.setRow gb (Go.splice M1 ((i+1)*6) C1).toArray):=fun W W0 hW0 hW ty dc sc=>by
  have hmin:Nat.min (n-i) (n-i)=n-i:=by show min _ _=_;omega
  have:=zbk (P:=Tryz.prog) (w:=W) (sT:=24) (ty:=ty) (dCap:=dc) (sCap:=sc) (dLen:=n-i) (sLen:=n-i) (o:=(i+1)*6) (a:=⟨b,i*6,none⟩) Tryz.underlying24 hi0 hsz (g:=gb) (t:=76) (L:=M1) (by rw[hW];exact setRow_heap _ _ _ _ _ _ (hnew W0 hW0)) (cs:=C1) (by rw[hmin];exact hC1l)
   (fun j v hj=>by
    rw[Addr.add_lit]
    unfold World.cell?
    have e:W.heap[(⟨b,i*6+j,none⟩:Addr).block]?=w.heap[b]?:=by
     show W.heap[b]?=_
     rw[hW,setRow_other _ _ _ _ (by omega),hpast W0 hW0 b hbw]
    rw[e,hb]
    rw[hC1,List.getElem?_take]at hj
    split at hj
    ·simpa using hj
    ·cases hj) (by omega) (by rw[hC1];exact h1)
  rw[hmin]at this
  exact this
 have hw1:IntKind.i64.wrap ((i:Int)+1)=(i:Int)+1:=by rw[IntKind.wrap_i64];omega
 have hb1:(0:Int)≤(i:Int)+1:=by omega
 have hin:i≤n:=by omega
 have htn:((i:Int)+1).toNat=i+1:=by omega
 have hb3:(i:Int)≤(n:Int):=by omega
 have hGi:¬(G=i):=by omega
 have hGim:¬(G=i+1):=by omega
 have hci:¬(c=i):=by omega
 have hmixed:Tryz.prog.follows .mixedOrders=true:=by kernel_rfl
 have mixed:=hmixed
 have hfin:∀W W0:World,W0.heap=w.heap.push (.cells R.toArray 76)→W.heap=(W0.setRow gb M1.toArray).heap→(W.setRow gb (Go.splice M1 ((i+1)*6) C1).toArray).heap=w.heap.push (.cells (Go.splice M1 ((i+1)*6) C1).toArray 76):=fun W W0 hW0 hW=>by
  have h1:W.heap[gb]?=some (.cells M1.toArray 76 (0,0)):=by rw[hW];exact setRow_heap _ _ _ _ _ _ (hnew W0 hW0)
  have hsz0:W.heap.size=w.heap.size+1:=by rw[hW,setRow_size,hW0];simp
  apply Array.ext_getElem?
  intro k
  by_cases hk:k=gb
  ·subst hk
   rw[setRow_heap _ _ _ _ _ _ h1,hgb];simp
  ·rw[setRow_other _ _ _ _ hk]
   by_cases hk2:k<w.heap.size
   ·rw[hW,setRow_other _ _ _ _ hk,hpast W0 hW0 k hk2,Array.getElem?_push_lt hk2];simp[hk2]
   ·rw[Array.getElem?_eq_none (by omega),Array.getElem?_eq_none (by simp;omega)]
 have hMM:Go.splice (Go.splice R (i*6) vs) ((i+1)*6) C1=Go.splice M1 ((i+1)*6) C1:=by rw[hM1]
 subst hgb
 have hcpA':=hcpA ((w.alloc (.cells R.toArray 76)).drew) rfl
 clear hkk hcpA hik hold hG hR hRe hC1 hM1 hC1l hM1l h1 h2 hvs hL hTl
 go_enter Tryz.func195,Tryz.ntmps195
 go_wp2_with (at_builtin;refine zbl rfl _ _ _ _ rfl _ _ rfl rfl (hrz _) ?_)
 go_region_law_o (refine zda rfl _ _ 24 24 rfl (.slice (some ⟨w.heap.size,(i+1)*6,none⟩) (n-i) (G-(i+1))) (.slice (some ⟨b,i*6,none⟩) (n-i) (c-i)) (by simp[Act.eval,Act.put]) (by simp[Act.eval,Act.put]) (hcpB (((w.alloc (.cells R.toArray 76)).drew.setRow w.heap.size M1.toArray).drew) (w.drew.alloc (.cells R.toArray 76)) rfl rfl 3 (G-(i+1)) (c-i)) ?_)
 go_wp2
 go_ret
 refine ⟨G,R,rfl,hge,hRl,hRt,?_,rfl,rfl,rfl⟩
 rw[hMM]
 exact hfin _ (w.drew.alloc (.cells R.toArray 76)) rfl rfl
end Go.Proofs.YtdahfgialanmpaaGreatDoor
namespace Go.Proofs.YtdahfgialanmpaaGreatDoor
open Go Ev
theorem zzi:∃i0 z,Tryz.prog.info? 58=some i0∧i0.zero=some z∧z.cells.size=11∧i0.size=11∧∀v∈z.cells,v.oneCell'=true:=by
 have h:(match Tryz.prog.info? 58 with|some i=>(match i.zero with|some z=>Nat.beq z.cells.size 11&&Nat.beq i.size 11&&z.cells.toList.all (·.oneCell')|none=>false)|none=>false)=true:=by kernel_rfl
 split at h
 ·rename_i i hi
  split at h
  ·rename_i z hz
   simp only[Bool.and_eq_true]at h
   exact ⟨i,z,hi,hz,Nat.eq_of_beq_eq_true h.1.1,Nat.eq_of_beq_eq_true h.1.2,fun v hv=>List.all_eq_true.1 h.2 v (by simpa using hv)⟩
  ·cases h
 ·cases h
set_option maxHeartbeats 4000000 in
set_option maxRecDepth 100000 in
theorem zoe {w:World} {base:Option Addr} {n c i:Nat} (hnc:n≤c) (hi:i≤n) :
 Calls Tryz.prog 273 #[.slice base n c,.int .i64 i,.int .i64 i] w fun e w'=>e=.returned (.slice base n c)∧w'=w:=by
 cases base with
 |none=>
  go_enter Tryz.func273,Tryz.ntmps273
  go_wp2
  all_goals (go_ret;exact ⟨rfl,rfl⟩)
 |some a=>
  obtain ⟨ab,ao,asp⟩:=a
  go_enter Tryz.func273,Tryz.ntmps273
  go_wp2
  all_goals (go_ret;exact ⟨rfl,rfl⟩)
set_option maxHeartbeats 4000000 in
set_option maxRecDepth 100000 in
theorem zof {w:World} {b n c i j:Nat} {L:List Value} {t:TypeId} (hij:i<j) (hj:j≤n) (hnc:n≤c)
 (hb:w.heap[b]?=some (.cells L.toArray t (0,0))) (hL:L.length=c*11) (h1:∀v∈(L.drop (j*11)).take ((n-j)*11),v.oneCell'=true) :
 Calls Tryz.prog 273 #[.slice (some ⟨b,0,none⟩) n c,.int .i64 i,.int .i64 j] w fun e w'=>
  e=.returned (.slice (some ⟨b,0,none⟩) (i+(n-j)) c)∧∃(M0:Array Value) (zs:List Value),zs.length=(j-i)*11∧w'=(w.drew.setRow b M0).setRow b (Go.splice (Go.splice L (i*11) ((L.drop (j*11)).take ((n-j)*11))) ((i+(n-j))*11) zs).toArray:=by
 obtain ⟨i0,z0,hi0,hz0,hzs,hsz,hz1⟩:=zzi
 have hLn:n*11≤L.length:=by rw[hL];exact Nat.mul_le_mul_right _ hnc
 obtain ⟨C1,hC1⟩:∃C1,C1=(L.drop (j*11)).take ((n-j)*11):=⟨_,rfl⟩
 have hC1l:C1.length=(n-j)*11:=by rw[hC1];simp;omega
 obtain ⟨M1,hM1⟩:∃M1,M1=Go.splice L (i*11) C1:=⟨_,rfl⟩
 have hM1l:M1.length=L.length:=by rw[hM1];exact length_splice _ _ _ (by omega)
 rw[←hC1,←hM1]
 obtain ⟨A,hA,hsrc⟩:∃A:Addr,(if c=j then some (⟨b,0,none⟩:Addr) else some ⟨b,j*11,none⟩)=some A∧∀q v,C1[q]?=some v→w.drew.cell? (A.add q)=some v:=by
  by_cases h:c=j
  ·refine ⟨⟨b,0,none⟩,by simp[h],fun q v hq=>?_⟩
   have:=(List.getElem?_eq_some_iff.1 hq).1
   omega
  ·refine ⟨⟨b,j*11,none⟩,by simp[h],fun q v hq=>?_⟩
   rw[Addr.add_lit]
   show w.cell? _=_
   simp only[World.cell?,hb]
   rw[hC1,List.getElem?_take]at hq
   split at hq
   ·simpa using hq
   ·cases hq
 have hf:∀xc,(Builtin.firstCells i0.size (n-j) (.slice (some A) (n-j) xc)).run Tryz.prog w.drew=.ok C1.toArray w.drew:=fun xc=>run_firstCells_some (P:=Tryz.prog) w.drew i0.size (n-j) A (n-j) xc C1 (by rw[hsz];exact hC1l) hsrc
 have hone:∀v∈C1,v.oneCell'=true:=by rw[hC1];exact h1
 have hap:∀ty xc,(Builtin.append_ #[25,25] ty #[.slice (some ⟨b,0,none⟩) i c,.slice (some A) (n-j) xc]).run Tryz.prog w.drew=.ok (.slice (some ⟨b,0,none⟩) (i+(n-j)) c) (w.drew.setRow b M1.toArray):=fun ty xc=>by
  have:=zb2 (P:=Tryz.prog) (w:=w.drew) (ty:=ty) (ts:=#[25,25]) rfl rfl Tryz.underlying25 Tryz.underlying25 hi0 (hf xc) (sLen:=i) (sCap:=c) (by omega) hb (by simp only[List.size_toArray];rw[hsz];omega) hone
  rw[hsz]at this
  rw[hM1]
  simpa[Go.splice]using this
 obtain ⟨zs,hzs'⟩:∃zs,zs=(Builtin.zeroCells z0.cells (j-i)).toList:=⟨_,rfl⟩
 have hzl:zs.length=(j-i)*11:=by rw[hzs',Array.length_toList,Go.size_zeroCells,hzs]
 have hcl:∀ty cc,(Builtin.clear_ #[25] ty #[.slice (some ⟨b,(i+(n-j))*11,none⟩) (n-(i+(n-j))) cc]).run Tryz.prog (w.drew.setRow b M1.toArray)=.ok (.tuple #[]) ((w.drew.setRow b M1.toArray).setRow b (Go.splice M1 ((i+(n-j))*11) zs).toArray):=fun ty cc=>by
  have e:n-(i+(n-j))=j-i:=by omega
  rw[e,hzs']
  exact zk7 (P:=Tryz.prog) (w:=w.drew.setRow b M1.toArray) Tryz.underlying25 hi0 hz0 (by omega) (setRow_heap _ _ _ _ _ _ hb) (by rw[hzs];omega) hz1
 have hic:i≤c:=by omega
 have hjc:j≤c:=by omega
 have mixed:Tryz.prog.follows .mixedOrders=true:=by kernel_rfl
 clear hC1 hM1 hC1l hM1l h1 hL hf hone hzs'
 go_enter Tryz.func273,Tryz.ntmps273
 go_wp2_with fail
 go_region_law_o (refine znp rfl (.tmp 22) (.tmp 25) 25 25 rfl (.slice (some ⟨b,0,none⟩) i c) (.slice (some A) (n-j) (c-j)) (by simp[Act.eval,Act.put]) (by simp[Act.eval,Act.put]) (hap _ _) ?_)
 go_wp2
 go_ret
 exact ⟨rfl,_,zs,hzl,rfl⟩
end Go.Proofs.YtdahfgialanmpaaGreatDoor
namespace Go.Proofs.YtdahfgialanmpaaGreatDoor
open Go Ev
theorem zzj:∃i0 z,Tryz.prog.info? 76=some i0∧i0.zero=some z∧z.cells.size=6∧i0.size=6∧∀v∈z.cells,v.oneCell'=true:=by
 have h:(match Tryz.prog.info? 76 with|some i=>(match i.zero with|some z=>Nat.beq z.cells.size 6&&Nat.beq i.size 6&&z.cells.toList.all (·.oneCell')|none=>false)|none=>false)=true:=by kernel_rfl
 split at h
 ·rename_i i hi
  split at h
  ·rename_i z hz
   simp only[Bool.and_eq_true]at h
   exact ⟨i,z,hi,hz,Nat.eq_of_beq_eq_true h.1.1,Nat.eq_of_beq_eq_true h.1.2,fun v hv=>List.all_eq_true.1 h.2 v (by simpa using hv)⟩
  ·cases h
 ·cases h
set_option maxHeartbeats 4000000 in
set_option maxRecDepth 100000 in
theorem zog {w:World} {base:Option Addr} {n c i:Nat} (hnc:n≤c) (hi:i≤n) :
 Calls Tryz.prog 292 #[.slice base n c,.int .i64 i,.int .i64 i] w fun e w'=>e=.returned (.slice base n c)∧w'=w:=by
 cases base with
 |none=>
  go_enter Tryz.func292,Tryz.ntmps292
  go_wp2
  all_goals (go_ret;exact ⟨rfl,rfl⟩)
 |some a=>
  obtain ⟨ab,ao,asp⟩:=a
  go_enter Tryz.func292,Tryz.ntmps292
  go_wp2
  all_goals (go_ret;exact ⟨rfl,rfl⟩)
set_option maxHeartbeats 4000000 in
set_option maxRecDepth 100000 in
theorem zoh {w:World} {b n c i j:Nat} {L:List Value} {t:TypeId} (hij:i<j) (hj:j≤n) (hnc:n≤c)
 (hb:w.heap[b]?=some (.cells L.toArray t (0,0))) (hL:L.length=c*6) (h1:∀v∈(L.drop (j*6)).take ((n-j)*6),v.oneCell'=true) :
 Calls Tryz.prog 292 #[.slice (some ⟨b,0,none⟩) n c,.int .i64 i,.int .i64 j] w fun e w'=>
  e=.returned (.slice (some ⟨b,0,none⟩) (i+(n-j)) c)∧∃(M0:Array Value) (zs:List Value),zs.length=(j-i)*6∧w'=(w.drew.setRow b M0).setRow b (Go.splice (Go.splice L (i*6) ((L.drop (j*6)).take ((n-j)*6))) ((i+(n-j))*6) zs).toArray:=by
 obtain ⟨i0,z0,hi0,hz0,hzs,hsz,hz1⟩:=zzj
 have hLn:n*6≤L.length:=by rw[hL];exact Nat.mul_le_mul_right _ hnc
 obtain ⟨C1,hC1⟩:∃C1,C1=(L.drop (j*6)).take ((n-j)*6):=⟨_,rfl⟩
 have hC1l:C1.length=(n-j)*6:=by rw[hC1];simp;omega
 obtain ⟨M1,hM1⟩:∃M1,M1=Go.splice L (i*6) C1:=⟨_,rfl⟩
 have hM1l:M1.length=L.length:=by rw[hM1];exact length_splice _ _ _ (by omega)
 rw[←hC1,←hM1]
 obtain ⟨A,hA,hsrc⟩:∃A:Addr,(if c=j then some (⟨b,0,none⟩:Addr) else some ⟨b,j*6,none⟩)=some A∧∀q v,C1[q]?=some v→w.drew.cell? (A.add q)=some v:=by
  by_cases h:c=j
  ·refine ⟨⟨b,0,none⟩,by simp[h],fun q v hq=>?_⟩
   have:=(List.getElem?_eq_some_iff.1 hq).1
   omega
  ·refine ⟨⟨b,j*6,none⟩,by simp[h],fun q v hq=>?_⟩
   rw[Addr.add_lit]
   show w.cell? _=_
   simp only[World.cell?,hb]
   rw[hC1,List.getElem?_take]at hq
   split at hq
   ·simpa using hq
   ·cases hq
 have hf:∀xc,(Builtin.firstCells i0.size (n-j) (.slice (some A) (n-j) xc)).run Tryz.prog w.drew=.ok C1.toArray w.drew:=fun xc=>run_firstCells_some (P:=Tryz.prog) w.drew i0.size (n-j) A (n-j) xc C1 (by rw[hsz];exact hC1l) hsrc
 have hone:∀v∈C1,v.oneCell'=true:=by rw[hC1];exact h1
 have hap:∀ty xc,(Builtin.append_ #[24,24] ty #[.slice (some ⟨b,0,none⟩) i c,.slice (some A) (n-j) xc]).run Tryz.prog w.drew=.ok (.slice (some ⟨b,0,none⟩) (i+(n-j)) c) (w.drew.setRow b M1.toArray):=fun ty xc=>by
  have:=zb2 (P:=Tryz.prog) (w:=w.drew) (ty:=ty) (ts:=#[24,24]) rfl rfl Tryz.underlying24 Tryz.underlying24 hi0 (hf xc) (sLen:=i) (sCap:=c) (by omega) hb (by simp only[List.size_toArray];rw[hsz];omega) hone
  rw[hsz]at this
  rw[hM1]
  simpa[Go.splice]using this
 obtain ⟨zs,hzs'⟩:∃zs,zs=(Builtin.zeroCells z0.cells (j-i)).toList:=⟨_,rfl⟩
 have hzl:zs.length=(j-i)*6:=by rw[hzs',Array.length_toList,Go.size_zeroCells,hzs]
 have hcl:∀ty cc,(Builtin.clear_ #[24] ty #[.slice (some ⟨b,(i+(n-j))*6,none⟩) (n-(i+(n-j))) cc]).run Tryz.prog (w.drew.setRow b M1.toArray)=.ok (.tuple #[]) ((w.drew.setRow b M1.toArray).setRow b (Go.splice M1 ((i+(n-j))*6) zs).toArray):=fun ty cc=>by
  have e:n-(i+(n-j))=j-i:=by omega
  rw[e,hzs']
  exact zk7 (P:=Tryz.prog) (w:=w.drew.setRow b M1.toArray) Tryz.underlying24 hi0 hz0 (by omega) (setRow_heap _ _ _ _ _ _ hb) (by rw[hzs];omega) hz1
 have hic:i≤c:=by omega
 have hjc:j≤c:=by omega
 have mixed:Tryz.prog.follows .mixedOrders=true:=by kernel_rfl
 clear hC1 hM1 hC1l hM1l h1 hL hf hone hzs'
 go_enter Tryz.func292,Tryz.ntmps292
 go_wp2_with fail
 go_region_law_o (refine znp rfl (.tmp 22) (.tmp 25) 24 24 rfl (.slice (some ⟨b,0,none⟩) i c) (.slice (some A) (n-j) (c-j)) (by simp[Act.eval,Act.put]) (by simp[Act.eval,Act.put]) (hap _ _) ?_)
 go_wp2
 go_ret
 exact ⟨rfl,_,zs,hzl,rfl⟩
end Go.Proofs.YtdahfgialanmpaaGreatDoor
namespace Go.Proofs.YtdahfgialanmpaaGreatDoor
set_option maxRecDepth 100000
open Ev
open Go
theorem za03:fnB Tryz.prog 82 Tryz.f82 []=true:=by kernel_rfl
theorem zzr:InsOk Tryz.prog 82 (sg.sz Kd.kItem) 43:=⟨zlv,zox,zqp,zow⟩
theorem zank:∀ds a r,z1o.dec ds=some a→zaik a=some r→Con Tryz.prog sg 82 ds [] (zaj1.enc r) []:=by
 intro ds a r hd hf
 obtain ⟨code,fok,-,-⟩:=zbq Tryz.func82 za03
 have hac:CCOk z1o:=CCOk.cons (zak.lst _) (CCOk.cons (zak.int _) (CCOk.cons (zak.lst _) CCOk.nil))
 exact zn6 good.sgk fok (by kernel_rfl) zzr (hac ds a hd) hf
theorem zaxp:fnB Tryz.prog 188 Tryz.f188 []=true:=by kernel_rfl
theorem zqo:InsOk Tryz.prog 188 (sg.sz Kd.kPatron) 45:=⟨zib,zjp,zlx,zjo⟩
theorem zanh:∀ds a r,z1m.dec ds=some a→zaii a=some r→Con Tryz.prog sg 188 ds [] (zajy.enc r) []:=by
 intro ds a r hd hf
 obtain ⟨code,fok,-,-⟩:=zbq Tryz.func188 zaxp
 have hac:CCOk z1m:=CCOk.cons (zak.lst _) (CCOk.cons (zak.int _) (CCOk.cons (zak.lst _) CCOk.nil))
 exact zn6 good.sgk fok (by kernel_rfl) zqo (hac ds a hd) hf
theorem zaxq:fnB Tryz.prog 195 Tryz.f195 []=true:=by kernel_rfl
theorem zzs:InsOk Tryz.prog 195 (sg.sz Kd.kLoan) 76:=⟨zlw,zoz,zqq,zoy⟩
theorem zanj:∀ds a r,z1n.dec ds=some a→zaij a=some r→Con Tryz.prog sg 195 ds [] (zaj0.enc r) []:=by
 intro ds a r hd hf
 obtain ⟨code,fok,-,-⟩:=zbq Tryz.func195 zaxq
 have hac:CCOk z1n:=CCOk.cons (zak.lst _) (CCOk.cons (zak.int _) (CCOk.cons (zak.lst _) CCOk.nil))
 exact zn6 good.sgk fok (by kernel_rfl) zzs (hac ds a hd) hf
theorem zaxs:fnB Tryz.prog 273 Tryz.f273 []=true:=by kernel_rfl
theorem zzg:DelOk Tryz.prog 273 (sg.sz Kd.kHold):=⟨zoe,zof⟩
theorem zanm:∀ds a r,z1q.dec ds=some a→zaim a=some r→Con Tryz.prog sg 273 ds [] (zaj3.enc r) []:=by
 intro ds a r hd hf
 obtain ⟨code,fok,-,-⟩:=zbq Tryz.func273 zaxs
 have hac:CCOk z1q:=CCOk.cons (zak.lst _) (CCOk.cons (zak.int _) (CCOk.cons (zak.int _) CCOk.nil))
 exact zv7 good.sgk fok (by kernel_rfl) zzg (hac ds a hd) hf
theorem zaxt:fnB Tryz.prog 292 Tryz.f292 []=true:=by kernel_rfl
theorem zzh:DelOk Tryz.prog 292 (sg.sz Kd.kLoan):=⟨zog,zoh⟩
theorem zanl:∀ds a r,z1p.dec ds=some a→zail a=some r→Con Tryz.prog sg 292 ds [] (zaj2.enc r) []:=by
 intro ds a r hd hf
 obtain ⟨code,fok,-,-⟩:=zbq Tryz.func292 zaxt
 have hac:CCOk z1p:=CCOk.cons (zak.lst _) (CCOk.cons (zak.int _) (CCOk.cons (zak.int _) CCOk.nil))
 exact zv7 good.sgk fok (by kernel_rfl) zzh (hac ds a hd) hf
end Go.Proofs.YtdahfgialanmpaaGreatDoor
namespace Go.Proofs.YtdahfgialanmpaaGreatDoor
open Go Ev
open Go.Lib Go.RowKit
set_option maxRecDepth 100000
theorem zpk {w:World} {I:Nat→Nat→Prop} (h:znq sg w I):Lib.Utf8Tabs 1 2 w:=by
 constructor
 ·intro c hc
  have hl:c<za1.length:=by simp[za1];exact hc
  obtain ⟨v,h1,-,h3⟩:=h 1 .ku8 za1 (by kernel_rfl) c hl 0 (.int .u8 za1[c]) rfl
  rw[h3.int_inv]at h1
  have e:za1[c]=(Lib.firstT c:Int):=by simp[za1]
  rw[e]at h1
  have h1:w.cell? ⟨1,c*1+0,none⟩=_:=h1
  rw[Nat.mul_one,Nat.add_zero]at h1
  exact h1
 ·intro i hi
  have hl:i<zam.length:=by simp[zam];exact hi
  obtain ⟨v,h1,-,h3⟩:=h 2 .kUtf8_acceptRange zam (by kernel_rfl) i hl 0 (.int .u8 zam[i].lo) rfl
  obtain ⟨v',k1,-,k3⟩:=h 2 .kUtf8_acceptRange zam (by kernel_rfl) i hl 1 (.int .u8 zam[i].hi) rfl
  rw[h3.int_inv]at h1
  rw[k3.int_inv]at k1
  have e:zam[i]=⟨(Lib.accLo i:Int),(Lib.accHi i:Int)⟩:=by simp[zam]
  rw[e]at h1 k1
  have h1:w.cell? ⟨2,i*2+0,none⟩=_:=h1
  have k1:w.cell? ⟨2,i*2+1,none⟩=_:=k1
  rw[Nat.mul_comm,Nat.add_zero]at h1
  rw[Nat.mul_comm]at k1
  exact ⟨h1,k1⟩
theorem zml {w w':World} {I:Nat→Nat→Prop} (hi:∀b o,I b o→b<w.heap.size) (h:Below w.heap.size w w'):Grow w w' I I:=
 ⟨h.size,h.os,h.output,h.tape,h.block,fun _ _ h=>h,fun _ _ h=>.inl h,fun b o hb=>Nat.lt_of_lt_of_le (hi b o hb) h.size⟩
theorem z99 {w:World} {I J:Nat→Nat→Prop} {vs:Array Value} {l:List UInt8} (ha:Args sg w I J vs [.str l]):∃b:ByteArray,vs = #[.string b]∧l=b.data.toList:=by
 obtain ⟨h1,h2⟩:=ha
 have h1:vs.size=1:=h1
 have h0:=h2 0 vs[0] (.str l) (Array.getElem?_eq_getElem (by omega)) rfl
 generalize hv:vs[0]=v at h0
 cases h0 with
 |str b=>
  refine ⟨b,?_,rfl⟩
  apply Array.ext
  ·simp[h1]
  ·intro i hi1 hi2
   have:i=0:=by omega
   subst this
   simpa using hv
theorem zaxr:fnB Tryz.prog 244 Tryz.f244 [4]=true:=by kernel_rfl
theorem z3q:∀ds a r,z1r.dec ds=some a→zain a=some r→Con Tryz.prog sg 244 ds [] (zaj5.enc r) []:=by
 intro ds a r hd hf
 obtain ⟨code,fok,-,-⟩:=zbq Tryz.func244 zaxr
 have hac:CCOk z1r:=CCOk.cons zak.str CCOk.nil
 have hw:=hac ds a hd
 obtain ⟨l,⟨⟩⟩:=a
 unfold Con
 rw[show sg.md 244=.data by kernel_rfl]
 intro _ w I J vs hp ha
 obtain ⟨b,rfl,rfl⟩:=z99 (l:=l) (hw.args ha)
 replace hf:(bif decide (b.data.toList.length≤LIM) then some (vld b.data.toList) else none)=some r:=hf
 rw[zad]at hf
 split at hf
 ·rename_i hle
  cases hf
  rw[decide_eq_true_eq,←Lib.size_eq]at hle
  unfold zcz
  rw[MuLone.run_callFunc_enter fok.at_ fok.name fok.body _ w]
  refine (z1d b w hle (zpk hp.gl)).mono ?_
  rintro e w' ⟨rfl,hb⟩
  exact ⟨I,zml hp.ib hb,.bool _⟩
 ·cases hf
theorem zaxu:fnB Tryz.prog 297 Tryz.f297 []=true:=by kernel_rfl
theorem zaoh:∀ds a r,z1v.dec ds=some a→zaip a=some r→Con Tryz.prog sg 297 ds [] (zaj8.enc r) []:=by
 intro ds a r hd hf
 obtain ⟨code,fok,-,-⟩:=zbq Tryz.func297 zaxu
 have hac:CCOk z1v:=CCOk.cons zak.str CCOk.nil
 have hw:=hac ds a hd
 obtain ⟨l,⟨⟩⟩:=a
 unfold Con
 rw[show sg.md 297=.data by kernel_rfl]
 intro _ w I J vs hp ha
 obtain ⟨b,rfl,rfl⟩:=z99 (l:=l) (hw.args ha)
 replace hf:(bif decide (b.data.toList.length≤LIM)&&vld b.data.toList then some (cln b.data.toList) else none)=some r:=hf
 rw[zad]at hf
 split at hf
 ·rename_i hle
  cases hf
  rw[Bool.and_eq_true,decide_eq_true_eq,←Lib.size_eq]at hle
  unfold zcz
  rw[MuLone.run_callFunc_enter fok.at_ fok.name fok.body _ w]
  refine (zza b w hle.1 hle.2).mono ?_
  rintro e w' ⟨rfl,hb⟩
  exact ⟨I,zml hp.ib hb,.str ⟨(cln b.data.toList).toArray⟩⟩
 ·cases hf
theorem zam3:∀ds a r,zafu.dec ds=some a→zaih a=some r→Con Tryz.prog sg 317 ds [] (zaju.enc r) []:=fun ds a r hd hf=>by cases hf
end Go.Proofs.YtdahfgialanmpaaGreatDoor

namespace Go.Proofs.YtdahfgialanmpaaGreatDoor
set_option maxRecDepth 100000
open Ev
open Go (IntKind)
open Go
noncomputable abbrev ZP:=Tryz.prog
theorem zacq:fnB ZP 19 Tryz.f19 [4,9,14]=true:=by kernel_rfl
theorem zab7:CG ZP sg @zaky:=cg0
theorem zaqd:zaf ZP sg 0 Tryz.f19 @zij 4:=zas z4z good Tryz.func19 zacq zab7 zaa (fun a=>by kernel_rfl) (by kernel_rfl) (fun _ _=>rfl)
theorem zaqe:zaf ZP sg 0 Tryz.f19 @zij 9:=zas z41 good Tryz.func19 zacq zab7 zaa (fun a=>by kernel_rfl) (by kernel_rfl) (fun _ _=>rfl)
theorem zac8:zaf ZP sg 0 Tryz.f19 @zij 14:=zas zwl good Tryz.func19 zacq zab7 zaa (fun a=>by kernel_rfl) (by kernel_rfl) (fun _ _=>rfl)
theorem zaw2:SG ZP sg 19 @za0f:=conD (loops:=zij) good Tryz.func19 zacq (by kernel_rfl) zab7 (all_cons zaqd (all_cons zaqe (all_cons zac8 zaa))) (fun a=>by kernel_rfl)
theorem zs6:SG ZP sg 258 @zu5:=conE good Tryz.func258 (by kernel_rfl) (by kernel_rfl) cg0 (fun a=>by kernel_rfl)
theorem zaht:fnB ZP 174 Tryz.f174 [2]=true:=by kernel_rfl
theorem zagd:CG ZP sg @zabd:=(cgc zs6 cg0)
theorem zadh:zaf ZP sg 0 Tryz.f174 @zrg 2:=zas zwu good Tryz.func174 zaht zagd zaa (fun a=>by kernel_rfl) (by kernel_rfl) (fun _ _=>rfl)
theorem z2x:SG ZP sg 174 @zu4:=conD (loops:=zrg) good Tryz.func174 zaht (by kernel_rfl) zagd (all_cons zadh zaa) (fun a=>by kernel_rfl)
theorem zaw7:SG ZP sg 259 @zakb:=conE good Tryz.func259 (by kernel_rfl) (by kernel_rfl) (cgc zs6 cg0) (fun a=>by kernel_rfl)
theorem zal8:SG ZP sg 260 @z7w:=conE good Tryz.func260 (by kernel_rfl) (by kernel_rfl) cg0 (fun a=>by kernel_rfl)
theorem zahu:fnB ZP 175 Tryz.f175 [4]=true:=by kernel_rfl
theorem zaf7:CG ZP sg @zaa1:=(cgc zs6 (cgc zaw7 (cgc zal8 cg0)))
theorem zac4:zaf ZP sg 0 Tryz.f175 @zra 4:=zas zwh good Tryz.func175 zahu zaf7 zaa (fun a=>by kernel_rfl) (by kernel_rfl) (fun _ _=>rfl)
theorem zalz:SG ZP sg 175 @z7r:=conD (loops:=zra) good Tryz.func175 zahu (by kernel_rfl) zaf7 (all_cons zac4 zaa) (fun a=>by kernel_rfl)
theorem zax1:fnB ZP 68 Tryz.f68 [4]=true:=by kernel_rfl
theorem zagi:CG ZP sg @zabi:=(cgc z2x (cgc zalz cg0))
theorem zadm:zaf ZP sg 0 Tryz.f68 @zrl 4:=zas zwz good Tryz.func68 zax1 zagi zaa (fun a=>by kernel_rfl) (by kernel_rfl) (fun _ _=>rfl)
theorem zamd:SG ZP sg 68 @z71:=conD (loops:=zrl) good Tryz.func68 zax1 (by kernel_rfl) zagi (all_cons zadm zaa) (fun a=>by kernel_rfl)
theorem zax2:fnB ZP 69 Tryz.f69 [4]=true:=by kernel_rfl
theorem zagc:CG ZP sg @zabc:=cg0
theorem zadg:zaf ZP sg 0 Tryz.f69 @zrf 4:=zas zwt good Tryz.func69 zax2 zagc zaa (fun a=>by kernel_rfl) (by kernel_rfl) (fun _ _=>rfl)
theorem z2w:SG ZP sg 69 @z7x:=conD (loops:=zrf) good Tryz.func69 zax2 (by kernel_rfl) zagc (all_cons zadg zaa) (fun a=>by kernel_rfl)
theorem zaoj:SG ZP sg 261 @zat9:=conE good Tryz.func261 (by kernel_rfl) (by kernel_rfl) cg0 (fun a=>by kernel_rfl)
theorem zan4:SG ZP sg 262 @zat1:=conE good Tryz.func262 (by kernel_rfl) (by kernel_rfl) cg0 (fun a=>by kernel_rfl)
theorem zan1:SG ZP sg 176 @z9f:=conE good Tryz.func176 (by kernel_rfl) (by kernel_rfl) (cgc zaoj (cgc zan4 cg0)) (fun a=>by kernel_rfl)
theorem zacu:fnB ZP 70 Tryz.f70 [4,12,15]=true:=by kernel_rfl
theorem zab9:CG ZP sg @zak8:=(cgc zan1 cg0)
theorem zaqp:zaf ZP sg 0 Tryz.f70 @zil 4:=zas z5f good Tryz.func70 zacu zab9 zaa (fun a=>by kernel_rfl) (by kernel_rfl) (fun _ _=>rfl)
theorem zx2:zaf ZP sg 0 Tryz.f70 @zil 15:=zas zxv good Tryz.func70 zacu zab9 zaa (fun a=>by kernel_rfl) (by kernel_rfl) (fun _ _=>rfl)
theorem zaeh:zaf ZP sg 0 Tryz.f70 @zil 12:=zas zxu good Tryz.func70 zacu zab9 (all_cons zx2 zaa) (fun a=>by kernel_rfl) (by kernel_rfl) (fun _ _=>rfl)
theorem zaxc:SG ZP sg 70 @zakf:=conD (loops:=zil) good Tryz.func70 zacu (by kernel_rfl) zab9 (all_cons zaqp (all_cons zaeh (all_cons zx2 zaa))) (fun a=>by kernel_rfl)
theorem zao7:SG ZP sg 177 @z92:=conE good Tryz.func177 (by kernel_rfl) (by kernel_rfl) cg0 (fun a=>by kernel_rfl)
theorem zax3:fnB ZP 71 Tryz.f71 [4]=true:=by kernel_rfl
theorem zaf6:CG ZP sg @zaa0:=(cgc zao7 cg0)
theorem zac3:zaf ZP sg 0 Tryz.f71 @zq9 4:=zas zwg good Tryz.func71 zax3 zaf6 zaa (fun a=>by kernel_rfl) (by kernel_rfl) (fun _ _=>rfl)
theorem zaly:SG ZP sg 71 @z7q:=conD (loops:=zq9) good Tryz.func71 zax3 (by kernel_rfl) zaf6 (all_cons zac3 zaa) (fun a=>by kernel_rfl)
theorem z2z:SG ZP sg 263 @zasg:=conE good Tryz.func263 (by kernel_rfl) (by kernel_rfl) cg0 (fun a=>by kernel_rfl)
theorem zand:SG ZP sg 178 @z84:=conE good Tryz.func178 (by kernel_rfl) (by kernel_rfl) (cgc z2z cg0) (fun a=>by kernel_rfl)
theorem zapy:fnB ZP 72 Tryz.f72 [4,9]=true:=by kernel_rfl
theorem zalm:CG ZP sg @zak6:=(cgc zand cg0)
theorem z56:zaf ZP sg 0 Tryz.f72 @zo5 9:=zas z5d good Tryz.func72 zapy zalm zaa (fun a=>by kernel_rfl) (by kernel_rfl) (fun _ _=>rfl)
theorem zaqn:zaf ZP sg 0 Tryz.f72 @zo5 4:=zas z5c good Tryz.func72 zapy zalm (all_cons z56 zaa) (fun a=>by kernel_rfl) (by kernel_rfl) (fun _ _=>rfl)
theorem zaxa:SG ZP sg 72 @zake:=conD (loops:=zo5) good Tryz.func72 zapy (by kernel_rfl) zalm (all_cons zaqn (all_cons z56 zaa)) (fun a=>by kernel_rfl)
theorem zapz:fnB ZP 73 Tryz.f73 [6,11]=true:=by kernel_rfl
theorem zalp:CG ZP sg @zalj:=cg0
theorem zaq1:zaf ZP sg 0 Tryz.f73 @zo8 6:=zas z5u good Tryz.func73 zapz zalp zaa (fun a=>by kernel_rfl) (by kernel_rfl) (fun _ _=>rfl)
theorem zaem:zaf ZP sg 0 Tryz.f73 @zo8 11:=zas zx0 good Tryz.func73 zapz zalp zaa (fun a=>by kernel_rfl) (by kernel_rfl) (fun _ _=>rfl)
theorem zaxl:SG ZP sg 73 @zakk:=conD (loops:=zo8) good Tryz.func73 zapz (by kernel_rfl) zalp (all_cons zaq1 (all_cons zaem zaa)) (fun a=>by kernel_rfl)
theorem zahv:fnB ZP 179 Tryz.f179 [2]=true:=by kernel_rfl
theorem zagm:CG ZP sg @zabm:=cg0
theorem zadq:zaf ZP sg 0 Tryz.f179 @zrp 2:=zas zw3 good Tryz.func179 zahv zagm zaa (fun a=>by kernel_rfl) (by kernel_rfl) (fun _ _=>rfl)
theorem zamf:SG ZP sg 179 @zasj:=conD (loops:=zrp) good Tryz.func179 zahv (by kernel_rfl) zagm (all_cons zadq zaa) (fun a=>by kernel_rfl)
theorem zhb:SG ZP sg 74 @zlb:=conE good Tryz.func74 (by kernel_rfl) (by kernel_rfl) (cgc zamf cg0) (fun a=>by kernel_rfl)
theorem zan2:SG ZP sg 85 @z9g:=conE good Tryz.func85 (by kernel_rfl) (by kernel_rfl) cg0 (fun a=>by kernel_rfl)
theorem zapd:SG ZP sg 306 @zauv:=conE good Tryz.func306 (by kernel_rfl) (by kernel_rfl) cg0 (fun a=>by kernel_rfl)
theorem zan3:SG ZP sg 275 @zat0:=conE good Tryz.func275 (by kernel_rfl) (by kernel_rfl) (cgc zapd cg0) (fun a=>by kernel_rfl)
theorem zaor:SG ZP sg 276 @zaug:=conE good Tryz.func276 (by kernel_rfl) (by kernel_rfl) cg0 (fun a=>by kernel_rfl)
theorem zans:SG ZP sg 307 @z9c:=conE good Tryz.func307 (by kernel_rfl) (by kernel_rfl) cg0 (fun a=>by kernel_rfl)
theorem zah8:fnB ZP 277 Tryz.f277 [3]=true:=by kernel_rfl
theorem zagg:CG ZP sg @zabg:=(cgc zans cg0)
theorem zadk:zaf ZP sg 0 Tryz.f277 @zrj 3:=zas zwx good Tryz.func277 zah8 zagg zaa (fun a=>by kernel_rfl) (by kernel_rfl) (fun _ _=>rfl)
theorem zamb:SG ZP sg 277 @zase:=conD (loops:=zrj) good Tryz.func277 zah8 (by kernel_rfl) zagg (all_cons zadk zaa) (fun a=>by kernel_rfl)
theorem zant:SG ZP sg 278 @zato:=conE good Tryz.func278 (by kernel_rfl) (by kernel_rfl) cg0 (fun a=>by kernel_rfl)
theorem zapk:SG ZP sg 279 @zau2:=conE good Tryz.func279 (by kernel_rfl) (by kernel_rfl) cg0 (fun a=>by kernel_rfl)
theorem zanf:SG ZP sg 200 @z86:=conE good Tryz.func200 (by kernel_rfl) (by kernel_rfl) (cgc zan3 (cgc zaor (cgc zamb (cgc zant (cgc zapk cg0))))) (fun a=>by kernel_rfl)
theorem zahw:fnB ZP 180 Tryz.f180 [5]=true:=by kernel_rfl
theorem zagf:CG ZP sg @zabf:=(cgc zan2 (cgc zanf cg0))
theorem zadj:zaf ZP sg 0 Tryz.f180 @zri 5:=zas zww good Tryz.func180 zahw zagf zaa (fun a=>by kernel_rfl) (by kernel_rfl) (fun _ _=>rfl)
theorem zama:SG ZP sg 180 @z7y:=conD (loops:=zri) good Tryz.func180 zahw (by kernel_rfl) zagf (all_cons zadj zaa) (fun a=>by kernel_rfl)
theorem zax4:fnB ZP 84 Tryz.f84 [2]=true:=by kernel_rfl
theorem zawv:CG ZP sg @zak9:=cg0
theorem zaqq:zaf ZP sg 0 Tryz.f84 @zyb 2:=zas z5g good Tryz.func84 zax4 zawv zaa (fun a=>by kernel_rfl) (by kernel_rfl) (fun _ _=>rfl)
theorem zqa:SG ZP sg 84 @zno:=conD (loops:=zyb) good Tryz.func84 zax4 (by kernel_rfl) zawv (all_cons zaqq zaa) (fun a=>by kernel_rfl)
theorem zap0:fnB ZP 75 Tryz.f75 [4,15]=true:=by kernel_rfl
theorem z2k:CG ZP sg @zaa6:=(cgc zqa (cgc z2x (cgc zama cg0)))
theorem zada:zaf ZP sg 0 Tryz.f75 @zjw 4:=zas zwn good Tryz.func75 zap0 z2k zaa (fun a=>by kernel_rfl) (by kernel_rfl) (fun _ _=>rfl)
theorem z5y:zaf ZP sg 0 Tryz.f75 @zjw 15:=zas zqw good Tryz.func75 zap0 z2k zaa (fun a=>by kernel_rfl) (by kernel_rfl) (fun _ _=>rfl)
theorem zal3:SG ZP sg 75 @z7u:=conD (loops:=zjw) good Tryz.func75 zap0 (by kernel_rfl) z2k (all_cons zada (all_cons z5y zaa)) (fun a=>by kernel_rfl)
theorem zaol:SG ZP sg 111 @z9t:=conE good Tryz.func111 (by kernel_rfl) (by kernel_rfl) cg0 (fun a=>by kernel_rfl)
theorem zahy:fnB ZP 201 Tryz.f201 [2]=true:=by kernel_rfl
theorem zagb:CG ZP sg @zaa8:=cg0
theorem zadc:zaf ZP sg 0 Tryz.f201 @zre 2:=zas zwp good Tryz.func201 zahy zagb zaa (fun a=>by kernel_rfl) (by kernel_rfl) (fun _ _=>rfl)
theorem zs5:SG ZP sg 201 @zar9:=conD (loops:=zre) good Tryz.func201 zahy (by kernel_rfl) zagb (all_cons zadc zaa) (fun a=>by kernel_rfl)
theorem zte:SG ZP sg 122 @zpi:=conE good Tryz.func122 (by kernel_rfl) (by kernel_rfl) (cgc zs5 cg0) (fun a=>by kernel_rfl)
theorem zap1:fnB ZP 76 Tryz.f76 [2,10]=true:=by kernel_rfl
theorem z2j:CG ZP sg @zaa5:=(cgc zhb (cgc zqa (cgc zaol (cgc zte cg0))))
theorem zac9:zaf ZP sg 0 Tryz.f76 @zjv 2:=zas zwm good Tryz.func76 zap1 z2j zaa (fun a=>by kernel_rfl) (by kernel_rfl) (fun _ _=>rfl)
theorem z5x:zaf ZP sg 0 Tryz.f76 @zjv 10:=zas zqv good Tryz.func76 zap1 z2j zaa (fun a=>by kernel_rfl) (by kernel_rfl) (fun _ _=>rfl)
theorem zal2:SG ZP sg 76 @z7t:=conD (loops:=zjv) good Tryz.func76 zap1 (by kernel_rfl) z2j (all_cons zac9 (all_cons z5x zaa)) (fun a=>by kernel_rfl)
theorem zahg:fnB ZP 105 Tryz.f105 [2]=true:=by kernel_rfl
theorem zagh:CG ZP sg @zabh:=cg0
theorem zadl:zaf ZP sg 0 Tryz.f105 @zrk 2:=zas zwy good Tryz.func105 zahg zagh zaa (fun a=>by kernel_rfl) (by kernel_rfl) (fun _ _=>rfl)
theorem zamc:SG ZP sg 105 @z7z:=conD (loops:=zrk) good Tryz.func105 zahg (by kernel_rfl) zagh (all_cons zadl zaa) (fun a=>by kernel_rfl)
theorem zap2:fnB ZP 77 Tryz.f77 [2,18]=true:=by kernel_rfl
theorem z2l:CG ZP sg @zaa7:=(cgc zhb (cgc zqa (cgc zamc cg0)))
theorem zadb:zaf ZP sg 0 Tryz.f77 @zjx 2:=zas zwo good Tryz.func77 zap2 z2l zaa (fun a=>by kernel_rfl) (by kernel_rfl) (fun _ _=>rfl)
theorem z5z:zaf ZP sg 0 Tryz.f77 @zjx 18:=zas zqx good Tryz.func77 zap2 z2l zaa (fun a=>by kernel_rfl) (by kernel_rfl) (fun _ _=>rfl)
theorem zal4:SG ZP sg 77 @z7v:=conD (loops:=zjx) good Tryz.func77 zap2 (by kernel_rfl) z2l (all_cons zadb (all_cons z5z zaa)) (fun a=>by kernel_rfl)
theorem zapv:fnB ZP 21 Tryz.f21 [6,11]=true:=by kernel_rfl
theorem z2o:CG ZP sg @zabb:=(cgc zamd (cgc z2w (cgc zaxc (cgc zaly (cgc zaxa (cgc zaxl (cgc zhb (cgc zal3 (cgc zal2 (cgc zal4 cg0))))))))))
theorem zadf:zaf ZP sg 0 Tryz.f21 @zj0 6:=zas zws good Tryz.func21 zapv z2o zaa (fun a=>by kernel_rfl) (by kernel_rfl) (fun _ _=>rfl)
theorem z52:zaf ZP sg 0 Tryz.f21 @zj0 11:=zas zq0 good Tryz.func21 zapv z2o zaa (fun a=>by kernel_rfl) (by kernel_rfl) (fun _ _=>rfl)
theorem zal7:SG ZP sg 21 @zasc:=conD (loops:=zj0) good Tryz.func21 zapv (by kernel_rfl) z2o (all_cons zadf (all_cons z52 zaa)) (fun a=>by kernel_rfl)
theorem zapl:SG ZP sg 22 @zau3:=conE good Tryz.func22 (by kernel_rfl) (by kernel_rfl) (cgc zaw2 (cgc zal7 cg0)) (fun a=>by kernel_rfl)
theorem zaoi:SG ZP sg 17 @zat8:=conE good Tryz.func17 (by kernel_rfl) (by kernel_rfl) cg0 (fun a=>by kernel_rfl)
theorem zanq:SG ZP sg 181 @z9a:=conE good Tryz.func181 (by kernel_rfl) (by kernel_rfl) cg0 (fun a=>by kernel_rfl)
theorem zzo:fnB ZP 80 Tryz.f80 [2]=true:=by kernel_rfl
theorem zawr:CG ZP sg @zak2:=(cgc zanq cg0)
theorem zaqi:zaf ZP sg 0 Tryz.f80 @zx7 2:=zas z47 good Tryz.func80 zzo zawr zaa (fun a=>by kernel_rfl) (by kernel_rfl) (fun _ _=>rfl)
theorem zaw6:SG ZP sg 80 @za0i:=conD (loops:=zx7) good Tryz.func80 zzo (by kernel_rfl) zawr (all_cons zaqi zaa) (fun a=>by kernel_rfl)
theorem zf7:SG ZP sg 78 @zla:=conE good Tryz.func78 (by kernel_rfl) (by kernel_rfl) (cgc zaw6 cg0) (fun a=>by kernel_rfl)
theorem z3y:SG ZP sg 79 @z9p:=conE good Tryz.func79 (by kernel_rfl) (by kernel_rfl) cg0 (fun a=>by kernel_rfl)
theorem zam6:SG ZP sg 81 @z8p:=conE good Tryz.func81 (by kernel_rfl) (by kernel_rfl) cg0 (fun a=>by kernel_rfl)
theorem zv2:CG ZP sg @zy6:=(cgc zam6 cg0)
theorem zz1:zaf ZP sg 0 Tryz.f80 @zj5 2:=zas zmu good Tryz.func80 zzo zv2 zaa (fun a=>by kernel_rfl) (by kernel_rfl) (fun _ _=>rfl)
theorem z3w:SG ZP sg 80 @z9o:=conD (loops:=zj5) good Tryz.func80 zzo (by kernel_rfl) zv2 (all_cons zz1 zaa) (fun a=>by kernel_rfl)
theorem z3i:SG ZP sg 83 @zatg:=conS (loops:=l0) (ids:=[]) good Tryz.func83 (by kernel_rfl) (by kernel_rfl) cg0 zaa (fun a=>by kernel_rfl) (by kernel_rfl)
theorem zn8:SG ZP sg 62 @z8u:=conE good Tryz.func62 (by kernel_rfl) (by kernel_rfl) cg0 (fun a=>by kernel_rfl)
theorem zano:SG ZP sg 166 @z88:=conE good Tryz.func166 (by kernel_rfl) (by kernel_rfl) (cgc zn8 (cgc (sgP z3q) cg0)) (fun a=>by kernel_rfl)
theorem zn7:SG ZP sg 162 @z8k:=conE good Tryz.func162 (by kernel_rfl) (by kernel_rfl) cg0 (fun a=>by kernel_rfl)
theorem zapc:SG ZP sg 238 @zauu:=conE good Tryz.func238 (by kernel_rfl) (by kernel_rfl) (cgc zn7 cg0) (fun a=>by kernel_rfl)
theorem zapb:SG ZP sg 239 @zaut:=conE good Tryz.func239 (by kernel_rfl) (by kernel_rfl) (cgc zn7 cg0) (fun a=>by kernel_rfl)
theorem z3n:SG ZP sg 241 @zati:=conE good Tryz.func241 (by kernel_rfl) (by kernel_rfl) cg0 (fun a=>by kernel_rfl)
theorem zape:SG ZP sg 240 @zauw:=conE good Tryz.func240 (by kernel_rfl) (by kernel_rfl) (cgc z3n cg0) (fun a=>by kernel_rfl)
theorem z3z:SG ZP sg 163 @z9q:=conE good Tryz.func163 (by kernel_rfl) (by kernel_rfl) (cgc zn7 (cgc zapc (cgc zapb (cgc zape (cgc z3n cg0))))) (fun a=>by kernel_rfl)
theorem zaxz:fnB ZP 58 Tryz.f58 [5]=true:=by kernel_rfl
theorem zagv:CG ZP sg @zabv:=(cgc z3y (cgc zn7 (cgc z3z cg0)))
theorem zadz:zaf ZP sg 0 Tryz.f58 @zry 5:=zas zxc good Tryz.func58 zaxz zagv zaa (fun a=>by kernel_rfl) (by kernel_rfl) (fun _ _=>rfl)
theorem zamq:SG ZP sg 58 @z8h:=conD (loops:=zry) good Tryz.func58 zaxz (by kernel_rfl) zagv (all_cons zadz zaa) (fun a=>by kernel_rfl)
theorem zacr:fnB ZP 63 Tryz.f63 [4,10,16]=true:=by kernel_rfl
theorem zacc:CG ZP sg @zale:=(cgc zamq (cgc zf7 (cgc zano cg0)))
theorem zaqw:zaf ZP sg 0 Tryz.f63 @zio 4:=zas z5o good Tryz.func63 zacr zacc zaa (fun a=>by kernel_rfl) (by kernel_rfl) (fun _ _=>rfl)
theorem zaek:zaf ZP sg 0 Tryz.f63 @zio 10:=zas zxy good Tryz.func63 zacr zacc zaa (fun a=>by kernel_rfl) (by kernel_rfl) (fun _ _=>rfl)
theorem zael:zaf ZP sg 0 Tryz.f63 @zio 16:=zas zxz good Tryz.func63 zacr zacc zaa (fun a=>by kernel_rfl) (by kernel_rfl) (fun _ _=>rfl)
theorem zaxh:SG ZP sg 63 @za0o:=conD (loops:=zio) good Tryz.func63 zacr (by kernel_rfl) zacc (all_cons zaqw (all_cons zaek (all_cons zael zaa))) (fun a=>by kernel_rfl)
theorem zaml:SG ZP sg 245 @z74:=conE good Tryz.func245 (by kernel_rfl) (by kernel_rfl) (cgc (sgP z3q) (cgc (sgP zaoh) cg0)) (fun a=>by kernel_rfl)
theorem zahn:fnB ZP 167 Tryz.f167 [5]=true:=by kernel_rfl
theorem zagq:CG ZP sg @zabq:=(cgc zaml cg0)
theorem zadu:zaf ZP sg 0 Tryz.f167 @zrt 5:=zas zw7 good Tryz.func167 zahn zagq zaa (fun a=>by kernel_rfl) (by kernel_rfl) (fun _ _=>rfl)
theorem z3a:SG ZP sg 167 @z8c:=conD (loops:=zrt) good Tryz.func167 zahn (by kernel_rfl) zagq (all_cons zadu zaa) (fun a=>by kernel_rfl)
theorem zan5:SG ZP sg 246 @z9i:=conE good Tryz.func246 (by kernel_rfl) (by kernel_rfl) cg0 (fun a=>by kernel_rfl)
theorem z3v:SG ZP sg 219 @z9h:=conE good Tryz.func219 (by kernel_rfl) (by kernel_rfl) cg0 (fun a=>by kernel_rfl)
theorem zaho:fnB ZP 168 Tryz.f168 [4]=true:=by kernel_rfl
theorem zagr:CG ZP sg @zabr:=(cgc z3v (cgc zan5 cg0))
theorem zadv:zaf ZP sg 0 Tryz.f168 @zru 4:=zas zw8 good Tryz.func168 zaho zagr zaa (fun a=>by kernel_rfl) (by kernel_rfl) (fun _ _=>rfl)
theorem z3b:SG ZP sg 168 @z8e:=conD (loops:=zru) good Tryz.func168 zaho (by kernel_rfl) zagr (all_cons zadv zaa) (fun a=>by kernel_rfl)
theorem zs8:SG ZP sg 284 @zass:=conE good Tryz.func284 (by kernel_rfl) (by kernel_rfl) cg0 (fun a=>by kernel_rfl)
theorem zaot:SG ZP sg 298 @zauh:=conE good Tryz.func298 (by kernel_rfl) (by kernel_rfl) (cgc zs8 cg0) (fun a=>by kernel_rfl)
theorem zao2:SG ZP sg 247 @z9y:=conE good Tryz.func247 (by kernel_rfl) (by kernel_rfl) (cgc zs8 (cgc zaot cg0)) (fun a=>by kernel_rfl)
theorem zanb:SG ZP sg 249 @z8z:=conE good Tryz.func249 (by kernel_rfl) (by kernel_rfl) cg0 (fun a=>by kernel_rfl)
theorem zmh:fnB ZP 248 Tryz.f248 [2,5]=true:=by kernel_rfl
theorem zall:CG ZP sg @zak1:=(cgc zanb cg0)
theorem z55:zaf ZP sg 0 Tryz.f248 @zo4 5:=zas z45 good Tryz.func248 zmh zall zaa (fun a=>by kernel_rfl) (by kernel_rfl) (fun _ _=>rfl)
theorem zaqh:zaf ZP sg 0 Tryz.f248 @zo4 2:=zas z44 good Tryz.func248 zmh zall (all_cons z55 zaa) (fun a=>by kernel_rfl) (by kernel_rfl) (fun _ _=>rfl)
theorem zaw5:SG ZP sg 248 @zaka:=conD (loops:=zo4) good Tryz.func248 zmh (by kernel_rfl) zall (all_cons zaqh (all_cons z55 zaa)) (fun a=>by kernel_rfl)
theorem zanz:SG ZP sg 250 @z9e:=conE good Tryz.func250 (by kernel_rfl) (by kernel_rfl) cg0 (fun a=>by kernel_rfl)
theorem zn3:CG ZP sg @zy5:=(cgc zanz cg0)
theorem zmz:zaf ZP sg 0 Tryz.f248 @zga 5:=zas zmt good Tryz.func248 zmh zn3 zaa (fun a=>by kernel_rfl) (by kernel_rfl) (fun _ _=>rfl)
theorem zz0:zaf ZP sg 0 Tryz.f248 @zga 2:=zas zms good Tryz.func248 zmh zn3 (all_cons zmz zaa) (fun a=>by kernel_rfl) (by kernel_rfl) (fun _ _=>rfl)
theorem z3p:SG ZP sg 248 @zsm:=conD (loops:=zga) good Tryz.func248 zmh (by kernel_rfl) zn3 (all_cons zz0 (all_cons zmz zaa)) (fun a=>by kernel_rfl)
theorem zahp:fnB ZP 169 Tryz.f169 [4]=true:=by kernel_rfl
theorem zawt:CG ZP sg @zak5:=(cgc zao2 (cgc (sgi zaw5 (sgi z3p sg0)) cg0))
theorem zaqm:zaf ZP sg 0 Tryz.f169 @zx9 4:=zas z5b good Tryz.func169 zahp zawt zaa (fun a=>by kernel_rfl) (by kernel_rfl) (fun _ _=>rfl)
theorem zag8:SG ZP sg 169 @zakd:=conD (loops:=zx9) good Tryz.func169 zahp (by kernel_rfl) zawt (all_cons zaqm zaa) (fun a=>by kernel_rfl)
theorem zaob:SG ZP sg 299 @zat4:=conE good Tryz.func299 (by kernel_rfl) (by kernel_rfl) cg0 (fun a=>by kernel_rfl)
theorem z30:SG ZP sg 280 @zat7:=conE good Tryz.func280 (by kernel_rfl) (by kernel_rfl) cg0 (fun a=>by kernel_rfl)
theorem zam9:SG ZP sg 251 @z8v:=conE good Tryz.func251 (by kernel_rfl) (by kernel_rfl) (cgc z30 (cgc zaob cg0)) (fun a=>by kernel_rfl)
theorem zahq:fnB ZP 170 Tryz.f170 [4]=true:=by kernel_rfl
theorem zags:CG ZP sg @zabs:=(cgc zam9 cg0)
theorem zadw:zaf ZP sg 0 Tryz.f170 @zrv 4:=zas zw9 good Tryz.func170 zahq zags zaa (fun a=>by kernel_rfl) (by kernel_rfl) (fun _ _=>rfl)
theorem z3c:SG ZP sg 170 @z8f:=conD (loops:=zrv) good Tryz.func170 zahq (by kernel_rfl) zags (all_cons zadw zaa) (fun a=>by kernel_rfl)
theorem z24:SG ZP sg 268 @zasn:=conE good Tryz.func268 (by kernel_rfl) (by kernel_rfl) cg0 (fun a=>by kernel_rfl)
theorem zan9:SG ZP sg 252 @z9l:=conE good Tryz.func252 (by kernel_rfl) (by kernel_rfl) (cgc z24 cg0) (fun a=>by kernel_rfl)
theorem z3j:SG ZP sg 253 @z80:=conE good Tryz.func253 (by kernel_rfl) (by kernel_rfl) cg0 (fun a=>by kernel_rfl)
theorem zaic:fnB ZP 300 Tryz.f300 [2]=true:=by kernel_rfl
theorem zaf9:CG ZP sg @zaa3:=(cgc z3j cg0)
theorem zac6:zaf ZP sg 0 Tryz.f300 @zrc 2:=zas zwj good Tryz.func300 zaic zaf9 zaa (fun a=>by kernel_rfl) (by kernel_rfl) (fun _ _=>rfl)
theorem zal0:SG ZP sg 300 @zar5:=conD (loops:=zrc) good Tryz.func300 zaic (by kernel_rfl) zaf9 (all_cons zac6 zaa) (fun a=>by kernel_rfl)
theorem zan6:SG ZP sg 254 @z9j:=conE good Tryz.func254 (by kernel_rfl) (by kernel_rfl) (cgc z3j (cgc zal0 cg0)) (fun a=>by kernel_rfl)
theorem zahr:fnB ZP 171 Tryz.f171 [4]=true:=by kernel_rfl
theorem zawz:CG ZP sg @zali:=(cgc zan9 (cgc zan6 cg0))
theorem zaq0:zaf ZP sg 0 Tryz.f171 @zyf 4:=zas z5t good Tryz.func171 zahr zawz zaa (fun a=>by kernel_rfl) (by kernel_rfl) (fun _ _=>rfl)
theorem zaxk:SG ZP sg 171 @zakj:=conD (loops:=zyf) good Tryz.func171 zahr (by kernel_rfl) zawz (all_cons zaq0 zaa) (fun a=>by kernel_rfl)
theorem ztc:SG ZP sg 257 @z8q:=conE good Tryz.func257 (by kernel_rfl) (by kernel_rfl) cg0 (fun a=>by kernel_rfl)
theorem z3e:SG ZP sg 256 @z8m:=conE good Tryz.func256 (by kernel_rfl) (by kernel_rfl) (cgc ztc cg0) (fun a=>by kernel_rfl)
theorem zaid:fnB ZP 301 Tryz.f301 [2]=true:=by kernel_rfl
theorem zaga:CG ZP sg @zaa4:=(cgc z3e cg0)
theorem zac7:zaf ZP sg 0 Tryz.f301 @zrd 2:=zas zwk good Tryz.func301 zaid zaga zaa (fun a=>by kernel_rfl) (by kernel_rfl) (fun _ _=>rfl)
theorem zal1:SG ZP sg 301 @zar6:=conD (loops:=zrd) good Tryz.func301 zaid (by kernel_rfl) zaga (all_cons zac7 zaa) (fun a=>by kernel_rfl)
theorem zan7:SG ZP sg 255 @z9k:=conE good Tryz.func255 (by kernel_rfl) (by kernel_rfl) (cgc z3e (cgc zal1 cg0)) (fun a=>by kernel_rfl)
theorem zahs:fnB ZP 172 Tryz.f172 [8]=true:=by kernel_rfl
theorem zawy:CG ZP sg @zalg:=(cgc zan7 cg0)
theorem zaqy:zaf ZP sg 0 Tryz.f172 @zye 8:=zas z5q good Tryz.func172 zahs zawy zaa (fun a=>by kernel_rfl) (by kernel_rfl) (fun _ _=>rfl)
theorem zaha:SG ZP sg 172 @zakh:=conD (loops:=zye) good Tryz.func172 zahs (by kernel_rfl) zawy (all_cons zaqy zaa) (fun a=>by kernel_rfl)
theorem zacs:fnB ZP 64 Tryz.f64 [4,12,18]=true:=by kernel_rfl
theorem zacb:CG ZP sg @zald:=(cgc zn8 (cgc z3a (cgc z3b (cgc zag8 (cgc z3c (cgc zaxk (cgc zaha cg0)))))))
theorem zaqv:zaf ZP sg 0 Tryz.f64 @zin 4:=zas z5n good Tryz.func64 zacs zacb zaa (fun a=>by kernel_rfl) (by kernel_rfl) (fun _ _=>rfl)
theorem zaei:zaf ZP sg 0 Tryz.f64 @zin 12:=zas zxw good Tryz.func64 zacs zacb zaa (fun a=>by kernel_rfl) (by kernel_rfl) (fun _ _=>rfl)
theorem zaej:zaf ZP sg 0 Tryz.f64 @zin 18:=zas zxx good Tryz.func64 zacs zacb zaa (fun a=>by kernel_rfl) (by kernel_rfl) (fun _ _=>rfl)
theorem zaxg:SG ZP sg 64 @za0n:=conD (loops:=zin) good Tryz.func64 zacs (by kernel_rfl) zacb (all_cons zaqv (all_cons zaei (all_cons zaej zaa))) (fun a=>by kernel_rfl)
theorem zam4:SG ZP sg 265 @z8n:=conE good Tryz.func265 (by kernel_rfl) (by kernel_rfl) cg0 (fun a=>by kernel_rfl)
theorem zwa:fnB ZP 185 Tryz.f185 [2]=true:=by kernel_rfl
theorem zaww:CG ZP sg @zala:=(cgc zam4 cg0)
theorem zaqr:zaf ZP sg 0 Tryz.f185 @zyc 2:=zas z5h good Tryz.func185 zwa zaww zaa (fun a=>by kernel_rfl) (by kernel_rfl) (fun _ _=>rfl)
theorem zaxd:SG ZP sg 185 @za0l:=conD (loops:=zyc) good Tryz.func185 zwa (by kernel_rfl) zaww (all_cons zaqr zaa) (fun a=>by kernel_rfl)
theorem z25:SG ZP sg 184 @zaso:=conE good Tryz.func184 (by kernel_rfl) (by kernel_rfl) (cgc zaxd cg0) (fun a=>by kernel_rfl)
theorem zjc:SG ZP sg 90 @zatf:=conE good Tryz.func90 (by kernel_rfl) (by kernel_rfl) (cgc z25 cg0) (fun a=>by kernel_rfl)
theorem zana:SG ZP sg 173 @z8x:=conE good Tryz.func173 (by kernel_rfl) (by kernel_rfl) (cgc zjc cg0) (fun a=>by kernel_rfl)
theorem zact:fnB ZP 65 Tryz.f65 [3,9,15]=true:=by kernel_rfl
theorem zab8:CG ZP sg @zak3:=(cgc zf7 (cgc zana cg0))
theorem zaqj:zaf ZP sg 0 Tryz.f65 @zik 3:=zas z48 good Tryz.func65 zact zab8 zaa (fun a=>by kernel_rfl) (by kernel_rfl) (fun _ _=>rfl)
theorem zaqk:zaf ZP sg 0 Tryz.f65 @zik 9:=zas z49 good Tryz.func65 zact zab8 zaa (fun a=>by kernel_rfl) (by kernel_rfl) (fun _ _=>rfl)
theorem zaeg:zaf ZP sg 0 Tryz.f65 @zik 15:=zas zxt good Tryz.func65 zact zab8 zaa (fun a=>by kernel_rfl) (by kernel_rfl) (fun _ _=>rfl)
theorem zaw8:SG ZP sg 65 @za0j:=conD (loops:=zik) good Tryz.func65 zact (by kernel_rfl) zab8 (all_cons zaqj (all_cons zaqk (all_cons zaeg zaa))) (fun a=>by kernel_rfl)
theorem zja:SG ZP sg 165 @zar8:=conE good Tryz.func165 (by kernel_rfl) (by kernel_rfl) cg0 (fun a=>by kernel_rfl)
theorem z3g:SG ZP sg 243 @z8w:=conE good Tryz.func243 (by kernel_rfl) (by kernel_rfl) cg0 (fun a=>by kernel_rfl)
theorem zwb:fnB ZP 242 Tryz.f242 [2]=true:=by kernel_rfl
theorem zawu:CG ZP sg @zak7:=(cgc z3g cg0)
theorem zaqo:zaf ZP sg 0 Tryz.f242 @zya 2:=zas z5e good Tryz.func242 zwb zawu zaa (fun a=>by kernel_rfl) (by kernel_rfl) (fun _ _=>rfl)
theorem zaxb:SG ZP sg 242 @za0k:=conD (loops:=zya) good Tryz.func242 zwb (by kernel_rfl) zawu (all_cons zaqo zaa) (fun a=>by kernel_rfl)
theorem zjb:SG ZP sg 164 @zasx:=conE good Tryz.func164 (by kernel_rfl) (by kernel_rfl) (cgc zaxb (cgc z3g cg0)) (fun a=>by kernel_rfl)
theorem ztf:SG ZP sg 59 @zu8:=conE good Tryz.func59 (by kernel_rfl) (by kernel_rfl) (cgc zjb (cgc zja cg0)) (fun a=>by kernel_rfl)
theorem zax0:fnB ZP 66 Tryz.f66 [2]=true:=by kernel_rfl
theorem zagy:CG ZP sg @zaby:=(cgc ztf cg0)
theorem zad2:zaf ZP sg 0 Tryz.f66 @zr1 2:=zas zxf good Tryz.func66 zax0 zagy zaa (fun a=>by kernel_rfl) (by kernel_rfl) (fun _ _=>rfl)
theorem zamu:SG ZP sg 66 @zasz:=conD (loops:=zr1) good Tryz.func66 zax0 (by kernel_rfl) zagy (all_cons zad2 zaa) (fun a=>by kernel_rfl)
theorem zane:SG ZP sg 197 @z85:=conE good Tryz.func197 (by kernel_rfl) (by kernel_rfl) cg0 (fun a=>by kernel_rfl)
theorem zls:fnB ZP 99 Tryz.f99 [2]=true:=by kernel_rfl
theorem zawq:CG ZP sg @zakz:=(cgc zane cg0)
theorem zaqf:zaf ZP sg 0 Tryz.f99 @zx6 2:=zas z42 good Tryz.func99 zls zawq zaa (fun a=>by kernel_rfl) (by kernel_rfl) (fun _ _=>rfl)
theorem zaw3:SG ZP sg 99 @za0g:=conD (loops:=zx6) good Tryz.func99 zls (by kernel_rfl) zawq (all_cons zaqf zaa) (fun a=>by kernel_rfl)
theorem zs9:SG ZP sg 96 @z8d:=conE good Tryz.func96 (by kernel_rfl) (by kernel_rfl) (cgc zaw3 cg0) (fun a=>by kernel_rfl)
theorem zapx:fnB ZP 67 Tryz.f67 [2,16]=true:=by kernel_rfl
theorem z2m:CG ZP sg @zaa9:=(cgc zf7 (cgc zs9 cg0))
theorem zadd:zaf ZP sg 0 Tryz.f67 @zjy 2:=zas zwq good Tryz.func67 zapx z2m zaa (fun a=>by kernel_rfl) (by kernel_rfl) (fun _ _=>rfl)
theorem z50:zaf ZP sg 0 Tryz.f67 @zjy 16:=zas zqy good Tryz.func67 zapx z2m zaa (fun a=>by kernel_rfl) (by kernel_rfl) (fun _ _=>rfl)
theorem zal5:SG ZP sg 67 @zasa:=conD (loops:=zjy) good Tryz.func67 zapx (by kernel_rfl) z2m (all_cons zadd (all_cons z50 zaa)) (fun a=>by kernel_rfl)
theorem z34:SG ZP sg 20 @zauj:=conE good Tryz.func20 (by kernel_rfl) (by kernel_rfl) (cgc zn8 (cgc zaxh (cgc zaxg (cgc zaw8 (cgc zamu (cgc zal5 cg0)))))) (fun a=>by kernel_rfl)
theorem zalw:SG ZP sg 23 @zar3:=conE good Tryz.func23 (by kernel_rfl) (by kernel_rfl) (cgc z34 (cgc zf7 (cgc z3y (cgc z3w (cgc (sgP zank) (cgc z3i cg0)))))) (fun a=>by kernel_rfl)
theorem zam8:SG ZP sg 186 @z8s:=conE good Tryz.func186 (by kernel_rfl) (by kernel_rfl) cg0 (fun a=>by kernel_rfl)
theorem zv5:CG ZP sg @zy9:=(cgc zam8 cg0)
theorem zz4:zaf ZP sg 0 Tryz.f185 @zj8 2:=zas zmx good Tryz.func185 zwa zv5 zaa (fun a=>by kernel_rfl) (by kernel_rfl) (fun _ _=>rfl)
theorem z36:SG ZP sg 185 @z95:=conD (loops:=zj8) good Tryz.func185 zwa (by kernel_rfl) zv5 (all_cons zz4 zaa) (fun a=>by kernel_rfl)
theorem zani:SG ZP sg 189 @zatl:=conS (loops:=l0) (ids:=[]) good Tryz.func189 (by kernel_rfl) (by kernel_rfl) cg0 zaa (fun a=>by kernel_rfl) (by kernel_rfl)
theorem zann:SG ZP sg 187 @zatm:=conE good Tryz.func187 (by kernel_rfl) (by kernel_rfl) (cgc z3a cg0) (fun a=>by kernel_rfl)
theorem zamk:SG ZP sg 86 @zasq:=conE good Tryz.func86 (by kernel_rfl) (by kernel_rfl) (cgc z25 (cgc z36 (cgc zann (cgc (sgP zanh) (cgc zani cg0))))) (fun a=>by kernel_rfl)
theorem zany:SG ZP sg 25 @zaty:=conE good Tryz.func25 (by kernel_rfl) (by kernel_rfl) (cgc zamk cg0) (fun a=>by kernel_rfl)
theorem zaof:SG ZP sg 60 @zat6:=conE good Tryz.func60 (by kernel_rfl) (by kernel_rfl) (cgc zaoi (cgc zalw (cgc zany cg0))) (fun a=>by kernel_rfl)
theorem zhc:SG ZP sg 88 @zata:=conN (loops:=l0) (ids:=[]) good Tryz.func88 (by kernel_rfl) (by kernel_rfl) cg0 zaa (fun a=>by kernel_rfl)
theorem zht:SG ZP sg 91 @za0p:=conM (loops:=l0) (ids:=[]) good Tryz.func91 (by kernel_rfl) (by kernel_rfl) cg0 zaa (fun a b=>by kernel_rfl)
theorem ztl:SG ZP sg 89 @zatw:=conM (loops:=l0) (ids:=[]) good Tryz.func89 (by kernel_rfl) (by kernel_rfl) (cgc zf7 (cgc zht cg0)) zaa (fun a b=>by kernel_rfl)
theorem zanv:SG ZP sg 192 @zatq:=conS (loops:=l0) (ids:=[]) good Tryz.func192 (by kernel_rfl) (by kernel_rfl) cg0 zaa (fun a=>by kernel_rfl) (by kernel_rfl)
theorem zf8:SG ZP sg 93 @zasv:=conM (loops:=l0) (ids:=[]) good Tryz.func93 (by kernel_rfl) (by kernel_rfl) (cgc z3i (cgc zht (cgc z3z (cgc zanv cg0)))) zaa (fun a b=>by kernel_rfl)
theorem zs7:SG ZP sg 222 @zu6:=conE good Tryz.func222 (by kernel_rfl) (by kernel_rfl) cg0 (fun a=>by kernel_rfl)
theorem z4h:fnB ZP 316 Tryz.f316 [1,4]=true:=by kernel_rfl
theorem zaln:CG ZP sg @zalc:=(cgc zs7 cg0)
theorem z58:zaf ZP sg MA Tryz.f316 @zo6 4:=zas z5m good Tryz.func316 z4h zaln zaa (fun a=>by kernel_rfl) (by kernel_rfl) (fun _ _=>rfl)
theorem zaqu:zaf ZP sg MA Tryz.f316 @zo6 1:=zas z5l good Tryz.func316 z4h zaln (all_cons z58 zaa) (fun a=>by kernel_rfl) (by kernel_rfl) (fun _ _=>rfl)
theorem zaxf:SG ZP sg 316 @zakg:=conI (loops:=zo6) good Tryz.func316 z4h (by kernel_rfl) zaln (all_cons zaqu (all_cons z58 zaa)) (fun a=>by kernel_rfl)
theorem zwc:fnB ZP 291 Tryz.f291 [2,7,9]=true:=by kernel_rfl
theorem zaca:CG ZP sg @zalb:=(cgc zs7 (cgc zaxf (cgc (sgP zam3) cg0)))
theorem zaqs:zaf ZP sg MA Tryz.f291 @zim 2:=zas z5i good Tryz.func291 zwc zaca zaa (fun a=>by kernel_rfl) (by kernel_rfl) (fun _ _=>rfl)
theorem z57:zaf ZP sg MA Tryz.f291 @zim 9:=zas z5k good Tryz.func291 zwc zaca zaa (fun a=>by kernel_rfl) (by kernel_rfl) (fun _ _=>rfl)
theorem zaqt:zaf ZP sg MA Tryz.f291 @zim 7:=zas z5j good Tryz.func291 zwc zaca (all_cons z57 zaa) (fun a=>by kernel_rfl) (by kernel_rfl) (fun _ _=>rfl)
theorem zaxe:SG ZP sg 291 @za0m:=conI (loops:=zim) good Tryz.func291 zwc (by kernel_rfl) zaca (all_cons zaqs (all_cons zaqt (all_cons z57 zaa))) (fun a=>by kernel_rfl)
theorem zang:SG ZP sg 221 @z87:=conI (loops:=l0) (ids:=[]) good Tryz.func221 (by kernel_rfl) (by kernel_rfl) (cgc zs7 (cgc zaxe cg0)) zaa (fun a=>by kernel_rfl)
theorem zahk:fnB ZP 135 Tryz.f135 [3]=true:=by kernel_rfl
theorem zaws:CG ZP sg @zak4:=(cgc zang cg0)
theorem zaql:zaf ZP sg 0 Tryz.f135 @zx8 3:=zas z5a good Tryz.func135 zahk zaws zaa (fun a=>by kernel_rfl) (by kernel_rfl) (fun _ _=>rfl)
theorem zaw9:SG ZP sg 135 @zakc:=conD (loops:=zx8) good Tryz.func135 zahk (by kernel_rfl) zaws (all_cons zaql zaa) (fun a=>by kernel_rfl)
theorem zaxx:fnB ZP 35 Tryz.f35 [3]=true:=by kernel_rfl
theorem zagu:CG ZP sg @zabu:=(cgc zaw9 cg0)
theorem zady:zaf ZP sg 0 Tryz.f35 @zrx 3:=zas zxb good Tryz.func35 zaxx zagu zaa (fun a=>by kernel_rfl) (by kernel_rfl) (fun _ _=>rfl)
theorem zamp:SG ZP sg 35 @zasw:=conD (loops:=zrx) good Tryz.func35 zaxx (by kernel_rfl) zagu (all_cons zady zaa) (fun a=>by kernel_rfl)
theorem zti:SG ZP sg 156 @z9d:=conE good Tryz.func156 (by kernel_rfl) (by kernel_rfl) (cgc zamp cg0) (fun a=>by kernel_rfl)
theorem zaog:SG ZP sg 289 @z9r:=conE good Tryz.func289 (by kernel_rfl) (by kernel_rfl) cg0 (fun a=>by kernel_rfl)
theorem zvy:CG ZP sg @zy1:=(cgc zaog cg0)
theorem zzw:zaf ZP sg 0 Tryz.f99 @zj1 2:=zas zmo good Tryz.func99 zls zvy zaa (fun a=>by kernel_rfl) (by kernel_rfl) (fun _ _=>rfl)
theorem z26:SG ZP sg 99 @z78:=conD (loops:=zj1) good Tryz.func99 zls (by kernel_rfl) zvy (all_cons zzw zaa) (fun a=>by kernel_rfl)
theorem zta:SG ZP sg 217 @zasu:=conE good Tryz.func217 (by kernel_rfl) (by kernel_rfl) (cgc z26 cg0) (fun a=>by kernel_rfl)
theorem ztg:SG ZP sg 128 @zatk:=conE good Tryz.func128 (by kernel_rfl) (by kernel_rfl) (cgc zta cg0) (fun a=>by kernel_rfl)
theorem zanx:SG ZP sg 137 @zatx:=conM (loops:=l0) (ids:=[]) good Tryz.func137 (by kernel_rfl) (by kernel_rfl) (cgc zf8 cg0) zaa (fun a b=>by kernel_rfl)
theorem zaom:SG ZP sg 337 @zaub:=conE good Tryz.func337 (by kernel_rfl) (by kernel_rfl) cg0 (fun a=>by kernel_rfl)
theorem zamm:SG ZP sg 311 @z77:=conE good Tryz.func311 (by kernel_rfl) (by kernel_rfl) (cgc zaom cg0) (fun a=>by kernel_rfl)
theorem zaif:fnB ZP 312 Tryz.f312 [3]=true:=by kernel_rfl
theorem zagt:CG ZP sg @zabt:=cg0
theorem zadx:zaf ZP sg 0 Tryz.f312 @zrw 3:=zas zxa good Tryz.func312 zaif zagt zaa (fun a=>by kernel_rfl) (by kernel_rfl) (fun _ _=>rfl)
theorem zamo:SG ZP sg 312 @z8g:=conD (loops:=zrw) good Tryz.func312 zaif (by kernel_rfl) zagt (all_cons zadx zaa) (fun a=>by kernel_rfl)
theorem zaia:fnB ZP 287 Tryz.f287 [3]=true:=by kernel_rfl
theorem zagk:CG ZP sg @zabk:=(cgc zamm (cgc zamo cg0))
theorem zado:zaf ZP sg 0 Tryz.f287 @zrn 3:=zas zw1 good Tryz.func287 zaia zagk zaa (fun a=>by kernel_rfl) (by kernel_rfl) (fun _ _=>rfl)
theorem zame:SG ZP sg 287 @zasf:=conD (loops:=zrn) good Tryz.func287 zaia (by kernel_rfl) zagk (all_cons zado zaa) (fun a=>by kernel_rfl)
theorem zanp:SG ZP sg 211 @zatn:=conE good Tryz.func211 (by kernel_rfl) (by kernel_rfl) (cgc zame cg0) (fun a=>by kernel_rfl)
theorem zha:SG ZP sg 118 @zasr:=conE good Tryz.func118 (by kernel_rfl) (by kernel_rfl) (cgc zjc (cgc zanp cg0)) (fun a=>by kernel_rfl)
theorem zoa:SG ZP sg 120 @zatc:=conE good Tryz.func120 (by kernel_rfl) (by kernel_rfl) (cgc zn8 cg0) (fun a=>by kernel_rfl)
theorem zaoa:SG ZP sg 345 @zat3:=conE good Tryz.func345 (by kernel_rfl) (by kernel_rfl) cg0 (fun a=>by kernel_rfl)
theorem zaoc:SG ZP sg 324 @z9m:=conE good Tryz.func324 (by kernel_rfl) (by kernel_rfl) (cgc zaoa cg0) (fun a=>by kernel_rfl)
theorem zaok:SG ZP sg 349 @z9s:=conE good Tryz.func349 (by kernel_rfl) (by kernel_rfl) cg0 (fun a=>by kernel_rfl)
theorem zaig:fnB ZP 334 Tryz.f334 [3]=true:=by kernel_rfl
theorem zagn:CG ZP sg @zabn:=(cgc zaoc (cgc zaok cg0))
theorem zadr:zaf ZP sg 0 Tryz.f334 @zrq 3:=zas zw4 good Tryz.func334 zaig zagn zaa (fun a=>by kernel_rfl) (by kernel_rfl) (fun _ _=>rfl)
theorem zamg:SG ZP sg 334 @zask:=conD (loops:=zrq) good Tryz.func334 zaig (by kernel_rfl) zagn (all_cons zadr zaa) (fun a=>by kernel_rfl)
theorem zaie:fnB ZP 308 Tryz.f308 [3]=true:=by kernel_rfl
theorem zagj:CG ZP sg @zabj:=cg0
theorem zadn:zaf ZP sg 0 Tryz.f308 @zrm 3:=zas zw0 good Tryz.func308 zaie zagj zaa (fun a=>by kernel_rfl) (by kernel_rfl) (fun _ _=>rfl)
theorem z2y:SG ZP sg 308 @z73:=conD (loops:=zrm) good Tryz.func308 zaie (by kernel_rfl) zagj (all_cons zadn zaa) (fun a=>by kernel_rfl)
theorem zapj:SG ZP sg 336 @zau1:=conE good Tryz.func336 (by kernel_rfl) (by kernel_rfl) cg0 (fun a=>by kernel_rfl)
theorem ztd:SG ZP sg 310 @z8t:=conE good Tryz.func310 (by kernel_rfl) (by kernel_rfl) (cgc zapj cg0) (fun a=>by kernel_rfl)
theorem z3f:SG ZP sg 304 @zu7:=conE good Tryz.func304 (by kernel_rfl) (by kernel_rfl) (cgc ztc (cgc z2y (cgc ztd (cgc zamg cg0)))) (fun a=>by kernel_rfl)
theorem zah5:fnB ZP 269 Tryz.f269 [2]=true:=by kernel_rfl
theorem zaf4:CG ZP sg @zaay:=(cgc z3f cg0)
theorem zac1:zaf ZP sg 0 Tryz.f269 @zq7 2:=zas zwe good Tryz.func269 zah5 zaf4 zaa (fun a=>by kernel_rfl) (by kernel_rfl) (fun _ _=>rfl)
theorem z2u:SG ZP sg 269 @z7p:=conD (loops:=zq7) good Tryz.func269 zah5 (by kernel_rfl) zaf4 (all_cons zac1 zaa) (fun a=>by kernel_rfl)
theorem zah3:fnB ZP 218 Tryz.f218 [9]=true:=by kernel_rfl
theorem zaf3:CG ZP sg @zaax:=(cgc ztc (cgc z2u cg0))
theorem zac0:zaf ZP sg 0 Tryz.f218 @zq6 9:=zas zwd good Tryz.func218 zah3 zaf3 zaa (fun a=>by kernel_rfl) (by kernel_rfl) (fun _ _=>rfl)
theorem zalv:SG ZP sg 218 @zar2:=conD (loops:=zq6) good Tryz.func218 zah3 (by kernel_rfl) zaf3 (all_cons zac0 zaa) (fun a=>by kernel_rfl)
theorem z32:SG ZP sg 130 @zaua:=conM (loops:=l0) (ids:=[]) good Tryz.func130 (by kernel_rfl) (by kernel_rfl) (cgc zht (cgc zoa (cgc zalv cg0))) zaa (fun a b=>by kernel_rfl)
theorem z3k:SG ZP sg 285 @z81:=conE good Tryz.func285 (by kernel_rfl) (by kernel_rfl) cg0 (fun a=>by kernel_rfl)
theorem zvz:CG ZP sg @zy2:=(cgc z3k cg0)
theorem zzx:zaf ZP sg 0 Tryz.f99 @zj2 2:=zas zmp good Tryz.func99 zls zvz zaa (fun a=>by kernel_rfl) (by kernel_rfl) (fun _ _=>rfl)
theorem z27:SG ZP sg 99 @z79:=conD (loops:=zj2) good Tryz.func99 zls (by kernel_rfl) zvz (all_cons zzx zaa) (fun a=>by kernel_rfl)
theorem zanc:SG ZP sg 117 @zath:=conE good Tryz.func117 (by kernel_rfl) (by kernel_rfl) (cgc z27 (cgc z3k cg0)) (fun a=>by kernel_rfl)
theorem ztk:SG ZP sg 225 @zats:=conS (loops:=l0) (ids:=[]) good Tryz.func225 (by kernel_rfl) (by kernel_rfl) cg0 zaa (fun a=>by kernel_rfl) (by kernel_rfl)
theorem zaox:SG ZP sg 228 @zaum:=conE good Tryz.func228 (by kernel_rfl) (by kernel_rfl) (cgc ztk cg0) (fun a=>by kernel_rfl)
theorem z22:SG ZP sg 205 @zash:=conE good Tryz.func205 (by kernel_rfl) (by kernel_rfl) (cgc zanc (cgc zta (cgc zaox (cgc zs8 cg0)))) (fun a=>by kernel_rfl)
theorem zoc:SG ZP sg 139 @zate:=conM (loops:=l0) (ids:=[]) good Tryz.func139 (by kernel_rfl) (by kernel_rfl) (cgc zht cg0) zaa (fun a b=>by kernel_rfl)
theorem z3r:SG ZP sg 109 @zatu:=conM (loops:=l0) (ids:=[]) good Tryz.func109 (by kernel_rfl) (by kernel_rfl) (cgc zf8 (cgc zha (cgc z32 (cgc zoc (cgc z22 cg0))))) zaa (fun a b=>by kernel_rfl)
theorem ztb:SG ZP sg 110 @z8l:=conM (loops:=l0) (ids:=[]) good Tryz.func110 (by kernel_rfl) (by kernel_rfl) (cgc zf8 (cgc z3r (cgc ztg (cgc zanx (cgc zoc (cgc zti (cgc z22 cg0))))))) zaa (fun a b=>by kernel_rfl)
theorem zaw1:SG ZP sg 136 @za0e:=conM (loops:=l0) (ids:=[]) good Tryz.func136 (by kernel_rfl) (by kernel_rfl) cg0 zaa (fun a b=>by kernel_rfl)
theorem zan0:SG ZP sg 36 @zatz:=conE good Tryz.func36 (by kernel_rfl) (by kernel_rfl) (cgc zhc (cgc ztl (cgc zf8 (cgc ztb (cgc zaw1 cg0))))) (fun a=>by kernel_rfl)
theorem zaxy:fnB ZP 45 Tryz.f45 [3]=true:=by kernel_rfl
theorem zagl:CG ZP sg @zabl:=cg0
theorem zadp:zaf ZP sg 0 Tryz.f45 @zro 3:=zas zw2 good Tryz.func45 zaxy zagl zaa (fun a=>by kernel_rfl) (by kernel_rfl) (fun _ _=>rfl)
theorem z23:SG ZP sg 45 @zasi:=conD (loops:=zro) good Tryz.func45 zaxy (by kernel_rfl) zagl (all_cons zadp zaa) (fun a=>by kernel_rfl)
theorem zahx:fnB ZP 190 Tryz.f190 [3]=true:=by kernel_rfl
theorem zawp:CG ZP sg @zakx:=cg0
theorem zaqc:zaf ZP sg 0 Tryz.f190 @zx5 3:=zas z4y good Tryz.func190 zahx zawp zaa (fun a=>by kernel_rfl) (by kernel_rfl) (fun _ _=>rfl)
theorem z2t:SG ZP sg 190 @z7o:=conD (loops:=zx5) good Tryz.func190 zahx (by kernel_rfl) zawp (all_cons zaqc zaa) (fun a=>by kernel_rfl)
theorem zah0:fnB ZP 210 Tryz.f210 [3]=true:=by kernel_rfl
theorem zage:CG ZP sg @zabe:=(cgc z2t cg0)
theorem zadi:zaf ZP sg 0 Tryz.f210 @zrh 3:=zas zwv good Tryz.func210 zah0 zage zaa (fun a=>by kernel_rfl) (by kernel_rfl) (fun _ _=>rfl)
theorem zal9:SG ZP sg 210 @zasd:=conD (loops:=zrh) good Tryz.func210 zah0 (by kernel_rfl) zage (all_cons zadi zaa) (fun a=>by kernel_rfl)
theorem zahz:fnB ZP 209 Tryz.f209 [3]=true:=by kernel_rfl
theorem zagp:CG ZP sg @zabp:=cg0
theorem zadt:zaf ZP sg 0 Tryz.f209 @zrs 3:=zas zw6 good Tryz.func209 zahz zagp zaa (fun a=>by kernel_rfl) (by kernel_rfl) (fun _ _=>rfl)
theorem zamn:SG ZP sg 209 @zast:=conD (loops:=zrs) good Tryz.func209 zahz (by kernel_rfl) zagp (all_cons zadt zaa) (fun a=>by kernel_rfl)
theorem zth:SG ZP sg 115 @z89:=conE good Tryz.func115 (by kernel_rfl) (by kernel_rfl) (cgc z23 (cgc zamn (cgc zal9 cg0))) (fun a=>by kernel_rfl)
theorem zah6:fnB ZP 270 Tryz.f270 [2]=true:=by kernel_rfl
theorem zag0:CG ZP sg @zab0:=(cgc z3f cg0)
theorem zad4:zaf ZP sg 0 Tryz.f270 @zr3 2:=zas zxh good Tryz.func270 zah6 zag0 zaa (fun a=>by kernel_rfl) (by kernel_rfl) (fun _ _=>rfl)
theorem zamw:SG ZP sg 270 @zas1:=conD (loops:=zr3) good Tryz.func270 zah6 (by kernel_rfl) zag0 (all_cons zad4 zaa) (fun a=>by kernel_rfl)
theorem z3o:SG ZP sg 191 @zatj:=conE good Tryz.func191 (by kernel_rfl) (by kernel_rfl) (cgc z24 (cgc z2u (cgc zamw cg0))) (fun a=>by kernel_rfl)
theorem zaoo:SG ZP sg 92 @zauc:=conE good Tryz.func92 (by kernel_rfl) (by kernel_rfl) (cgc zth (cgc zha (cgc zoa (cgc ztg (cgc zti (cgc z2t (cgc z3o cg0))))))) (fun a=>by kernel_rfl)
theorem z3m:SG ZP sg 193 @z83:=conE good Tryz.func193 (by kernel_rfl) (by kernel_rfl) cg0 (fun a=>by kernel_rfl)
theorem zv4:CG ZP sg @zy8:=(cgc z3m cg0)
theorem zz3:zaf ZP sg 0 Tryz.f242 @zj7 2:=zas zmw good Tryz.func242 zwb zv4 zaa (fun a=>by kernel_rfl) (by kernel_rfl) (fun _ _=>rfl)
theorem z35:SG ZP sg 242 @z93:=conD (loops:=zj7) good Tryz.func242 zwb (by kernel_rfl) zv4 (all_cons zz3 zaa) (fun a=>by kernel_rfl)
theorem zzc:SG ZP sg 164 @z07:=conE good Tryz.func164 (by kernel_rfl) (by kernel_rfl) (cgc z3m (cgc z35 cg0)) (fun a=>by kernel_rfl)
theorem ztj:SG ZP sg 196 @zatr:=conS (loops:=l0) (ids:=[]) good Tryz.func196 (by kernel_rfl) (by kernel_rfl) cg0 zaa (fun a=>by kernel_rfl) (by kernel_rfl)
theorem z3h:SG ZP sg 194 @zatb:=conE good Tryz.func194 (by kernel_rfl) (by kernel_rfl) (cgc z3b cg0) (fun a=>by kernel_rfl)
theorem zami:SG ZP sg 95 @zasm:=conE good Tryz.func95 (by kernel_rfl) (by kernel_rfl) (cgc (sgi (ac:=zako) zjb (sgi (ac:=znt) zzc sg0)) (cgc zja (cgc z3h (cgc (sgP zanj) (cgc ztj cg0))))) (fun a=>by kernel_rfl)
theorem zob:SG ZP sg 94 @zatd:=conM (loops:=l0) (ids:=[]) good Tryz.func94 (by kernel_rfl) (by kernel_rfl) (cgc zht cg0) zaa (fun a b=>by kernel_rfl)
theorem zaop:SG ZP sg 198 @zaud:=conE good Tryz.func198 (by kernel_rfl) (by kernel_rfl) (cgc zta (cgc ztk (cgc (sgP zanm) cg0))) (fun a=>by kernel_rfl)
theorem zan8:SG ZP sg 97 @zat2:=conM (loops:=l0) (ids:=[]) good Tryz.func97 (by kernel_rfl) (by kernel_rfl) (cgc zoc (cgc zaop cg0)) zaa (fun a b=>by kernel_rfl)
theorem zi9:SG ZP sg 98 @zar7:=conM (loops:=l0) (ids:=[]) good Tryz.func98 (by kernel_rfl) (by kernel_rfl) cg0 zaa (fun a b=>by kernel_rfl)
theorem zn9:SG ZP sg 101 @z8y:=conE good Tryz.func101 (by kernel_rfl) (by kernel_rfl) cg0 (fun a=>by kernel_rfl)
theorem zanr:SG ZP sg 100 @z9b:=conE good Tryz.func100 (by kernel_rfl) (by kernel_rfl) (cgc zn9 cg0) (fun a=>by kernel_rfl)
theorem zv0:CG ZP sg @zy3:=(cgc zanr cg0)
theorem zzy:zaf ZP sg 0 Tryz.f99 @zj3 2:=zas zmq good Tryz.func99 zls zv0 zaa (fun a=>by kernel_rfl) (by kernel_rfl) (fun _ _=>rfl)
theorem z28:SG ZP sg 99 @z8a:=conD (loops:=zj3) good Tryz.func99 zls (by kernel_rfl) zv0 (all_cons zzy zaa) (fun a=>by kernel_rfl)
theorem zams:SG ZP sg 27 @zasy:=conE good Tryz.func27 (by kernel_rfl) (by kernel_rfl) (cgc zhc (cgc ztl (cgc zjc (cgc zht (cgc zaoo (cgc zf8 (cgc zob (cgc zami (cgc zs9 (cgc zan8 (cgc zi9 (cgc z28 cg0)))))))))))) (fun a=>by kernel_rfl)
theorem zaoq:SG ZP sg 224 @zaue:=conE good Tryz.func224 (by kernel_rfl) (by kernel_rfl) cg0 (fun a=>by kernel_rfl)
theorem zam5:SG ZP sg 223 @z8o:=conE good Tryz.func223 (by kernel_rfl) (by kernel_rfl) (cgc zn9 (cgc zaoq cg0)) (fun a=>by kernel_rfl)
theorem zv3:CG ZP sg @zy7:=(cgc zam5 cg0)
theorem zz2:zaf ZP sg 0 Tryz.f80 @zj6 2:=zas zmv good Tryz.func80 zzo zv3 zaa (fun a=>by kernel_rfl) (by kernel_rfl) (fun _ _=>rfl)
theorem z3x:SG ZP sg 80 @zsn:=conD (loops:=zj6) good Tryz.func80 zzo (by kernel_rfl) zv3 (all_cons zz2 zaa) (fun a=>by kernel_rfl)
theorem zahl:fnB ZP 138 Tryz.f138 [9]=true:=by kernel_rfl
theorem zawx:CG ZP sg @zalf:=(cgc zf7 (cgc z3x (cgc zth (cgc z2t cg0))))
theorem zaqx:zaf ZP sg 0 Tryz.f138 @zyd 9:=zas z5p good Tryz.func138 zahl zawx zaa (fun a=>by kernel_rfl) (by kernel_rfl) (fun _ _=>rfl)
theorem zaxi:SG ZP sg 138 @za0q:=conD (loops:=zyd) good Tryz.func138 zahl (by kernel_rfl) zawx (all_cons zaqx zaa) (fun a=>by kernel_rfl)
theorem zaou:SG ZP sg 140 @zaui:=conE good Tryz.func140 (by kernel_rfl) (by kernel_rfl) (cgc zag8 (cgc ztk cg0)) (fun a=>by kernel_rfl)
theorem zahm:fnB ZP 141 Tryz.f141 [1]=true:=by kernel_rfl
theorem zagz:CG ZP sg @zabz:=(cgc ztb (cgc zti cg0))
theorem zad3:zaf ZP sg 1 Tryz.f141 @zr2 1:=zas zxg good Tryz.func141 zahm zagz zaa (fun a=>by kernel_rfl) (by kernel_rfl) (fun _ _=>rfl)
theorem zamv:SG ZP sg 141 @zas0:=conM (loops:=zr2) good Tryz.func141 zahm (by kernel_rfl) zagz (all_cons zad3 zaa) (fun a b=>by kernel_rfl)
theorem zaow:SG ZP sg 40 @zaul:=conE good Tryz.func40 (by kernel_rfl) (by kernel_rfl) (cgc zhc (cgc zjc (cgc zi9 (cgc zha (cgc zaxi (cgc zoc (cgc zaou (cgc zamv cg0)))))))) (fun a=>by kernel_rfl)
theorem z3l:SG ZP sg 116 @z82:=conE good Tryz.func116 (by kernel_rfl) (by kernel_rfl) (cgc zn9 cg0) (fun a=>by kernel_rfl)
theorem zv1:CG ZP sg @zy4:=(cgc z3l cg0)
theorem zzz:zaf ZP sg 0 Tryz.f99 @zj4 2:=zas zmr good Tryz.func99 zls zv1 zaa (fun a=>by kernel_rfl) (by kernel_rfl) (fun _ _=>rfl)
theorem z29:SG ZP sg 99 @z8b:=conD (loops:=zj4) good Tryz.func99 zls (by kernel_rfl) zv1 (all_cons zzz zaa) (fun a=>by kernel_rfl)
theorem zzd:SG ZP sg 117 @z08:=conE good Tryz.func117 (by kernel_rfl) (by kernel_rfl) (cgc z29 (cgc z3l cg0)) (fun a=>by kernel_rfl)
theorem zaoe:SG ZP sg 119 @zat5:=conE good Tryz.func119 (by kernel_rfl) (by kernel_rfl) (cgc z3o cg0) (fun a=>by kernel_rfl)
theorem z3s:SG ZP sg 212 @zatv:=conE good Tryz.func212 (by kernel_rfl) (by kernel_rfl) (cgc ztj cg0) (fun a=>by kernel_rfl)
theorem zapi:SG ZP sg 121 @zau0:=conE good Tryz.func121 (by kernel_rfl) (by kernel_rfl) (cgc zjb (cgc zja (cgc z3h (cgc z3s cg0)))) (fun a=>by kernel_rfl)
theorem z3d:SG ZP sg 31 @zas4:=conE good Tryz.func31 (by kernel_rfl) (by kernel_rfl) (cgc ztf (cgc zf7 (cgc zhc (cgc zjc (cgc zob (cgc zi9 (cgc zth (cgc zzd (cgc zha (cgc zaoe (cgc zoa (cgc zapi cg0)))))))))))) (fun a=>by kernel_rfl)
theorem zahh:fnB ZP 129 Tryz.f129 [2]=true:=by kernel_rfl
theorem zago:CG ZP sg @zabo:=(cgc ztf (cgc zn9 cg0))
theorem zads:zaf ZP sg 0 Tryz.f129 @zrr 2:=zas zw5 good Tryz.func129 zahh zago zaa (fun a=>by kernel_rfl) (by kernel_rfl) (fun _ _=>rfl)
theorem zamh:SG ZP sg 129 @zasl:=conD (loops:=zrr) good Tryz.func129 zahh (by kernel_rfl) zago (all_cons zads zaa) (fun a=>by kernel_rfl)
theorem zaph:SG ZP sg 131 @zauz:=conE good Tryz.func131 (by kernel_rfl) (by kernel_rfl) (cgc zjb (cgc zja (cgc z3s (cgc z3v cg0)))) (fun a=>by kernel_rfl)
theorem z33:SG ZP sg 33 @zauf:=conE good Tryz.func33 (by kernel_rfl) (by kernel_rfl) (cgc zhc (cgc zob (cgc zi9 (cgc zha (cgc ztg (cgc zamh (cgc z32 (cgc zaph cg0)))))))) (fun a=>by kernel_rfl)
theorem zao9:SG ZP sg 234 @zaur:=conE good Tryz.func234 (by kernel_rfl) (by kernel_rfl) (cgc ztj (cgc (sgP zanl) cg0)) (fun a=>by kernel_rfl)
theorem zaov:SG ZP sg 154 @zauk:=conE good Tryz.func154 (by kernel_rfl) (by kernel_rfl) (cgc zjb (cgc zja (cgc zao9 cg0))) (fun a=>by kernel_rfl)
theorem zaon:SG ZP sg 309 @z9u:=conE good Tryz.func309 (by kernel_rfl) (by kernel_rfl) (cgc ztd cg0) (fun a=>by kernel_rfl)
theorem z4f:fnB ZP 281 Tryz.f281 [7,13]=true:=by kernel_rfl
theorem z2n:CG ZP sg @zaba:=(cgc z2y (cgc zaon (cgc ztd cg0)))
theorem zade:zaf ZP sg 0 Tryz.f281 @zjz 7:=zas zwr good Tryz.func281 z4f z2n zaa (fun a=>by kernel_rfl) (by kernel_rfl) (fun _ _=>rfl)
theorem z51:zaf ZP sg 0 Tryz.f281 @zjz 13:=zas zqz good Tryz.func281 z4f z2n zaa (fun a=>by kernel_rfl) (by kernel_rfl) (fun _ _=>rfl)
theorem zal6:SG ZP sg 281 @zasb:=conD (loops:=zjz) good Tryz.func281 z4f (by kernel_rfl) z2n (all_cons zade (all_cons z51 zaa)) (fun a=>by kernel_rfl)
theorem zapm:SG ZP sg 203 @zau4:=conE good Tryz.func203 (by kernel_rfl) (by kernel_rfl) (cgc zaha (cgc z30 (cgc zal6 cg0))) (fun a=>by kernel_rfl)
theorem zanu:SG ZP sg 226 @zatp:=conE good Tryz.func226 (by kernel_rfl) (by kernel_rfl) (cgc z3c cg0) (fun a=>by kernel_rfl)
theorem zapa:SG ZP sg 149 @zaus:=conM (loops:=l0) (ids:=[]) good Tryz.func149 (by kernel_rfl) (by kernel_rfl) (cgc zht (cgc zanu cg0)) zaa (fun a b=>by kernel_rfl)
theorem zam7:SG ZP sg 283 @z8r:=conE good Tryz.func283 (by kernel_rfl) (by kernel_rfl) cg0 (fun a=>by kernel_rfl)
theorem zah9:fnB ZP 282 Tryz.f282 [2]=true:=by kernel_rfl
theorem zaf5:CG ZP sg @zaaz:=(cgc zam7 cg0)
theorem zac2:zaf ZP sg 0 Tryz.f282 @zq8 2:=zas zwf good Tryz.func282 zah9 zaf5 zaa (fun a=>by kernel_rfl) (by kernel_rfl) (fun _ _=>rfl)
theorem zalx:SG ZP sg 282 @zar4:=conD (loops:=zq8) good Tryz.func282 zah9 (by kernel_rfl) zaf5 (all_cons zac2 zaa) (fun a=>by kernel_rfl)
theorem zamj:SG ZP sg 204 @zasp:=conE good Tryz.func204 (by kernel_rfl) (by kernel_rfl) (cgc zalx cg0) (fun a=>by kernel_rfl)
theorem zao8:SG ZP sg 108 @zauq:=conM (loops:=l0) (ids:=[]) good Tryz.func108 (by kernel_rfl) (by kernel_rfl) (cgc zf8 (cgc zob (cgc zha (cgc zoa (cgc zapa (cgc zaov (cgc zapm (cgc zamj cg0)))))))) zaa (fun a b=>by kernel_rfl)
theorem zao5:SG ZP sg 29 @zaup:=conE good Tryz.func29 (by kernel_rfl) (by kernel_rfl) (cgc zhc (cgc ztl (cgc zht (cgc zf8 (cgc zs9 (cgc zi9 (cgc zao8 (cgc z3r (cgc ztb cg0))))))))) (fun a=>by kernel_rfl)
theorem zao0:SG ZP sg 15 @zauo:=conE good Tryz.func15 (by kernel_rfl) (by kernel_rfl) (cgc z34 (cgc zams (cgc zao5 (cgc z3d (cgc z33 (cgc zan0 (cgc zaow (cgc z23 (cgc zaof cg0))))))))) (fun a=>by kernel_rfl)
theorem zah1:fnB ZP 214 Tryz.f214 [3]=true:=by kernel_rfl
theorem zag6:CG ZP sg @zab6:=cg0
theorem zad9:zaf ZP sg 0 Tryz.f214 @zr9 3:=zas zxm good Tryz.func214 zah1 zag6 zaa (fun a=>by kernel_rfl) (by kernel_rfl) (fun _ _=>rfl)
theorem zam2:SG ZP sg 214 @zas8:=conD (loops:=zr9) good Tryz.func214 zah1 (by kernel_rfl) zag6 (all_cons zad9 zaa) (fun a=>by kernel_rfl)
theorem zah2:fnB ZP 215 Tryz.f215 [3]=true:=by kernel_rfl
theorem zag5:CG ZP sg @zab5:=cg0
theorem zad8:zaf ZP sg 0 Tryz.f215 @zr8 3:=zas zxl good Tryz.func215 zah2 zag5 zaa (fun a=>by kernel_rfl) (by kernel_rfl) (fun _ _=>rfl)
theorem zam1:SG ZP sg 215 @zas7:=conD (loops:=zr8) good Tryz.func215 zah2 (by kernel_rfl) zag5 (all_cons zad8 zaa) (fun a=>by kernel_rfl)
theorem zapg:SG ZP sg 213 @zauy:=conE good Tryz.func213 (by kernel_rfl) (by kernel_rfl) cg0 (fun a=>by kernel_rfl)
theorem zaod:SG ZP sg 123 @z9n:=conE good Tryz.func123 (by kernel_rfl) (by kernel_rfl) (cgc zhb (cgc zapg (cgc zam2 (cgc zam1 cg0)))) (fun a=>by kernel_rfl)
theorem z3u:SG ZP sg 106 @zva:=conE good Tryz.func106 (by kernel_rfl) (by kernel_rfl) cg0 (fun a=>by kernel_rfl)
theorem zao6:SG ZP sg 313 @z91:=conE good Tryz.func313 (by kernel_rfl) (by kernel_rfl) cg0 (fun a=>by kernel_rfl)
theorem zaos:SG ZP sg 314 @z9v:=conE good Tryz.func314 (by kernel_rfl) (by kernel_rfl) cg0 (fun a=>by kernel_rfl)
theorem zaib:fnB ZP 288 Tryz.f288 [3]=true:=by kernel_rfl
theorem zag4:CG ZP sg @zab4:=(cgc zao6 (cgc zaos cg0))
theorem zad7:zaf ZP sg 0 Tryz.f288 @zr7 3:=zas zxk good Tryz.func288 zaib zag4 zaa (fun a=>by kernel_rfl) (by kernel_rfl) (fun _ _=>rfl)
theorem zam0:SG ZP sg 288 @zas6:=conD (loops:=zr7) good Tryz.func288 zaib (by kernel_rfl) zag4 (all_cons zad7 zaa) (fun a=>by kernel_rfl)
theorem zapn:SG ZP sg 216 @zau5:=conE good Tryz.func216 (by kernel_rfl) (by kernel_rfl) (cgc zam0 cg0) (fun a=>by kernel_rfl)
theorem z3t:SG ZP sg 124 @zu9:=conE good Tryz.func124 (by kernel_rfl) (by kernel_rfl) (cgc zhb (cgc zapn cg0)) (fun a=>by kernel_rfl)
theorem zag9:SG ZP sg 126 @z94:=conE good Tryz.func126 (by kernel_rfl) (by kernel_rfl) cg0 (fun a=>by kernel_rfl)
theorem zaoy:SG ZP sg 338 @zaun:=conE good Tryz.func338 (by kernel_rfl) (by kernel_rfl) cg0 (fun a=>by kernel_rfl)
theorem zaoz:SG ZP sg 315 @z9w:=conE good Tryz.func315 (by kernel_rfl) (by kernel_rfl) (cgc zaoy cg0) (fun a=>by kernel_rfl)
theorem z4g:fnB ZP 290 Tryz.f290 [6,12]=true:=by kernel_rfl
theorem zalq:CG ZP sg @zalk:=(cgc zaoz cg0)
theorem zaq2:zaf ZP sg 0 Tryz.f290 @zo9 6:=zas z5v good Tryz.func290 z4g zalq zaa (fun a=>by kernel_rfl) (by kernel_rfl) (fun _ _=>rfl)
theorem zaen:zaf ZP sg 0 Tryz.f290 @zo9 12:=zas zx1 good Tryz.func290 z4g zalq zaa (fun a=>by kernel_rfl) (by kernel_rfl) (fun _ _=>rfl)
theorem zahb:SG ZP sg 290 @z96:=conD (loops:=zo9) good Tryz.func290 z4g (by kernel_rfl) zalq (all_cons zaq2 (all_cons zaen zaa)) (fun a=>by kernel_rfl)
theorem zah4:fnB ZP 220 Tryz.f220 [2]=true:=by kernel_rfl
theorem zaf8:CG ZP sg @zaa2:=(cgc zahb cg0)
theorem zac5:zaf ZP sg 0 Tryz.f220 @zrb 2:=zas zwi good Tryz.func220 zah4 zaf8 zaa (fun a=>by kernel_rfl) (by kernel_rfl) (fun _ _=>rfl)
theorem z2v:SG ZP sg 220 @z7s:=conD (loops:=zrb) good Tryz.func220 zah4 (by kernel_rfl) zaf8 (all_cons zac5 zaa) (fun a=>by kernel_rfl)
theorem zah7:fnB ZP 274 Tryz.f274 [2]=true:=by kernel_rfl
theorem zag2:CG ZP sg @zab2:=(cgc zahb cg0)
theorem zad6:zaf ZP sg 0 Tryz.f274 @zr5 2:=zas zxj good Tryz.func274 zah7 zag2 zaa (fun a=>by kernel_rfl) (by kernel_rfl) (fun _ _=>rfl)
theorem zamy:SG ZP sg 274 @zas3:=conD (loops:=zr5) good Tryz.func274 zah7 (by kernel_rfl) zag2 (all_cons zad6 zaa) (fun a=>by kernel_rfl)
theorem zapo:SG ZP sg 199 @zau6:=conE good Tryz.func199 (by kernel_rfl) (by kernel_rfl) (cgc z2v (cgc z2z (cgc zamy cg0))) (fun a=>by kernel_rfl)
theorem zao4:SG ZP sg 125 @z90:=conE good Tryz.func125 (by kernel_rfl) (by kernel_rfl) (cgc zapo cg0) (fun a=>by kernel_rfl)
theorem zapf:SG ZP sg 202 @zaux:=conE good Tryz.func202 (by kernel_rfl) (by kernel_rfl) (cgc z2w cg0) (fun a=>by kernel_rfl)
theorem zao3:SG ZP sg 127 @z9z:=conE good Tryz.func127 (by kernel_rfl) (by kernel_rfl) (cgc zs5 (cgc zapf cg0)) (fun a=>by kernel_rfl)
theorem zaxv:fnB ZP 32 Tryz.f32 [10]=true:=by kernel_rfl
theorem zag3:CG ZP sg @zab3:=(cgc zhb (cgc zqa (cgc z3u (cgc zte (cgc zaod (cgc z3t (cgc zao4 (cgc zag9 (cgc zao3 cg0)))))))))
theorem z54:zaf ZP sg 0 Tryz.f32 @zr6 10:=zas zq1 good Tryz.func32 zaxv zag3 zaa (fun a=>by kernel_rfl) (by kernel_rfl) (fun _ _=>rfl)
theorem zamz:SG ZP sg 32 @zas5:=conD (loops:=zr6) good Tryz.func32 zaxv (by kernel_rfl) zag3 (all_cons z54 zaa) (fun a=>by kernel_rfl)
theorem zahi:fnB ZP 132 Tryz.f132 [2]=true:=by kernel_rfl
theorem zagx:CG ZP sg @zabx:=cg0
theorem zad1:zaf ZP sg 0 Tryz.f132 @zr0 2:=zas zxe good Tryz.func132 zahi zagx zaa (fun a=>by kernel_rfl) (by kernel_rfl) (fun _ _=>rfl)
theorem zamt:SG ZP sg 132 @z8j:=conD (loops:=zr0) good Tryz.func132 zahi (by kernel_rfl) zagx (all_cons zad1 zaa) (fun a=>by kernel_rfl)
theorem zahj:fnB ZP 133 Tryz.f133 [9]=true:=by kernel_rfl
theorem zagw:CG ZP sg @zabw:=(cgc z2v cg0)
theorem zad0:zaf ZP sg 0 Tryz.f133 @zrz 9:=zas zxd good Tryz.func133 zahj zagw zaa (fun a=>by kernel_rfl) (by kernel_rfl) (fun _ _=>rfl)
theorem zamr:SG ZP sg 133 @z8i:=conD (loops:=zrz) good Tryz.func133 zahj (by kernel_rfl) zagw (all_cons zad0 zaa) (fun a=>by kernel_rfl)
theorem zao1:SG ZP sg 134 @z9x:=conE good Tryz.func134 (by kernel_rfl) (by kernel_rfl) (cgc zs5 cg0) (fun a=>by kernel_rfl)
theorem zaxw:fnB ZP 34 Tryz.f34 [8]=true:=by kernel_rfl
theorem zag1:CG ZP sg @zab1:=(cgc zqa (cgc z3u (cgc zte (cgc z3t (cgc zag9 (cgc zamt (cgc zamr (cgc zao1 cg0))))))))
theorem zad5:zaf ZP sg 0 Tryz.f34 @zr4 8:=zas zxi good Tryz.func34 zaxw zag1 zaa (fun a=>by kernel_rfl) (by kernel_rfl) (fun _ _=>rfl)
theorem zamx:SG ZP sg 34 @zas2:=conD (loops:=zr4) good Tryz.func34 zaxw (by kernel_rfl) zag1 (all_cons zad5 zaa) (fun a=>by kernel_rfl)
theorem zapw:fnB ZP 61 Tryz.f61 [2,7]=true:=by kernel_rfl
theorem zalo:CG ZP sg @zalh:=cg0
theorem z59:zaf ZP sg 0 Tryz.f61 @zo7 7:=zas z5s good Tryz.func61 zapw zalo zaa (fun a=>by kernel_rfl) (by kernel_rfl) (fun _ _=>rfl)
theorem zaqz:zaf ZP sg 0 Tryz.f61 @zo7 2:=zas z5r good Tryz.func61 zapw zalo (all_cons z59 zaa) (fun a=>by kernel_rfl) (by kernel_rfl) (fun _ _=>rfl)
theorem zaxj:SG ZP sg 61 @zaki:=conD (loops:=zo7) good Tryz.func61 zapw (by kernel_rfl) zalo (all_cons zaqz (all_cons z59 zaa)) (fun a=>by kernel_rfl)
theorem zqi:fnB ZP 16 Tryz.f16 [6,11,16,21,26,31,36]=true:=by kernel_rfl
theorem zp2:CG ZP sg @zak0:=(cgc zaxj cg0)
theorem zaqg:zaf ZP sg 0 Tryz.f16 @zd9 6:=zas z43 good Tryz.func16 zqi zp2 zaa (fun a=>by kernel_rfl) (by kernel_rfl) (fun _ _=>rfl)
theorem zaea:zaf ZP sg 0 Tryz.f16 @zd9 11:=zas zxn good Tryz.func16 zqi zp2 zaa (fun a=>by kernel_rfl) (by kernel_rfl) (fun _ _=>rfl)
theorem zaeb:zaf ZP sg 0 Tryz.f16 @zd9 16:=zas zxo good Tryz.func16 zqi zp2 zaa (fun a=>by kernel_rfl) (by kernel_rfl) (fun _ _=>rfl)
theorem zaec:zaf ZP sg 0 Tryz.f16 @zd9 21:=zas zxp good Tryz.func16 zqi zp2 zaa (fun a=>by kernel_rfl) (by kernel_rfl) (fun _ _=>rfl)
theorem zaed:zaf ZP sg 0 Tryz.f16 @zd9 26:=zas zxq good Tryz.func16 zqi zp2 zaa (fun a=>by kernel_rfl) (by kernel_rfl) (fun _ _=>rfl)
theorem zaee:zaf ZP sg 0 Tryz.f16 @zd9 31:=zas zxr good Tryz.func16 zqi zp2 zaa (fun a=>by kernel_rfl) (by kernel_rfl) (fun _ _=>rfl)
theorem zaef:zaf ZP sg 0 Tryz.f16 @zd9 36:=zas zxs good Tryz.func16 zqi zp2 zaa (fun a=>by kernel_rfl) (by kernel_rfl) (fun _ _=>rfl)
theorem zaw4:SG ZP sg 16 @za0h:=conD (loops:=zd9) good Tryz.func16 zqi (by kernel_rfl) zp2 (all_cons zaqg (all_cons zaea (all_cons zaeb (all_cons zaec (all_cons zaed (all_cons zaee (all_cons zaef zaa))))))) (fun a=>by kernel_rfl)
theorem zanw:SG ZP sg 7 @zatt:=conE good Tryz.func7 (by kernel_rfl) (by kernel_rfl) (cgc zao0 (cgc zaw4 (cgc zapl (cgc z3d (cgc zamz (cgc z33 (cgc zamx cg0))))))) (fun a=>by kernel_rfl)
end Go.Proofs.YtdahfgialanmpaaGreatDoor
namespace Go.Proofs.YtdahfgialanmpaaGreatDoor
open Ev
open Go (IntKind)
section
variable {α β σ X:Type}
theorem zzt {step:α→Option (α⊕β)}:∀{n m:Nat} {a:α} {b:β},n≤m→zbh step n a=some b→zbh step m a=some b:=by
 intro n
 induction n with
 |zero=>intro m a b _ h;cases h
 |succ n ih=>
  intro m a b hm h
  obtain ⟨m,rfl⟩:∃k,m=k+1:=⟨m-1,by omega⟩
  simp only[zbh]at h ⊢
  cases h1:step a with
  |none=>rw[h1]at h;cases h
  |some x=>
   rw[h1]at h
   cases x with
   |inl a'=>exact ih (by omega) h
   |inr b'=>exact h
theorem zci {step:α→Option (α⊕β)} {a:α} {b:β} (n:Nat) (hn:n≤FUEL) (h:zbh step n a=some b):zae step a=some b:=zzt hn h
theorem zaae {step:α→Option (α⊕β)} (Inv:α→Prop) (μ:α→Nat) (f:α→β)
 (h:∀a,Inv a→(∃a',step a=some (.inl a')∧Inv a'∧μ a'<μ a∧f a'=f a)∨step a=some (.inr (f a))) {a:α} (ha:Inv a) (hm:μ a<FUEL):zae step a=some (f a):=by
 have key:∀n a,Inv a→μ a<n→zbh step n a=some (f a):=by
  intro n
  induction n with
  |zero=>intro a _ h;omega
  |succ n ih=>
   intro a hi hn
   simp only[zbh]
   rcases h a hi with ⟨a',h1,h2,h3,h4⟩|h1
   ·rw[h1];simp only;rw[ih a' h2 (by omega),h4]
   ·rw[h1]
 exact key FUEL a ha hm
def zdl (f:Nat→X→σ→σ⊕β) (fin:σ→β):Nat→List X→σ→β
 |_,[],s=>fin s
 |i,x::l,s=>match f i x s with
  |.inl s'=>zdl f fin (i+1) l s'
  |.inr b=>b
theorem zbz {step:α→Option (α⊕β)} (Inv:Nat→σ→Prop) (enc:Nat→σ→α) (l:List X) (f:Nat→X→σ→σ⊕β) (fin:σ→β) (hl:l.length<FUEL)
 (h0:∀s,Inv l.length s→step (enc l.length s)=some (.inr (fin s)))
 (h1:∀i x s,l[i]?=some x→Inv i s→(step (enc i s)=some (match f i x s with | .inl s'=>.inl (enc (i+1) s') | .inr b=>.inr b))∧∀s',f i x s=.inl s'→Inv (i+1) s')
 (s:σ) (hs:Inv 0 s):zae step (enc 0 s)=some (zdl f fin 0 l s):=by
 have key:∀k i s,i+k=l.length→Inv i s→zbh step (k+1) (enc i s)=some (zdl f fin i (l.drop i) s):=by
  intro k
  induction k with
  |zero=>
   intro i s hi hs
   have:i=l.length:=by omega
   subst this
   rw[List.drop_length]
   simp only[zbh,h0 s hs,zdl]
  |succ k ih=>
   intro i s hi hs
   have hlt:i<l.length:=by omega
   obtain ⟨e1,e2⟩:=h1 i l[i] s (List.getElem?_eq_getElem hlt) hs
   rw[List.drop_eq_getElem_cons hlt]
   rw[zbh,e1]
   simp only[zdl]
   cases hf:f i l[i] s with
   |inl s'=>simp only;exact ih (i+1) s' (by omega) (e2 s' hf)
   |inr b=>rfl
 have:=key l.length 0 s (by omega) hs
 exact zci (l.length+1) (by omega) (by simpa using this)
theorem zd3 {step:α→Option (α⊕β)} (enc:Nat→σ→α) (l:List X) (f:Nat→X→σ→σ⊕β) (fin:σ→β) (hl:l.length<FUEL)
 (h0:∀s,step (enc l.length s)=some (.inr (fin s)))
 (h1:∀i x s,l[i]?=some x→step (enc i s)=some (match f i x s with | .inl s'=>.inl (enc (i+1) s') | .inr b=>.inr b))
 (s:σ):zae step (enc 0 s)=some (zdl f fin 0 l s):=
 zbz (fun _ _=>True) enc l f fin hl (fun s _=>h0 s) (fun i x s hx _=>⟨h1 i x s hx,fun _ _=>trivial⟩) s trivial
def fIdx (p:X→Bool) (l:List X):Int:=match l.findIdx? p with|some i=>(i:Int)|none=>-1
def zb6 (f:Nat→X→Int):Nat→List X→Int
 |_,[]=>0
 |i,x::l=>if f i x==0 then zb6 f (i+1) l else f i x
theorem z7k {f:Nat→X→Int} {d:β} {g:Int→β}:∀{l:List X} {i:Nat},zdl (σ:=Unit) (fun i x _=>if f i x==0 then .inl () else .inr (g (f i x))) (fun _=>d) i l ()=if zb6 f i l==0 then d else g (zb6 f i l):=by
 intro l
 induction l with
 |nil=>intros;rfl
 |cons x l ih=>
  intro i
  simp only[zdl,zb6]
  by_cases h:(f i x==0)=true
  ·simp only[h,if_true];exact ih
  ·have h2:¬f i x=0:=fun e=>h (by simp[e])
   simp[h2]
theorem zzn {f:Nat→X→Int}:∀{l:List X} {i:Nat},zb6 f i l=0↔∀k x,l[k]?=some x→f (i+k) x=0:=by
 intro l
 induction l with
 |nil=>intro i;simp[zb6]
 |cons y l ih=>
  intro i
  simp only[zb6]
  constructor
  ·intro h k x hk
   split at h
   ·rename_i h1
    cases k with
    |zero=>simp at hk;subst hk;simpa using h1
    |succ k=>have:=(ih (i:=i+1)).1 h k x (by simpa using hk);rwa [show i+(k+1)=i+1+k by omega]
   ·rename_i h1;exfalso;apply h1;simp[h]
  ·intro h
   have h0:=h 0 y rfl
   simp only[Nat.add_zero]at h0
   rw[h0]
   simp only[beq_self_eq_true,if_true]
   exact ih.2 (fun k x hk=>by have:=h (k+1) x (by simpa using hk);rwa [show i+(k+1)=i+1+k by omega]at this)
theorem zf0 {f:X→σ→σ} {fin:σ→β}:∀{l:List X} {i:Nat} {s:σ},zdl (fun _ x s=>.inl (f x s)) fin i l s=fin (l.foldl (fun s x=>f x s) s):=by
 intro l
 induction l with
 |nil=>intros;rfl
 |cons x l ih=>intro i s;simp only[zdl,List.foldl_cons];exact ih
end
section
variable {α β σ X:Type} {step:α→Option (α⊕β)}
def zhu (a:α) (g:Int→β) (e:Int):Option (α⊕β):=if e==0 then some (.inl a) else some (.inr (g e))
theorem zc4 (a:α) (g:Int→β) (b:Bool) (x y:Int):zhu a g (bif b then x else y)=bif b then zhu a g x else zhu a g y:=by cases b<;>rfl
theorem zdr (enc:Nat→α) (l:List X) (f:Nat→X→Int) (d:β) (g:Int→β) (hl:l.length<1000000000) (h0:step (enc l.length)=some (.inr d))
 (h1:∀i x,l[i]?=some x→step (enc i)=zhu (enc (i+1)) g (f i x)):zae step (enc 0)=some (if zb6 f 0 l==0 then d else g (zb6 f 0 l)):=by
 have h:=zd3 (step:=step) (fun i (_:Unit)=>enc i) l (fun i x _=>if f i x==0 then .inl () else .inr (g (f i x))) (fun _=>d) (by show l.length<18446744073709551616;omega) (fun _=>h0)
  (fun i x _ hx=>by rw[h1 i x hx];unfold zhu;split<;>rfl) ()
 rw[h,z7k]
def zeq (p:X→Bool) (g:Nat→X→β) (d:β):Nat→List X→β
 |_,[]=>d
 |i,x::l=>bif p x then g i x else zeq p g d (i+1) l
theorem zbn (enc:Nat→α) (l:List X) (p:X→Bool) (g:Nat→X→β) (d:β) (hl:l.length<1000000000) (h0:step (enc l.length)=some (.inr d))
 (h1:∀i x,l[i]?=some x→step (enc i)=bif p x then some (.inr (g i x)) else some (.inl (enc (i+1)))):zae step (enc 0)=some (zeq p g d 0 l):=by
 have h:=zd3 (step:=step) (fun i (_:Unit)=>enc i) l (fun i x _=>if p x then .inr (g i x) else .inl ()) (fun _=>d) (by show l.length<18446744073709551616;omega) (fun _=>h0)
  (fun i x _ hx=>by rw[h1 i x hx];cases p x<;>rfl) ()
 rw[h]
 have key:∀(l:List X) (i:Nat),zdl (σ:=Unit) (fun i x _=>if p x then .inr (g i x) else .inl ()) (fun _=>d) i l ()=zeq p g d i l:=by
  intro l
  induction l with
  |nil=>intro i;rfl
  |cons x l ih=>
   intro i
   simp only[zdl,zeq]
   cases p x with
   |true=>rfl
   |false=>exact ih _
 rw[key]
theorem zmj {p:X→Bool} {g:X→β} {d:β}:∀{l:List X} {i:Nat},zeq p (fun _ x=>g x) d i l=(match l.find? p with|some x=>g x|none=>d):=by
 intro l
 induction l with
 |nil=>intros;rfl
 |cons x l ih=>intro i;simp only[zeq,List.find?_cons];cases p x with|true=>rfl|false=>exact ih
theorem z4j {p:X→Bool}:∀{l:List X} {i:Nat},zeq p (fun i _=>(i:Int)) (-1) i l=(match l.findIdx? p with|some k=>((i+k:Nat):Int)|none=>-1):=by
 intro l
 induction l with
 |nil=>intros;rfl
 |cons x l ih=>
  intro i
  simp only[zeq,List.findIdx?_cons]
  cases p x with
  |true=>rfl
  |false=>
   simp only[Bool.false_eq_true,if_false,cond_false]
   rw[ih]
   cases l.findIdx? p with
   |none=>rfl
   |some k=>simp only[Option.map_some];rw[show i+1+k=i+(k+1) by omega]
theorem zc5 {p:X→Bool} {l:List X}:zeq p (fun i _=>(i:Int)) (-1) 0 l=fIdx p l:=by
 rw[z4j];unfold fIdx;simp
theorem zb8 {γ:Type} {p:X→Bool} {g:Nat→X→β} {d:β} (f:β→γ):∀{l:List X} {i:Nat},f (zeq p g d i l)=zeq p (fun i x=>f (g i x)) (f d) i l:=by
 intro l
 induction l with
 |nil=>intros;rfl
 |cons x l ih=>intro i;simp only[zeq];cases p x with|true=>rfl|false=>exact ih
def zct (p:Nat→X→Bool):Nat→List X→Bool
 |_,[]=>true
 |i,x::l=>p i x&&zct p (i+1) l
theorem zav (enc:Nat→α) (l:List X) (p:Nat→X→Bool) (b d:β) (hl:l.length<1000000000) (h0:step (enc l.length)=some (.inr d))
 (h1:∀i x,l[i]?=some x→step (enc i)=bif p i x then some (.inl (enc (i+1))) else some (.inr b)):zae step (enc 0)=some (bif zct p 0 l then d else b):=by
 have h:=zd3 (step:=step) (fun i (_:Unit)=>enc i) l (fun i x _=>if p i x then .inl () else .inr b) (fun _=>d) (by show l.length<18446744073709551616;omega) (fun _=>h0)
  (fun i x _ hx=>by rw[h1 i x hx];cases p i x<;>rfl) ()
 rw[h]
 have key:∀(l:List X) (i:Nat),zdl (σ:=Unit) (fun i x _=>if p i x then .inl () else .inr b) (fun _=>d) i l ()=bif zct p i l then d else b:=by
  intro l
  induction l with
  |nil=>intro i;rfl
  |cons x l ih=>
   intro i
   simp only[zdl,zct]
   cases p i x with
   |true=>exact ih _
   |false=>rfl
 rw[key]
theorem zay {p:X→Bool}:∀{l:List X} {i:Nat},zct (fun _=>p) i l=l.all p:=by
 intro l
 induction l with
 |nil=>intros;rfl
 |cons x l ih=>intro i;simp only[zct,List.all_cons];rw[ih]
theorem ziv {p:Nat→X→Bool}:∀{l:List X} {i:Nat},zct p i l=true↔∀k x,l[k]?=some x→p (i+k) x=true:=by
 intro l
 induction l with
 |nil=>intro i;simp[zct]
 |cons y l ih=>
  intro i
  simp only[zct,Bool.and_eq_true]
  rw[ih]
  constructor
  ·rintro ⟨h0,h⟩ k x hk
   cases k with
   |zero=>simp at hk;subst hk;exact h0
   |succ k=>have:=h k x (by simpa using hk);rwa [show i+(k+1)=i+1+k by omega]
  ·intro h
   exact ⟨h 0 y rfl,fun k x hk=>by have:=h (k+1) x (by simpa using hk);rwa [show i+(k+1)=i+1+k by omega]at this⟩
theorem zln (enc:Nat→σ→α) (l:List X) (f:X→σ→σ) (fin:σ→β) (hl:l.length<1000000000) (h0:∀s,step (enc l.length s)=some (.inr (fin s)))
 (h1:∀i x s,l[i]?=some x→step (enc i s)=some (.inl (enc (i+1) (f x s)))) (s:σ):zae step (enc 0 s)=some (fin (l.foldl (fun s x=>f x s) s)):=by
 have h:=zd3 (step:=step) enc l (fun i x s=>.inl (f x s)) fin (by show l.length<18446744073709551616;omega) h0 (fun i x s hx=>by rw[h1 i x s hx]) s
 rw[h,zf0]
end
def zcd {X:Type} (l:List X) (i:Nat) (f:X→Bool):Bool:=match i with
 |0=>false
 |j+1=>match l[j]? with|some y=>f y|none=>false
theorem zcu {n:Int} (h1 : -9223372036854775808≤n) (h2:n≤9223372036854775807):wr .i64 n=n:=by
 unfold wr;rw[IntKind.wrap_i64];omega
theorem zap {n:Nat} (h:n<9223372036854775807):wr .i64 ((n:Int)+1)=((n+1:Nat):Int):=by
 rw[zcu (by omega) (by omega)];rfl
theorem zgi {j:Nat} (h:j<1000000000):wr .i64 (((j+1:Nat):Int)-1)=(j:Int):=by
 rw[show ((j+1:Nat):Int)-1=(j:Int) by omega]
 exact zcu (by omega) (by omega)
theorem dpos {j:Nat}:decide ((0:Int)<((j+1:Nat):Int))=true:=by rw[decide_eq_true_eq];omega
theorem zzk:decide ((0:Int)<((0:Nat):Int))=false:=rfl
theorem zaj {α:Type} (l:List α) (i:Nat):getI l (i:Int)=l[i]?:=by
 unfold getI;simp
theorem zafi:LIM=1073741824:=rfl
theorem zbs:FUEL=18446744073709551616:=rfl
end Go.Proofs.YtdahfgialanmpaaGreatDoor
namespace Go.Proofs.YtdahfgialanmpaaGreatDoor
open Ev
open Go (IntKind)
theorem dlt {i n:Nat} (h:i<n):decide ((i:Int)<(n:Int))=true:=by simpa using h
theorem dge {n:Nat}:decide ((n:Int)<(n:Int))=false:=by simp
theorem k_or {α:Type} (k:Bool→α) (a b:Bool):(bif a then k true else k b)=k (a||b):=by cases a<;>rfl
theorem za6 {α:Type} (k:Bool→α) (a b:Bool):(bif a then k b else k false)=k (a&&b):=by cases a<;>rfl
theorem zly {α:Type} (k:Bool→α) (a b:Bool):(bif a then k a else k b)=k (a||b):=by cases a<;>rfl
theorem zcw {α:Type} (c:Bool) (a b:α):(bif c then some a else some b)=some (bif c then a else b):=by cases c<;>rfl
theorem zava (b:UInt8):wr .i64 (b.toNat:Int)=(b.toNat:Int):=by
 have:=b.toNat_lt
 exact zcu (by omega) (by omega)
def dcdI (r:List UInt8):Int×Int:=(((dcd r).1:Int),((dcd r).2:Int))
theorem z6w {s:List UInt8} {i:Nat} (hi:i<s.length) (hs:s.length<1000000000):qaq s (i:Int)=some (dcdI (s.drop i)):=by
 obtain ⟨a,r,hr⟩:∃a r,s.drop i=a::r:=⟨s[i],s.drop (i+1),List.drop_eq_getElem_cons hi⟩
 have g:∀k,getI s ((i+k:Nat):Int)=(a::r)[k]?:=fun k=>by rw[zaj,←hr,List.getElem?_drop]
 have h0:getI s (i:Int)=some a:=g 0
 have w1:wr .i64 ((i:Int)+1)=((i+1:Nat):Int):=zap (by omega)
 have w2:wr .i64 ((i:Int)+2)=((i+2:Nat):Int):=by rw[zcu (by omega) (by omega)];rfl
 have hl:s.length=i+(r.length+1):=by
  have:=congrArg List.length hr
  simp only[List.length_drop,List.length_cons]at this
  omega
 have ha:=a.toNat_lt
 unfold qaq
 rw[hr]
 unfold dcdI dcd
 have t1:decide (((i+1:Nat):Int)<((i+(r.length+1):Nat):Int))=decide (0<r.length):=by congr 1;simp only[eq_iff_iff];omega
 have t2:decide (((i+2:Nat):Int)<((i+(r.length+1):Nat):Int))=decide (1<r.length):=by congr 1;simp only[eq_iff_iff];omega
 simp -zeta only[h0,w1,w2,g 1,g 2,zava,k_or,za6,hl,t1,t2]
 dsimp only
 clear hl t1 t2 g hr hi h0 w1 w2 hs
 by_cases c1:32≤a.toNat∧a.toNat<127
 ·have e1:(decide ((32:Int)≤(a.toNat:Int))&&decide ((a.toNat:Int)<127))=true:=by simp;omega
  simp only[e1,cond_true,if_pos c1];rfl
 have e1:(decide ((32:Int)≤(a.toNat:Int))&&decide ((a.toNat:Int)<127))=false:=by simp;omega
 simp only[e1,cond_false,if_neg c1]
 by_cases c2:194≤a.toNat∧a.toNat<224
 ·have e2:(decide ((194:Int)≤(a.toNat:Int))&&decide ((a.toNat:Int)<224))=true:=by simp;omega
  have e3:decide ((224:Int)≤(a.toNat:Int))=false:=by simp;omega
  simp only[e2,e3,Bool.true_and,Bool.false_and,cond_false,if_pos c2]
  rcases r with _|⟨b,r⟩
  ·rfl
  have hb:=b.toNat_lt
  have l1:decide (0<(b::r).length)=true:=by simp
  have g1:(a::b::r)[1]?=some b:=rfl
  have e4:wr .i64 ((wr .i64 ((wr .i64 ((wr .i64 ((a.toNat:Int)-192))*64))+(b.toNat:Int)))-128)=((a.toNat:Int)-192)*64+(b.toNat:Int)-128:=by
   rw[zcu (n:=(a.toNat:Int)-192) (by omega) (by omega),zcu (n:=((a.toNat:Int)-192)*64) (by omega) (by omega),zcu (n:=((a.toNat:Int)-192)*64+(b.toNat:Int)) (by omega) (by omega),zcu (by omega) (by omega)]
  simp only[l1,g1,e4,cond_true]
  by_cases cb:128≤b.toNat
  ·have b1:decide ((128:Int)≤(b.toNat:Int))=true:=by simp;omega
   simp only[b1,cond_true]
   by_cases cb2:b.toNat<192
   ·have b2:decide ((b.toNat:Int)<192)=true:=by simp;omega
    simp only[b2,g1,cond_true,Bool.cond_eq_ite,decide_eq_true_eq]
    rw[if_pos True.intro]
    split
    ·rw[if_pos (by omega)];simp only[Option.some.injEq,Prod.mk.injEq];omega
    ·rw[if_neg (by omega)];rfl
   ·have b2:decide ((b.toNat:Int)<192)=false:=by simp;omega
    simp only[b2,cond_false]
    rw[if_neg (by omega)];rfl
  ·have b1:decide ((128:Int)≤(b.toNat:Int))=false:=by simp;omega
   simp only[b1,cond_false]
   rw[if_neg (by omega)];rfl
 have e2:(decide ((194:Int)≤(a.toNat:Int))&&decide ((a.toNat:Int)<224))=false:=by simp;omega
 simp only[e2,Bool.false_and,cond_false,if_neg c2]
 by_cases c3:224≤a.toNat∧a.toNat<240
 ·have e3:(decide ((224:Int)≤(a.toNat:Int))&&decide ((a.toNat:Int)<240))=true:=by simp;omega
  simp only[e3,Bool.true_and,if_pos c3]
  rcases r with _|⟨b,_|⟨c,r⟩⟩
  ·rfl
  ·rfl
  have hb:=b.toNat_lt
  have hc:=c.toNat_lt
  have l1:decide (1<(b::c::r).length)=true:=by simp
  have g1:(a::b::c::r)[1]?=some b:=rfl
  have g2:(a::b::c::r)[2]?=some c:=rfl
  have e4:wr .i64 ((wr .i64 ((wr .i64 ((wr .i64 ((wr .i64 ((a.toNat:Int)-224))*4096))+(wr .i64 ((wr .i64 ((b.toNat:Int)-128))*64))))+(c.toNat:Int)))-128)=((a.toNat:Int)-224)*4096+((b.toNat:Int)-128)*64+(c.toNat:Int)-128:=by
   rw[zcu (n:=(a.toNat:Int)-224) (by omega) (by omega),zcu (n:=((a.toNat:Int)-224)*4096) (by omega) (by omega),zcu (n:=(b.toNat:Int)-128) (by omega) (by omega),zcu (n:=((b.toNat:Int)-128)*64) (by omega) (by omega),
    zcu (n:=((a.toNat:Int)-224)*4096+((b.toNat:Int)-128)*64) (by omega) (by omega),zcu (n:=((a.toNat:Int)-224)*4096+((b.toNat:Int)-128)*64+(c.toNat:Int)) (by omega) (by omega),zcu (by omega) (by omega)]
  simp only[l1,g1,g2,e4,cond_true]
  by_cases cb:128≤b.toNat
  ·have b1:decide ((128:Int)≤(b.toNat:Int))=true:=by simp;omega
   simp only[b1,cond_true]
   by_cases cb2:b.toNat<192
   ·have b2:decide ((b.toNat:Int)<192)=true:=by simp;omega
    simp only[b2,cond_true]
    by_cases cc:128≤c.toNat
    ·have d1:decide ((128:Int)≤(c.toNat:Int))=true:=by simp;omega
     simp only[d1,cond_true]
     by_cases cc2:c.toNat<192
     ·have d2:decide ((c.toNat:Int)<192)=true:=by simp;omega
      simp only[d2,g1,g2,cond_true,Bool.cond_eq_ite,Bool.and_eq_true,Bool.or_eq_true,decide_eq_true_eq]
      rw[if_pos True.intro]
      split
      ·rw[if_pos (by omega)];simp only[Option.some.injEq,Prod.mk.injEq];omega
      ·rw[if_neg (by omega)];rfl
     ·have d2:decide ((c.toNat:Int)<192)=false:=by simp;omega
      simp only[d2,cond_false]
      rw[if_neg (by omega)];rfl
    ·have d1:decide ((128:Int)≤(c.toNat:Int))=false:=by simp;omega
     simp only[d1,cond_false]
     rw[if_neg (by omega)];rfl
   ·have b2:decide ((b.toNat:Int)<192)=false:=by simp;omega
    simp only[b2,cond_false]
    rw[if_neg (by omega)];rfl
  ·have b1:decide ((128:Int)≤(b.toNat:Int))=false:=by simp;omega
   simp only[b1,cond_false]
   rw[if_neg (by omega)];rfl
 ·have e3:(decide ((224:Int)≤(a.toNat:Int))&&decide ((a.toNat:Int)<240))=false:=by simp;omega
  simp only[e3,Bool.false_and,cond_false,if_neg c3];rfl
theorem zahd (l:List UInt8):(dcd l).2≤l.length:=by
 unfold dcd
 split
 ·simp
 ·rename_i a r
  split
  ·simp
  ·split
   ·split
    ·split<;>simp
    ·simp
   ·split
    ·split
     ·split<;>simp
     ·simp
    ·simp
theorem zaac (n:Nat) {s:List UInt8} {i:Nat} (hi:i<s.length):vldN (n+1) (s.drop i)=if (dcd (s.drop i)).2=0 then false else vldN n (s.drop (i+(dcd (s.drop i)).2)):=by
 have:s.drop i≠[]:=by simp;omega
 simp only[vldN,this,if_false,List.drop_drop]
theorem zaiy {s:List UInt8} (hs:s.length<1000000000):qal s=some (vld s):=by
 have key:∀n i,s.length-i≤n→i≤s.length→zbh zm6 (n+1) (s,(i:Int),())=some (if vldN n (s.drop i) then .inl () else .inr (false,())):=by
  intro n
  induction n with
  |zero=>
   intro i h1 h2
   have:i=s.length:=by omega
   subst this
   simp only[zbh,zm6,dge,cond_false,vldN,if_true]
  |succ n ih=>
   intro i h1 h2
   rw[zbh]
   by_cases hi:i<s.length
   ·rw[zaac n hi]
    have hle:=zahd (s.drop i)
    rw[List.length_drop]at hle
    simp only[zm6,dlt hi,cond_true,z6w hi hs,dcdI]
    by_cases h0:(dcd (s.drop i)).2=0
    ·simp[h0]
    ·have hb:(((dcd (s.drop i)).2:Int)==0)=false:=by simp;omega
     have hw:wr .i64 ((i:Int)+((dcd (s.drop i)).2:Int))=((i+(dcd (s.drop i)).2:Nat):Int):=by rw[zcu (by omega) (by omega)];rfl
     simp only[hb,cond_false,hw,h0,if_false]
     exact ih _ (by omega) (by omega)
   ·have:i=s.length:=by omega
    subst this
    simp[zm6,vldN]
 unfold qal
 have:=key s.length 0 (by omega) (by omega)
 rw[show ((0:Int))=((0:Nat):Int) from rfl,zci (s.length+1) (by rw[zbs];omega) this]
 simp only[List.drop_zero]
 unfold vld
 cases vldN s.length s<;>rfl
theorem za07 {s:List UInt8} {i:Nat} (hi:i<s.length) (hs:s.length<1000000000):qf s (i:Int)=some ((wid (s.drop i):Nat):Int):=by
 unfold qf wid
 rw[z6w hi hs]
 show some (if (((dcd (s.drop i)).2:Nat):Int)<1 then (1:Int) else (((dcd (s.drop i)).2:Nat):Int))=_
 rw[Option.some.injEq]
 by_cases h:(dcd (s.drop i)).2<1
 ·rw[if_pos h,if_pos (by omega)];rfl
 ·rw[if_neg h,if_neg (by omega)]
theorem za0u {l:List UInt8} (h:l≠[]):1≤wid l∧wid l≤l.length:=by
 have:=zahd l
 have:0<l.length:=List.length_pos_iff.2 h
 unfold wid
 split<;>omega
theorem z2q (n:Nat) {s:List UInt8} {i:Nat} (hi:i<s.length) {out:List UInt8} {gap:Bool}:clnN (n+1) (s.drop i) out gap =
 if blk (dcd (s.drop i)).1 then clnN n (s.drop (i+wid (s.drop i))) out true else clnN n (s.drop (i+wid (s.drop i))) ((if gap&&!(out==[]) then out++[32] else out)++(s.drop i).take (wid (s.drop i))) false:=by
 have:s.drop i≠[]:=by simp;omega
 rw[clnN,if_neg this,List.drop_drop]
theorem zayg {s:List UInt8} (hs:s.length<100000000):qa5 s=some (cln s):=by
 have key:∀n i (out:List UInt8) (gap:Bool),s.length-i≤n→i≤s.length→out.length≤2*i→zbh zm4 (n+1) (s,out,gap,(i:Int),())=some (clnN n (s.drop i) out gap,()):=by
  intro n
  induction n with
  |zero=>
   intro i out gap h1 h2 h3
   have:i=s.length:=by omega
   subst this
   simp only[zbh,zm4,dge,cond_false,clnN]
  |succ n ih=>
   intro i out gap h1 h2 h3
   rw[zbh]
   by_cases hi:i<s.length
   ·rw[z2q n hi]
    have hw0:=za0u (l:=s.drop i) (by simp;omega)
    rw[List.length_drop]at hw0
    obtain ⟨k,hk⟩:∃k,wid (s.drop i)=k:=⟨_,rfl⟩
    rw[hk]at hw0 ⊢
    have hw:wr .i64 ((i:Int)+(k:Int))=((i+k:Nat):Int):=by rw[zcu (by omega) (by omega)];rfl
    have hb:qaj ((dcd (s.drop i)).1:Int)=some (blk (dcd (s.drop i)).1):=by
     unfold qaj
     simp -zeta only[k_or]
     simp only[Option.some.injEq,blk]
     rw[Bool.eq_iff_iff];simp;omega
    simp only[zm4,dlt hi,cond_true,z6w hi (show s.length<1000000000 by omega),za07 hi (show s.length<1000000000 by omega),dcdI,hb,hk,hw]
    cases blk (dcd (s.drop i)).1 with
    |true=>simp only[cond_true,if_true];exact ih _ _ _ (by omega) (by omega) (by omega)
    |false=>
     have hc:(decide ((0:Int)≤(i:Int))&&(decide ((i:Int)≤((i+k:Nat):Int))&&decide (((i+k:Nat):Int)≤(s.length:Int))))=true:=by simp;omega
     have ht:(s.take (i+k)).drop i=(s.drop i).take k:=by rw[List.drop_take];congr 1;omega
     simp only[cond_false,hc,cond_true,Int.toNat_natCast,ht,Bool.false_eq_true,if_false]
     have hlen:∀o:List UInt8,o.length≤2*i+1→decide (o.length+((s.drop i).take k).length≤LIM)=true:=fun o ho=>by
      rw[zafi];simp only[List.length_take,List.length_drop,decide_eq_true_eq];omega
     cases hg:(gap&&!(out==[])) with
     |true=>
      simp only[Bool.and_eq_true,Bool.not_eq_true']at hg
      have h32:decide (out.length+([32]:List Nat).length≤LIM)=true:=by rw[zafi];simp;omega
      simp only[hg.1,hg.2,hc,ht,Int.toNat_natCast,cond_true,Bool.not_false,h32,hlen (out++[32]) (by simp;omega),if_true]
      exact ih _ _ _ (by omega) (by omega) (by simp;omega)
     |false=>
      cases gap with
      |false=>
       simp only[cond_false,hlen out (by omega),cond_true,Bool.false_eq_true,if_false]
       exact ih _ _ _ (by omega) (by omega) (by simp;omega)
      |true=>
       simp only[Bool.true_and]at hg
       simp only[cond_true,hg,cond_false,hlen out (by omega),Bool.false_eq_true,if_false]
       exact ih _ _ _ (by omega) (by omega) (by simp;omega)
   ·have:i=s.length:=by omega
    subst this
    simp[zm4,clnN]
 unfold qa5
 have:=key s.length 0 [] false (by omega) (by omega) (by simp)
 rw[show ((0:Int))=((0:Nat):Int) from rfl,zci (s.length+1) (by rw[zbs];omega) this]
 try rfl
end Go.Proofs.YtdahfgialanmpaaGreatDoor
namespace Go.Proofs.YtdahfgialanmpaaGreatDoor
open Ev
open Go (IntKind)
def rng (lo hi n:Int):Bool:=decide (lo≤n)&&decide (n≤hi)
theorem zaji (n:Int):qfi n=some (rng 0 109572 n):=by
 unfold qfi
 simp -zeta only[k_or,za6]
 try rfl
theorem zay8 (n:Int):qe0 n=some (rng 0 109572 n):=by
 unfold qe0
 simp -zeta only[k_or,za6]
 try rfl
theorem zazc (n:Int):qei n=some (rng 1 9999 n):=by
 unfold qei
 simp -zeta only[k_or,za6]
 try rfl
theorem z6y (n lo hi:Int):qau n lo hi=some (rng lo hi n):=by
 unfold qau
 simp -zeta only[k_or,za6]
 try rfl
def zdw (l:List Charge) (i:Nat) (x:Charge):Int:=
 bif zcd l i (fun y=>decide (x.ID≤y.ID)) then 7
 else bif decide (x.ID<1)||decide (99999<x.ID)||decide (x.Patron<1)||decide (9999<x.Patron)||decide (x.Item<1)||decide (9999<x.Item)||!(rng 0 109572 x.Day) then 2
 else bif decide (x.Kind<1)||decide (3<x.Kind) then 1
 else bif decide (x.Amount<1)||decide (100000000<x.Amount)||decide (x.Paid<0)||decide (x.Amount≤x.Paid) then 2 else 0
def zcb (l:List Charge):Int:=bif decide (128<(l.length:Int)) then 13 else zb6 (zdw l) 0 l
theorem z0h {l:List Charge} (hl:l.length<1000000000):zae zkf (l,0,())=some (if zb6 (zdw l) 0 l==0 then .inl () else .inr (zb6 (zdw l) 0 l,())):=by
 have h:=zdr (step:=zkf) (fun i=>(l,(i:Int),())) l (zdw l) (.inl ()) (fun e=>.inr (e,())) hl
  (by simp only[zkf,dge,cond_false])
  (fun i x hx=>by
   have hi:=(List.getElem?_eq_some_iff.1 hx).1
   have hxm:=List.mem_of_getElem? hx
   unfold zdw
   simp only[zc4]
   rcases i with _|j
   ·simp -zeta only[zkf,dlt hi,zaj,hx,k_or,za6,zzk,cond_false,cond_true,zcd,zap (show 0<9223372036854775807 by omega),zaji]
    try rfl
   ·have hj:l[j]?=some l[j]:=List.getElem?_eq_getElem (by omega)
    simp -zeta only[zkf,dlt hi,zaj,hx,k_or,za6,dpos,zgi (show j<1000000000 by omega),hj,cond_false,cond_true,zcd,zap (show j+1<9223372036854775807 by omega),zaji]
    rfl)
 exact h
theorem zayf {l:List Charge} (hl:l.length<1000000000):qa4 l=some (zcb l):=by
 unfold qa4 zcb
 rw[z0h hl]
 generalize zb6 (zdw l) 0 l=e
 cases decide (128<(l.length:Int)) with
 |true=>rfl
 |false=>
  by_cases h:e=0
  ·subst h;rfl
  ·have h2:(e==0)=false:=by simpa using h
   simp only[h2,Bool.false_eq_true,if_false,cond_false]
def zeu (l:List Patron) (i:Nat) (x:Patron):Int:=
 bif decide (x.ID<1)||decide (9999<x.ID) then 2
 else bif zcd l i (fun y=>decide (x.ID≤y.ID)) then 7
 else bif decide (x.Kind<1)||decide (9<x.Kind)||decide (x.Branch<1)||decide (4<x.Branch) then 1
 else bif decide (x.Until<0)||decide (109572<x.Until) then 2
 else bif x.Name==[]||!(vld x.Name)||!(cln x.Name==x.Name) then 3
 else bif decide (200<(x.Name.length:Int)) then 4 else 0
def zev (l:List Patron):Int:=bif decide (32<(l.length:Int)) then 13 else zb6 (zeu l) 0 l
theorem z0n {l:List Patron} (hl:l.length<1000000000) (hn:∀x∈l,x.Name.length<10000000):zae zkk (l,0,())=some (if zb6 (zeu l) 0 l==0 then .inl () else .inr (zb6 (zeu l) 0 l,())):=by
 have h:=zdr (step:=zkk) (fun i=>(l,(i:Int),())) l (zeu l) (.inl ()) (fun e=>.inr (e,())) hl
  (by simp only[zkk,dge,cond_false])
  (fun i x hx=>by
   have hi:=(List.getElem?_eq_some_iff.1 hx).1
   have hxm:=List.mem_of_getElem? hx
   have hv:=zaiy (s:=x.Name) (by have:=hn x hxm;omega)
   have hc:=zayg (s:=x.Name) (by have:=hn x hxm;omega)
   unfold zeu
   simp only[zc4]
   rcases i with _|j
   ·simp -zeta only[zkk,dlt hi,zaj,hx,k_or,za6,zzk,cond_false,cond_true,zcd,zap (show 0<9223372036854775807 by omega),hv,hc]
    try rfl
   ·have hj:l[j]?=some l[j]:=List.getElem?_eq_getElem (by omega)
    simp -zeta only[zkk,dlt hi,zaj,hx,k_or,za6,dpos,zgi (show j<1000000000 by omega),hj,cond_false,cond_true,zcd,zap (show j+1<9223372036854775807 by omega),hv,hc]
    rfl)
 exact h
theorem zayp {l:List Patron} (hl:l.length<1000000000) (hn:∀x∈l,x.Name.length<10000000):qar l=some (zev l):=by
 unfold qar zev
 rw[z0n hl hn]
 generalize zb6 (zeu l) 0 l=e
 cases decide (32<(l.length:Int)) with
 |true=>rfl
 |false=>
  by_cases h:e=0
  ·subst h;rfl
  ·have h2:(e==0)=false:=by simpa using h
   simp only[h2,Bool.false_eq_true,if_false,cond_false]
def zdz (l:List Loan) (i:Nat) (x:Loan):Int:=
 bif zcd l i (fun y=>decide (x.Item≤y.Item)) then 7
 else bif decide (x.Item<1)||decide (9999<x.Item)||decide (x.Patron<1)||decide (9999<x.Patron)||decide (x.Out<0)||decide (109572<x.Out)||decide (x.Due<0)||decide (109572<x.Due)||decide (x.Due<x.Out)||decide (x.Renewals<0)||decide (10<x.Renewals) then 2 else 0
def za9 (l:List Loan):Int:=bif decide (64<(l.length:Int)) then 13 else zb6 (zdz l) 0 l
theorem z0m {l:List Loan} (hl:l.length<1000000000):zae zkj (l,0,())=some (if zb6 (zdz l) 0 l==0 then .inl () else .inr (zb6 (zdz l) 0 l,())):=by
 have h:=zdr (step:=zkj) (fun i=>(l,(i:Int),())) l (zdz l) (.inl ()) (fun e=>.inr (e,())) hl
  (by simp only[zkj,dge,cond_false])
  (fun i x hx=>by
   have hi:=(List.getElem?_eq_some_iff.1 hx).1
   have hxm:=List.mem_of_getElem? hx
   unfold zdz
   simp only[zc4]
   rcases i with _|j
   ·simp -zeta only[zkj,dlt hi,zaj,hx,k_or,za6,zzk,cond_false,cond_true,zcd,zap (show 0<9223372036854775807 by omega)]
    try rfl
   ·have hj:l[j]?=some l[j]:=List.getElem?_eq_getElem (by omega)
    simp -zeta only[zkj,dlt hi,zaj,hx,k_or,za6,dpos,zgi (show j<1000000000 by omega),hj,cond_false,cond_true,zcd,zap (show j+1<9223372036854775807 by omega)]
    rfl)
 exact h
theorem zaix {l:List Loan} (hl:l.length<1000000000):qak l=some (za9 l):=by
 unfold qak za9
 rw[z0m hl]
 generalize zb6 (zdz l) 0 l=e
 cases decide (64<(l.length:Int)) with
 |true=>rfl
 |false=>
  by_cases h:e=0
  ·subst h;rfl
  ·have h2:(e==0)=false:=by simpa using h
   simp only[h2,Bool.false_eq_true,if_false,cond_false]
def zcp (h:Hold):Int:=
 bif decide (h.ID<1)||decide (99999<h.ID)||!(rng 1 9999 h.Patron)||!(rng 1 9999 h.Record)||!(h.Item==0)&&!(rng 1 9999 h.Item)||decide (h.Pickup<1)||decide (4<h.Pickup)||!(rng 0 109572 h.Placed)||!(h.Got==0)&&!(rng 1 9999 h.Got)||!(rng 0 109572 h.Until)||!(rng 0 109572 h.Asleep)||decide (h.Rank<0)||decide (9<h.Rank) then 2
 else bif decide (h.State<1)||decide (3<h.State) then 1
 else bif !((decide (0<h.Got))==(!(h.State==1)))||!((decide (0<h.Until))==(h.State==3)) then 12 else 0
theorem zajc (h:Hold):qdu h=some (zcp h):=by
 unfold qdu zcp
 simp -zeta only[k_or,za6,zazc,zay8,←zcw]
 try rfl
def zfi (l:List Hold) (i:Nat) (x:Hold):Int:=
 bif zcd l i (fun y=>decide (x.ID≤y.ID)) then 7 else bif !(zcp x==0) then zcp x else 0
theorem z7a {l:List Hold} (hl:l.length<1000000000):zae zuo (l,0,())=some (if zb6 (zfi l) 0 l==0 then .inl (l,()) else .inr (zb6 (zfi l) 0 l,())):=by
 have h:=zdr (step:=zuo) (fun i=>(l,(i:Int),())) l (zfi l) (.inl (l,())) (fun e=>.inr (e,())) hl
  (by simp only[zuo,dge,cond_false])
  (fun i x hx=>by
   have hi:=(List.getElem?_eq_some_iff.1 hx).1
   have hxm:=List.mem_of_getElem? hx
   have hs:∀(a:List Hold×Int×Unit) (g:Int→((List Hold×Unit)⊕(Int×Unit))),(bif !(zcp x==0) then zhu a g (zcp x) else zhu a g 0)=bif !(zcp x==0) then some (.inr (g (zcp x))) else some (.inl a):=fun a g=>by
    unfold zhu
    cases zcp x==0<;>rfl
   unfold zfi
   simp only[zc4,hs]
   rcases i with _|j
   ·simp -zeta only[zuo,dlt hi,zaj,hx,k_or,za6,zzk,cond_false,cond_true,zcd,zap (show 0<9223372036854775807 by omega),zajc]
    try rfl
   ·have hj:l[j]?=some l[j]:=List.getElem?_eq_getElem (by omega)
    simp -zeta only[zuo,dlt hi,zaj,hx,k_or,za6,dpos,zgi (show j<1000000000 by omega),hj,cond_false,cond_true,zcd,zap (show j+1<9223372036854775807 by omega),zajc]
    rfl)
 exact h
def zer (x y:Hold):Bool:=x.Patron==y.Patron&&x.Record==y.Record||decide (0<x.Got)&&x.Got==y.Got
theorem z0t {l:List Hold} {i:Nat} {x:Hold} (hl:l.length<1000000000) (hx:l[i]?=some x):zae zkz (l,(i:Int),0,())=some (bif (l.take i).all (fun y=>!(zer x y)) then .inl (l,(i:Int),()) else .inr (7,())):=by
 have hi:=(List.getElem?_eq_some_iff.1 hx).1
 have h:=zav (step:=zkz) (fun k=>(l,(i:Int),(k:Int),())) (l.take i) (fun _ y=>!(zer x y)) (.inr (7,())) (.inl (l,(i:Int),())) (by rw[List.length_take];omega)
  (by rw[List.length_take,Nat.min_eq_left (by omega)];simp only[zkz,dge,cond_false])
  (fun k y hy=>by
   have hk:=(List.getElem?_eq_some_iff.1 hy).1
   rw[List.length_take]at hk
   have hy2:l[k]?=some y:=by rw[←hy,List.getElem?_take_of_lt (by omega)]
   simp -zeta only[zkz,dlt (show k<i by omega),zaj,hx,hy2,k_or,za6,cond_true,zap (show k<9223372036854775807 by omega)]
   dsimp only
   unfold zer
   cases (x.Patron==y.Patron&&x.Record==y.Record||decide (0<x.Got)&&x.Got==y.Got)<;>rfl)
 rw[show zae zkz (l,(i:Int),0,())=_ from h,zay]
def zhh (l:List Hold):Bool:=zct (fun i x=>(l.take i).all (fun y=>!(zer x y))) 0 l
theorem z0s {l:List Hold} (hl:l.length<1000000000):zae znj (l,0,())=some (bif zhh l then .inl () else .inr (7,())):=by
 have h:=zav (step:=znj) (fun i=>(l,(i:Int),())) l (fun i x=>(l.take i).all (fun y=>!(zer x y))) (.inr (7,())) (.inl ()) hl
  (by simp only[znj,dge,cond_false])
  (fun i x hx=>by
   have hi:=(List.getElem?_eq_some_iff.1 hx).1
   simp only[znj,dlt hi,cond_true,z0t hl hx]
   cases (l.take i).all (fun y=>!(zer x y)) with
   |true=>simp only[cond_true,zap (show i<9223372036854775807 by omega)]
   |false=>rfl)
 exact h
def zgt (l:List Hold):Int:=bif decide (64<(l.length:Int)) then 13 else bif zb6 (zfi l) 0 l==0 then (bif zhh l then 0 else 7) else zb6 (zfi l) 0 l
theorem za09 {l:List Hold} (hl:l.length<1000000000):ql l=some (zgt l):=by
 unfold ql zgt
 rw[z7a hl]
 cases decide (64<(l.length:Int)) with
 |true=>rfl
 |false=>
  by_cases h:zb6 (zfi l) 0 l=0
  ·simp only[h,beq_self_eq_true,if_true,cond_false,cond_true,z0s hl]
   cases zhh l<;>rfl
  ·have:(zb6 (zfi l) 0 l==0)=false:=by simpa using h
   simp only[this,Bool.false_eq_true,if_false,cond_false]
def zh3 (r:Rule):Bool:=rng 0 9 r.Patron&&rng 0 9 r.Item&&rng 0 4 r.Branch&&(rng 0 365 r.Days&&rng 0 10 r.Renewals&&rng 0 99 r.Loans)&&(rng 0 1000 r.Fine&&rng 0 30 r.Grace&&rng 0 100000000 r.MaxFine)&&rng 1 60 r.Shelf&&rng 1 60 r.Recall&&rng 0 109572 r.Fixed&&rng 0 9 r.Rank
theorem zay4 (r:Rule):qcv r=some (zh3 r):=by
 unfold qcv zh3
 simp -zeta only[k_or,za6,z6y]
 try rfl
def zg2 (x y:Rule):Bool:=x.Patron==y.Patron&&x.Item==y.Item&&x.Branch==y.Branch
def zgg (l:List Rule) (i:Nat) (x:Rule):Int:=bif !(zh3 x) then 2 else bif (l.take i).all (fun y=>!(zg2 y x)) then 0 else 7
theorem z69 {l:List Rule} {i:Nat} {x:Rule} (hl:l.length<1000000000) (hx:l[i]?=some x):zae zum (l,(i:Int),0,())=some (bif (l.take i).all (fun y=>!(zg2 y x)) then .inl (l,(i:Int),()) else .inr (7,())):=by
 have hi:=(List.getElem?_eq_some_iff.1 hx).1
 have h:=zav (step:=zum) (fun k=>(l,(i:Int),(k:Int),())) (l.take i) (fun _ y=>!(zg2 y x)) (.inr (7,())) (.inl (l,(i:Int),())) (by rw[List.length_take];omega)
  (by rw[List.length_take,Nat.min_eq_left (by omega)];simp only[zum,dge,cond_false])
  (fun k y hy=>by
   have hk:=(List.getElem?_eq_some_iff.1 hy).1
   rw[List.length_take]at hk
   have hy2:l[k]?=some y:=by rw[←hy,List.getElem?_take_of_lt (by omega)]
   simp -zeta only[zum,dlt (show k<i by omega),zaj,hx,hy2,k_or,za6,cond_true,zap (show k<9223372036854775807 by omega)]
   dsimp only
   unfold zg2
   cases (y.Patron==x.Patron&&y.Item==x.Item&&y.Branch==x.Branch)<;>rfl)
 rw[show zae zum (l,(i:Int),0,())=_ from h,zay]
theorem z68 {l:List Rule} (hl:l.length<1000000000):zae z0r (l,0,())=some (if zb6 (zgg l) 0 l==0 then .inl () else .inr (zb6 (zgg l) 0 l,())):=by
 have h:=zdr (step:=z0r) (fun i=>(l,(i:Int),())) l (zgg l) (.inl ()) (fun e=>.inr (e,())) hl
  (by simp only[z0r,dge,cond_false])
  (fun i x hx=>by
   have hi:=(List.getElem?_eq_some_iff.1 hx).1
   unfold zgg
   simp only[zc4,z0r,dlt hi,zaj,hx,cond_true,zay4,z69 hl hx]
   cases zh3 x with
   |false=>rfl
   |true=>
    simp only[Bool.not_true,cond_false]
    cases (l.take i).all (fun y=>!(zg2 y x)) with
    |true=>simp only[cond_true,zap (show i<9223372036854775807 by omega)];rfl
    |false=>rfl)
 exact h
def zfz (l:List Rule):Int:=bif decide (32<(l.length:Int)) then 13 else zb6 (zgg l) 0 l
theorem za08 {l:List Rule} (hl:l.length<1000000000):qj l=some (zfz l):=by
 unfold qj zfz
 rw[z68 hl]
 generalize zb6 (zgg l) 0 l=e
 cases decide (32<(l.length:Int)) with
 |true=>rfl
 |false=>
  by_cases h:e=0
  ·subst h;rfl
  ·have h2:(e==0)=false:=by simpa using h
   simp only[h2,Bool.false_eq_true,if_false,cond_false]
def incr (l:List Int):Bool:=zct (fun i x=>!(zcd l i (fun y=>decide (x≤y)))) 0 l
theorem zsw {X:Type} {p:Nat→X→Bool}:∀{l:List X} {i:Nat},zct p (i+1) l=zct (fun i=>p (i+1)) i l:=by
 intro l
 induction l with
 |nil=>intros;rfl
 |cons x l ih=>intro i;simp only[zct];rw[ih]
theorem z4t (l:List Int):incr l=zct (fun i x=>!(zcd l (i+1) (fun y=>decide (x≤y)))) 0 l.tail:=by
 cases l with
 |nil=>rfl
 |cons x l=>
  unfold incr
  simp only[zct,List.tail_cons]
  rw[zsw]
  try rfl
def zcf (c:Calendar):Int:=
 bif decide (c.Week<0)||decide (126<c.Week) then 1
 else bif decide (64<(c.Closed.length:Int)) then 13
 else bif c.Closed.all (fun x=>!(decide (x<0)||decide (109572<x))) then (bif incr c.Closed then 0 else 7) else 2
theorem z7b {c:Calendar} (hl:c.Closed.length<1000000000):zae zuu (0,c,())=some (bif c.Closed.all (fun x=>!(decide (x<0)||decide (109572<x))) then .inl (c,()) else .inr (2,())):=by
 have h:=zav (step:=zuu) (fun i=>((i:Int),c,())) c.Closed (fun _ x=>!(decide (x<0)||decide (109572<x))) (.inr (2,())) (.inl (c,())) hl
  (by simp only[zuu,dge,cond_false])
  (fun i x hx=>by
   have hi:=(List.getElem?_eq_some_iff.1 hx).1
   simp -zeta only[zuu,dlt hi,zaj,hx,k_or,za6,cond_true,zap (show i<9223372036854775807 by omega)]
   cases (decide (x<0)||decide (109572<x))<;>rfl)
 rw[show zae zuu (0,c,())=_ from h,zay]
theorem z0v {c:Calendar} (hl:c.Closed.length<1000000000):zae zk0 (1,c,())=some (bif incr c.Closed then .inl () else .inr (7,())):=by
 have h:=zav (step:=zk0) (fun i=>(((i+1:Nat):Int),c,())) c.Closed.tail (fun i x=>!(zcd c.Closed (i+1) (fun y=>decide (x≤y)))) (.inr (7,())) (.inl ()) (by rw[List.length_tail];omega)
  (by
   rw[List.length_tail]
   have:decide (((c.Closed.length-1+1:Nat):Int)<(c.Closed.length:Int))=false:=by rw[decide_eq_false_iff_not];omega
   simp only[zk0,this,cond_false])
  (fun i x hx=>by
   rw[List.getElem?_tail]at hx
   have hi:=(List.getElem?_eq_some_iff.1 hx).1
   have hj:c.Closed[i]?=some c.Closed[i]:=List.getElem?_eq_getElem (by omega)
   simp -zeta only[zk0,dlt hi,zaj,hx,cond_true,zgi (show i<1000000000 by omega),hj,zcd,zap (show i+1<9223372036854775807 by omega)]
   cases decide (x≤c.Closed[i])<;>rfl)
 rw[show zae zk0 (1,c,())=_ from h,z4t]
theorem zae3 {c:Calendar} (hl:c.Closed.length<1000000000):qy c=some (zcf c):=by
 unfold qy zcf
 simp -zeta only[k_or]
 dsimp only
 rw[z7b hl]
 cases (decide (c.Week<0)||decide (126<c.Week)) with
 |true=>rfl
 |false=>
  cases decide (64<(c.Closed.length:Int)) with
  |true=>rfl
  |false=>
   cases c.Closed.all (fun x=>!(decide (x<0)||decide (109572<x))) with
   |false=>rfl
   |true=>
    simp only[cond_false,cond_true,z0v hl]
    cases incr c.Closed<;>rfl
end Go.Proofs.YtdahfgialanmpaaGreatDoor
namespace Go.Proofs.YtdahfgialanmpaaGreatDoor
open Ev
open Go (IntKind)
def zazh (state:Int):Bool:=(state==4||state==5||state==8||state==9||state==10)
theorem zky (state:Int):qfo state=some (zazh state):=by
 unfold qfo
 try simp -zeta only[k_or,za6,zly,zcw,cond_true,cond_false]
 try dsimp only
 try simp only[zcw]
 try rfl
def z65 (c:Custody):Bool:=(bif decide (c.State<1)||decide (12<c.State)||decide (c.Branch<1)||decide (4<c.Branch) then false
 else
  bif c.State==6 then
   decide (0≤c.Who)&&decide (c.Who≤9999)&&decide (1≤c.To)&&decide (c.To≤4)&&!c.To==c.Branch
  else
   bif !c.To==0 then false
   else bif zazh c.State then decide (1≤c.Who)&&decide (c.Who≤9999) else c.Who==0)
theorem zkx (c:Custody):qdw c=some (z65 c):=by
 unfold qdw
 try simp -zeta only[k_or,za6,zly,zcw,cond_true,cond_false,zky]
 try dsimp only
 try simp only[zcw]
 try rfl
def z67 (m:Move):Bool:=(decide (0≤m.Day)&&decide (m.Day≤109572)&&decide (1≤m.Item)&&decide (m.Item≤9999)&&
 decide (1≤m.Kind)&&
 decide (m.Kind≤15)&&
 decide (1≤m.Branch)&&
 decide (m.Branch≤4)&&
 decide (0≤m.Who)&&
 decide (m.Who≤9999))
theorem zni (m:Move):qes m=some (z67 m):=by
 unfold qes
 try simp -zeta only[k_or,za6,zly,zcw,cond_true,cond_false,zky,zkx]
 try dsimp only
 try simp only[zcw]
 try rfl
def z63 (kind:Int):(List Int):=(bif kind==1 then [1]
 else
  bif kind==2 then [2,5]
  else
   bif kind==3 then [3,5]
   else
    bif kind==4 then [4,8,9,10]
    else
     bif kind==5||kind==8 then [2,3]
     else
      bif kind==6 then [2,3,5]
      else
       bif kind==7 then [6]
       else
        bif kind==9 then [7]
        else
         bif kind==10 then [3]
         else
          bif kind==11 then [4]
          else
           bif kind==12 then [4,9]
           else
            bif kind==13 then [2,3,5,6,7]
            else bif kind==14 then [11] else bif kind==15 then [1,2,3,11,10] else [])
theorem zse (kind:Int):qdf kind=some (z63 kind):=by
 unfold qdf
 try simp -zeta only[k_or,za6,zly,zcw,cond_true,cond_false,zky,zkx,zni]
 try dsimp only
 try simp only[zcw]
 try rfl
def zew (kind:Int):Int:=(bif kind==1||(kind==4||(kind==7||(kind==9||kind==14))) then 2
 else
  bif kind==2 then 3
  else
   bif kind==3 then 4
   else
    bif kind==5 then 5
    else
     bif kind==6 then 6
     else
      bif kind==8 then 7
      else
       bif kind==10 then 8
       else bif kind==11 then 9 else bif kind==12 then 10 else bif kind==13 then 11 else 12)
theorem zyh (kind:Int):qfv kind=some (zew kind):=by
 unfold qfv
 try simp -zeta only[k_or,za6,zly,zcw,cond_true,cond_false,zky,zkx,zni,zse]
 try dsimp only
 try simp only[zcw]
 try rfl
def zarr (c:Custody) (m:Move):Bool:=(bif m.Kind==1||(m.Kind==4||(m.Kind==9||m.Kind==14)) then m.Who==0
 else
  bif m.Kind==7 then m.Who==0&&m.Branch==c.To
  else
   bif m.Kind==6 then !m.Branch==c.Branch
   else
    bif m.Kind==3||(m.Kind==5||m.Kind==10) then m.Branch==c.Branch&&decide (1≤m.Who)
    else m.Branch==c.Branch&&m.Who==0)
theorem z64 (c:Custody) (m:Move):qdh c m=some (zarr c m):=by
 unfold qdh
 try simp -zeta only[k_or,za6,zly,zcw,cond_true,cond_false,zky,zkx,zni,zse,zyh]
 try dsimp only
 try simp only[zcw]
 try rfl
def zul (branch:Int):Custody:={State:=1,Branch:=branch,Who:=0,To:=0}
theorem zajd (branch:Int):qdv branch=some (zul branch):=by
 unfold qdv
 try simp -zeta only[k_or,za6,zly,zcw,cond_true,cond_false,zky,zkx,zni,zse,zyh,z64]
 try dsimp only
 try simp only[zcw]
 try rfl
def zpe (u:Custody):Bool:=(u.State==4||u.State==9||u.State==10)
theorem zajg (u:Custody):qel u=some (zpe u):=by
 unfold qel
 try simp -zeta only[k_or,za6,zly,zcw,cond_true,cond_false,zky,zkx,zni,zse,zyh,z64,zajd]
 try dsimp only
 try simp only[zcw]
 try rfl
end Go.Proofs.YtdahfgialanmpaaGreatDoor
namespace Go.Proofs.YtdahfgialanmpaaGreatDoor
open Ev
open Go (IntKind)
theorem hasX {X:Type} {p:X→Bool}:∀{l:List X} {i:Nat},zeq p (fun _ _=>true) false i l=l.any p:=by
 intro l
 induction l with
 |nil=>intros;rfl
 |cons x l ih=>intro i;simp only[zeq,List.any_cons];cases p x with|true=>rfl|false=>rw[cond_false,ih,Bool.false_or]
def zvt (state kind:Int):Bool:=(z63 kind).any (fun x=>x==state)
theorem zach {X:Type} {b:Bool} {x y:List X} {n:Nat} (hx:x.length<n) (hy:y.length<n):(bif b then x else y).length<n:=by cases b<;>assumption
theorem z1b (kind:Int):(z63 kind).length<10:=by
 unfold z63
 repeat' first|apply zach|decide
theorem zayn (state kind:Int):qao state kind=some (zvt state kind):=by
 unfold qao zvt
 rw[zse]
 have hl:=z1b kind
 generalize z63 kind=l at hl ⊢
 have h:=zbn (step:=zm9) (fun i=>(state,l,(i:Int),())) l (fun x=>x==state) (fun _ _=>(.inr (true,()):Unit⊕(Bool×Unit))) (.inl ()) (by omega)
  (by simp only[zm9,dge,cond_false])
  (fun i x hx=>by
   have hi:=(List.getElem?_eq_some_iff.1 hx).1
   simp only[zm9,dlt hi,zaj,hx,cond_true,zap (show i<9223372036854775807 by omega)])
 dsimp only
 rw[show zae zm9 (state,l,0,())=_ from h,←hasX (i:=0)]
 have key:∀(l:List Int) (i:Nat),(match some (zeq (fun x=>x==state) (fun _ _=>(.inr (true,()):Unit⊕(Bool×Unit))) (.inl ()) i l) with|some (.inl _)=>some false|some (.inr (v,_))=>some v|none=>none)=some (zeq (fun x=>x==state) (fun _ _=>true) false i l):=by
  intro l
  induction l with
  |nil=>intro i;rfl
  |cons x l ih=>intro i;simp only[zeq];cases x==state with|true=>rfl|false=>exact ih _
 exact key l 0
def zcv (c:Custody) (m:Move):Custody×Int:=
 bif !(z65 c)||!(z67 m) then (⟨0,0,0,0⟩,1)
 else bif !(zvt c.State m.Kind) then (⟨0,0,0,0⟩,12)
 else bif m.Kind==3&&c.State==5&&!(m.Who==c.Who) then (⟨0,0,0,0⟩,16)
 else bif !(zarr c m) then (⟨0,0,0,0⟩,1)
 else bif zew m.Kind==2 then (⟨zew m.Kind,m.Branch,0,0⟩,0)
 else bif zew m.Kind==4||(zew m.Kind==5||zew m.Kind==8) then (⟨zew m.Kind,c.Branch,m.Who,0⟩,0)
 else bif zew m.Kind==6 then (⟨zew m.Kind,c.Branch,m.Who,m.Branch⟩,0)
 else bif zew m.Kind==9||zew m.Kind==10 then (⟨zew m.Kind,c.Branch,c.Who,0⟩,0)
 else (⟨zew m.Kind,c.Branch,0,0⟩,0)
theorem zay5 (c:Custody) (m:Move):qcy c m=some (zcv c m):=by
 unfold qcy zcv
 simp -zeta only[k_or,za6,zly,zkx,zni,zayn,z64,zyh]
 dsimp only
 simp only[zcw]
def zc8:Nat→List Move→Int→Custody→(Custody⊕(Int×Int))
 |_,[],_,c=>.inl c
 |i,x::l,item,c=>bif x.Item==item then (bif (zcv c x).2==0 then zc8 (i+1) l item (zcv c x).1 else .inr ((i:Int),(zcv c x).2)) else zc8 (i+1) l item c
def zd0 (branch:Int) (l:List Move) (item:Int):Custody×Int×Int:=
 bif decide (branch<1)||decide (4<branch) then (⟨0,0,0,0⟩,-1,1)
 else match zc8 0 l item (zul branch) with
  |.inl c=>(c,-1,0)
  |.inr (i,e)=>(⟨0,0,0,0⟩,i,e)
theorem zu2 {β:Type} (item:Int) (fin:Custody→β) (out:Int×Int→β):∀(l:List Move) (i:Nat) (c:Custody),
 zdl (fun i x c=>bif x.Item==item then (bif (zcv c x).2==0 then .inl (zcv c x).1 else .inr (out ((i:Int),(zcv c x).2))) else .inl c) fin i l c=(match zc8 i l item c with | .inl c=>fin c | .inr p=>out p):=by
 intro l
 induction l with
 |nil=>intros;rfl
 |cons x l ih=>
  intro i c
  simp only[zdl,zc8]
  cases x.Item==item with
  |false=>exact ih _ _
  |true=>
   simp only[cond_true]
   cases (zcv c x).2==0 with
   |true=>exact ih _ _
   |false=>rfl
theorem zaym {branch:Int} {l:List Move} {item:Int} (hl:l.length<1000000000):qan branch l item=some (zd0 branch l item):=by
 unfold qan zd0
 simp -zeta only[k_or,zajd]
 dsimp only
 have h:=zd3 (step:=zm8) (fun i c=>(l,item,(i:Int),(⟨0,0,0,0⟩:Custody),c,())) l
  (fun i x c=>bif x.Item==item then (bif (zcv c x).2==0 then .inl (zcv c x).1 else .inr (.inr ((i:Int),(zcv c x).2,(⟨0,0,0,0⟩:Custody),()))) else .inl c)
  (fun c=>.inl (⟨0,0,0,0⟩,c,())) (by show l.length<18446744073709551616;omega) (fun c=>by simp only[zm8,dge,cond_false])
  (fun i x c hx=>by
   have hi:=(List.getElem?_eq_some_iff.1 hx).1
   simp only[zm8,dlt hi,zaj,hx,cond_true,zay5,zap (show i<9223372036854775807 by omega)]
   cases x.Item==item with
   |false=>rfl
   |true=>
    simp only[Bool.not_true,cond_false,cond_true]
    obtain ⟨d,e⟩:=zcv c x
    cases he:e==0 with
    |true=>rfl
    |false=>rfl) (zul branch)
 rw[zu2 item (fun c=>(.inl (⟨0,0,0,0⟩,c,()):(Custody×Custody×Unit)⊕(Int×Int×Custody×Unit))) (fun p=>.inr (p.1,p.2,(⟨0,0,0,0⟩:Custody),()))]at h
 rw[show zae zm8 (l,item,0,(⟨0,0,0,0⟩:Custody),zul branch,())=_ from h]
 cases (decide (branch<1)||decide (4<branch)) with
 |true=>rfl
 |false=>
  simp only[cond_false]
  cases zc8 0 l item (zul branch) with
  |inl c=>rfl
  |inr p=>rfl
end Go.Proofs.YtdahfgialanmpaaGreatDoor
