/- OfflineRestores: a part of the proof of the given statement, which is proved without conditions. -/
import Derived.Test.YtpdenibljogamaaGreatDoorT1
import Derived.MapKept
import Derived.Carry
import Derived.Laws.IdiomStrings
import Derived.Laws.BytesArg
import Derived.LoopN
set_option linter.all false
namespace Go.Proofs.YtpdenibljogamaaGreatDoor.Ev
open Go
section
def o0 (P:Program) (f:Nat) (vs:Array Value) (w:World) (Q:Value→World→Prop):Prop:=
 match (callFunc f vs).run P w with
 |.ok (.value v) w'=>Q v w'
 |.ok (.enter f' vs') w'=>Calls P f' vs' w' (fun e w''=>match e with | .returned v=>Q v w''|_=>False)
 |_=>False
theorem o0.mono {P:Program} {f:Nat} {vs:Array Value} {w:World} {Q Q':Value→World→Prop} (h:o0 P f vs w Q) (hq:∀v w',Q v w'→Q' v w'):o0 P f vs w Q':=by
 unfold o0 at *;generalize (callFunc f vs).run P w=r at *;split at h
 ·exact hq _ _ h
 ·exact Calls.mono h (fun e w'' he=>by cases e<;>first|exact hq _ _ he|exact he)
 ·exact h.elim
theorem o0.wp {P:Program} {o:Oper} {a:Act} {f:Nat} {vs:Array Value} {w:World} {Qv:Value→World→Prop} {next:Act→World→Prop} {Q:Exit→Act→World→Prop}
 (hrun:(execOp a.eval o).run P w=(callFunc f vs).run P w) (h:o0 P f vs w Qv) (hn:∀v w',Qv v w'→next (a.put o.dst v) w'):o.wp P a w next Q:=by
 unfold Oper.wp;rw[hrun];unfold o0 at h;generalize (callFunc f vs).run P w=r at *;split at h
 ·exact hn _ _ h
 ·exact Calls.mono h (fun e w'' he=>by cases e<;>first|exact hn _ _ he|exact he.elim)
 ·exact h.elim
section
variable {κ:Type} {El:κ→Type} {S:Sg κ El} {P:Program}
variable {c:Cx} {st:St κ El} {g:Gh} {a:Act} {w:World} {R:Type} [KdEq κ]
variable {o:Oper} {q:Bool} {call:Nat→List (D κ El)→List (List (D κ El))→(D κ El→List (List (D κ El))→Option R)→Option R} {k:St κ El→Option R} {r:R}
structure Pre (S:Sg κ El) (w:World) (I J:Nat→Nat→Prop) (mb:List Nat):Prop where
 gl:a52 S w I
 ib:∀b o,I b o→b<w.heap.size
 ij:∀b o,I b o→J b o
 jb:∀b o,J b o→b<w.heap.size∧b∉mb
 gb:b2p S w mb
def b37 (S:Sg κ El) (w:World) (I J:Nat→Nat→Prop) (blk:Nat) (cs:List (D κ El)):Prop:=
 ∃vals t,w.heap[blk]?=some (.cells vals t (0,0))∧vals.size=cs.length∧∀(i:Nat) (v:Value) (d:D κ El),vals[i]?=some v→cs[i]?=some d→DR S w I J v d
structure GrowM (mb:List Nat) (w w':World) (I I':Nat→Nat→Prop):Prop where
 size:w.heap.size≤w'.heap.size
 os:w'.os=w.os
 out:w'.output=w.output
 tape:w'.tape=w.tape
 keep:∀b,b<w.heap.size→b∉mb→w'.heap[b]?=w.heap[b]?
 hI:∀b o,I b o→I' b o
 new:∀b o,I' b o→I b o∨w.heap.size≤b
 ib:∀b o,I' b o→b<w'.heap.size
theorem GrowM.grow {w w':World} {I I':Nat→Nat→Prop} (h:GrowM [] w w' I I'):Grow w w' I I':=⟨h.size,h.os,h.out,h.tape,fun b hb=>h.keep b hb (by simp),h.hI,h.new,h.ib⟩
def a6d (S:Sg κ El) (w:World) (I J:Nat→Nat→Prop) (vs:Array Value) (ds:List (D κ El)):Prop:=
 vs.size=ds.length∧∀(i:Nat) v d,vs[i]?=some v→ds[i]?=some d→DR S w I J v d
def c5d (S:Sg κ El) (w:World) (I J:Nat→Nat→Prop) (bls:List Nat) (v:Value) (d:D κ El):Prop:=
 (∃j blk off,d=.ptr (MB+j) off∧bls[j]?=some blk∧v=.pointer (some ⟨blk,off,none⟩))∨DR S w I J v d
def b7u (S:Sg κ El) (w:World) (I J:Nat→Nat→Prop) (mb:List Nat) (k:κ) (xs:List (El k)) (v:Value):Prop:=
 ∃base cap,v=.slice base xs.length cap∧xs.length≤cap∧((cap=0∧mb=[])∨∃blk vals t,mb=[blk]∧base=some ⟨blk,0,none⟩∧w.heap[blk]?=some (.cells vals t (0,0))∧vals.size=cap*S.sz k∧
  ∀i (hi:i<xs.length) j d,(S.enc k xs[i])[j]?=some d→∃v,vals[i*S.sz k+j]?=some v∧DR S w I J v d)
def d0z (S:Sg κ El) (w:World) (I:Nat→Nat→Prop) (lo:Nat) (mb:List Nat) (k:κ) (xs:List (El k)) (v:Value):Prop:=
 ∃base cap,v=.slice base xs.length cap∧xs.length≤cap∧(cap=0∨∃blk vals t,base=some ⟨blk,0,none⟩∧w.heap[blk]?=some (.cells vals t (0,0))∧vals.size=cap*S.sz k∧(lo≤blk∨blk∈mb)∧(∀o,¬I blk o)∧
  ∀i (hi:i<xs.length) j d,(S.enc k xs[i])[j]?=some d→∃v,vals[i*S.sz k+j]?=some v∧DR S w I I v d)
def c9i (S:Sg κ El) (w:World) (I:Nat→Nat→Prop) (lo:Nat) (k:κ) (xs:List (El k)) (v:Value):Prop:=
 S.isb k=false∧∃blk es clk,v=.map (some blk)∧w.heap[blk]?=some (.map es clk)∧lo≤blk∧es.size=xs.length∧
  ∀(i:Nat) (e:MapEntry) (x:El k),es[i]?=some e→xs[i]?=some x→∃kd vd,S.enc k x=[kd,vd]∧DR S w I I e.key kd∧DR S w I I e.val vd
def Con (P:Program) (S:Sg κ El) (f:Nat) (ds:List (D κ El)) (bs:List (List (D κ El))) (d:D κ El) (bs':List (List (D κ El))):Prop:=
 match S.md f with
 |.data=>bs'=[]→∀w I J vs,Pre S w I J []→a6d S w I J vs ds→o0 P f vs w fun v w'=>∃I',Grow w w' I I'∧DR S w' I' I' v d
 |.fresh=>bs'=[]→∀k xs,d=.lst k xs→∀w I J vs,Pre S w I J []→a6d S w I J vs ds→o0 P f vs w fun v w'=>∃I',Grow w w' I I'∧b7t S w' I' w.heap.size k xs v
 |.newb=>∀cs,bs'=[cs]→∀w I J vs,Pre S w I J []→a6d S w I J vs ds→o0 P f vs w fun v w'=>∃I' blk,Grow w w' I I'∧v=.pointer (some ⟨blk,0,none⟩)∧w.heap.size≤blk∧(∀o,¬I' blk o)∧b37 S w' I' I' blk cs
 |.nmap=>bs'=[]→∀x k xs,d=.tup [x,.lst k xs]→∀w I J vs,Pre S w I J []→a6d S w I J vs ds→o0 P f vs w fun v w'=>∃I' v1 v2,Grow w w' I I'∧v=.tuple #[v1,v2]∧DR S w' I' I' v1 x∧c9i S w' I' w.heap.size k xs v2
 |.mut=>∀w I J vs bls,Pre S w I J bls→bls.Nodup→bls.length=bs.length→vs.size=ds.length→(∀(i:Nat) v d,vs[i]?=some v→ds[i]?=some d→c5d S w I J bls v d)→
  (∀(j:Nat) blk cs,bls[j]?=some blk→bs[j]?=some cs→b37 S w I J blk cs)→
  o0 P f vs w fun v w'=>∃I',GrowM bls w w' I I'∧DR S w' I' I' v d∧bs'.length=bs.length∧(∀(j:Nat) blk cs,bls[j]?=some blk→bs'[j]?=some cs→b37 S w' I' I' blk cs)
 |.cons=>bs'=[]→∀k xs ds0,ds=.lst k xs::ds0→∀k' xs',d=.lst k' xs'→∀w I J mb v0 vs,Pre S w I J mb→b7u S w I J mb k xs v0→a6d S w I J vs ds0→
  o0 P f (#[v0]++vs) w fun v w'=>∃I',GrowM mb w w' I I'∧d0z S w' I' w.heap.size mb k' xs' v
 |.inpl=>bs'=[]→∀k xs ds0,ds=.lst k xs::ds0→∀xs',d=.lst k xs'→∀w I J mb v0 vs,Pre S w I J mb→b7u S w I J mb k xs v0→a6d S w I J vs ds0→
  o0 P f (#[v0]++vs) w fun v w'=>v=.tuple #[]∧xs'.length=xs.length∧∃I',GrowM mb w w' I I'∧b7u S w' I' I' mb k xs' v0
 |.bld=>True
def j7 (P:Program) (S:Sg κ El) (call:Nat→List (D κ El)→List (List (D κ El))→(D κ El→List (List (D κ El))→Option R)→Option R):Prop:=
 ∀f ds bs k r,call f ds bs k=some r→∃d bs',k d bs'=some r∧Con P S f ds bs d bs'
theorem n8 {o:Oper} {cl:Call} {fo:Operand} (ho:o.op=.call cl) (hc:cl.callee=.value fo) {a:Act} {f:Nat} {p cp:Array Value} (hf:a.eval fo=.func (.func f) p cp) (w:World) :
 (execOp a.eval o).run P w=(callFunc f (p++cl.args.map a.eval++cp)).run P w:=by
 unfold execOp;simp only[ho,resolve,hc,hf,Deferred.ofValue];rfl
theorem o8 (hr:Rel S c st g a w) {fo:Operand} {f:Nat} {pre caps:List (D κ El)} {xs:Array Operand} (hf:opd st fo=.fn f pre caps) :
 ∃p cp:Array Value,a.eval fo=.func (.func f) p cp∧(p++xs.map a.eval++cp).size=(pre++xs.toList.map (opd st)++caps).length∧
  ∀(i:Nat) v d,(p++xs.map a.eval++cp)[i]?=some v→(pre++xs.toList.map (opd st)++caps)[i]?=some d→VR S w g v d:=by
 have hv:=hr.opd fo;rw[hf]at hv;obtain ⟨p,cp,e,hp,hc,w1,w2⟩:=hv.fn_inv;refine ⟨p,cp,e,by simp;omega,fun i v d h1 h2=>?_⟩;by_cases ha:i<(pre++xs.toList.map (opd st)).length
 ·rw[yar ha]at h2;have ha':i<(p++xs.map a.eval).size:=by simp at ha ⊢;omega
  rw[yaX ha']at h1;by_cases hb:i<pre.length
  ·rw[yar hb]at h2;rw[yaX (by omega)]at h1;exact w1 i v d h1 h2
  ·rw[yax (by omega)]at h2;rw[ya6 (by omega),hp]at h1;exact b6s hr xs _ v d h1 h2
 ·rw[yax (by omega)]at h2;have ha':(p++xs.map a.eval).size≤i:=by simp at ha ⊢;omega
  rw[ya6 ha']at h1;have e:(p++xs.map a.eval).size=(pre++xs.toList.map (opd st)).length:=by simp;omega
  rw[e]at h1;exact w2 _ v d h1 h2
theorem Dat.args {vs:Array Value} {cs cs':List (D κ El)} {g g':Gh} {J:Nat→Nat→Prop} (h:Dat S w g g' J cs cs') (hs:vs.size=cs.length) (hv:∀(i:Nat) v d,vs[i]?=some v→cs[i]?=some d→VR S w g v d):a6d S w g'.I J vs cs':=by
 refine ⟨by rw[hs,h.1],fun i v d h1 h2=>?_⟩;have hi:i<cs.length:=by rw[←h.1];exact (zL h2)
 obtain ⟨d2,h3,h4⟩:=h.2 i cs[i] (yaa hi);rw[h2]at h3;cases h3
 exact h4 v (hv i v _ h1 (yaa hi))
theorem Rel.j_lt (hr:Rel S c st g a w) {b o:Nat} (hj:g.J b o):b<w.heap.size:=by
 rcases hr.j1 b o hj with hi|hj0
 ·exact hr.ib b o hi
 ·exact yat (hr.jm b o hj0).1 hr.sz
theorem Rel.pre (hr:Rel S c st g a w):Pre S w g.I (LJ (fun _=>True) g) []:=
 ⟨hr.gl,hr.ib,fun b o hi=>.inl (hr.ij b o hi),fun b o hj=>⟨hj.elim hr.j_lt (fun ⟨n,_,hb⟩=>hr.bx_lt hb),by simp⟩,hr.globB (fun b hb=>by cases hb)⟩
theorem DR.gI {w':World} {I':Nat→Nat→Prop} {v:Value} {d:D κ El} (h:DR S w' I' I' v d):DR S w' (gI g I').I (gI g I').J v d:=
 h.mono (fun b o hi=>⟨rfl,hi⟩) (fun b o hi=>⟨rfl,.inl hi⟩)
theorem b41 (sgk:SgOk S) (cok:j7 P S call) {cl:Call} {fo:Operand} {f:Nat} {pre caps:List (D κ El)} (ho:o.op=.call cl) (hc:cl.callee=.value fo) (hf:opd st fo=.fn f pre caps) (hm:S.md f=.data)
 (h:g8 S call q st o.dst f (pre++cl.args.toList.map (opd st)++caps) k=some r):l5 P S o st k r:=by
 unfold g8 at h;rw[hm]at h;have h:(match m6 st (pre++cl.args.toList.map (opd st)++caps) with
  |some (st,ds)=>call f ds [] (fun d bs=>match bs with | []=>k (put st o.dst d)|_=>none)
  |none=>none)=some r:=by cases q<;>exact h
 split at h
 ·rename_i st1 ds hdat;obtain ⟨d,bs',hk,hcon⟩:=cok _ _ _ _ _ h;split at hk
  ·refine ⟨_,hk,fun c g a w hr hd next Q hn=>?_⟩;obtain ⟨p,cp,e,hs,hv⟩:=o8 (xs:=cl.args) hr hf;obtain ⟨g1,r1,l1,b1,e1,x1,hdd⟩:=p8 (N:=fun _=>True) sgk (fun _ _ _ _=>trivial) hdat hr;unfold Con at hcon;rw[hm]at hcon;have hcall:=hcon rfl w g1.I (LJ (fun _=>True) g1) _ r1.pre (hdd.args hs hv);refine o0.wp (n8 ho hc e w) hcall (fun v w' hq=>?_);obtain ⟨I',hg,hdr⟩:=hq;exact hn _ _ _ ((r1.grow hg).1.put (.data hdr.gI) hd)
  ·cases hk
 ·cases h
theorem Rel.growNewMap (hr:Rel S c st g a w) {w':World} {I':Nat→Nat→Prop} (h:Grow w w' g.I I') {n:Nat} {k:κ} {xs:List (El k)} {v1 v2:Value} {x:D κ El} (hn:b9 n st.ar=none) (hne:n<MA)
 (hx:DR S w' I' I' v1 x) (hv:c9i S w' I' w.heap.size k xs v2) (hdst:n<c.nt) :
 ∃g',Rel S c {Ev.put st (some n) (.tup [x,.arr n 0]) with ar:=(n,⟨k,xs,0,true,true⟩)::st.ar} g' (a.put (some n) (.tuple #[v1,v2])) w':=by
 obtain ⟨hisb,blk,es,clk,rfl,e1,e2,e4,e5⟩:=hv;have s:=h.stepArr (n:=n) (z:=S.sz k) (v:=.map (some blk)) (blk:=some blk) hr.ol (fun b hb=>by cases hb;exact (yad.1 e1).1) (hr.ad_not hn) (fun b hb=>by cases hb;exact e2);have le:=s.le hr;refine ⟨_,hr.step s (by rw[Act.put_size];exact hr.nt) (by rw[Act.put_defers'];exact hr.df) (fun s d' hs=>?_) (fun b cs' hb'=>?_) hr.bd (fun m A hA=>?_) (fun m hm=>?_)⟩
 ·refine hr.env_put le (d:=.tup [x,.arr n 0]) (.tup #[v1,.map (some blk)] _ rfl (fun i v d h1 h2=>?_)) (fun t ht=>by cases ht;exact hdst) hs
  match i,h1,h2 with
  |0,h1,h2=>
   cases h1;cases h2
   exact .data (hx.mono (fun b o hi=>⟨rfl,hi⟩) (fun b o hi=>⟨rfl,.inl hi⟩))
  |1,h1,h2=>
   cases h1;cases h2
   refine .arr _ n 0 (.inr (.inl ⟨_,rfl⟩)) (.inl rfl) (ya7 _) (fun v' hv'=>?_);have hv':(if n=n then (if (0:Nat)=0 then some (Value.map (some blk)) else none) else g.av n 0)=some v':=hv';rw[yaq rfl,yaq rfl]at hv';cases hv';rfl
  |i+2,h1,h2=>simp at h2
 ·have hb':b9 b st.bx=some cs':=by simpa[Ev.put]using hb'
  exact .inl ⟨hb',fun _ _ hf=>hf⟩
 ·replace hA:b9 m ((n,⟨k,xs,0,true,true⟩)::st.ar)=some A:=hA;rw[c7]at hA;split at hA
  ·rename_i e;subst e;cases hA
   refine .inr ⟨.inl rfl,by simp[a2u],by simp[a2u],fun h=>(by cases h),fun ver v hv=>?_,fun e=>absurd e (by omega),fun _ _=>.inl ⟨hisb,blk,es,clk,by simp[a2u],e1,by simp[a2u],e4,fun i e x he hx=>?_⟩⟩
   ·have hv:(if m=m then (if ver=0 then some (Value.map (some blk)) else none) else g.av m ver)=some v:=hv;rw[yaq rfl]at hv;split at hv
    ·rename_i e;exact ⟨e,.inr rfl⟩
    ·cases hv
   ·obtain ⟨kd,vd,h1,h2,h3⟩:=e5 i e x he hx;exact ⟨kd,vd,h1,h2.mono (fun b o hi=>⟨rfl,hi⟩) (fun b o hi=>⟨rfl,.inl hi⟩),h3.mono (fun b o hi=>⟨rfl,hi⟩) (fun b o hi=>⟨rfl,.inl hi⟩)⟩
  ·rename_i e;refine .inl ⟨hA,fun ver=>?_,?_,fun _ _ hf=>hf,h.keepArr hr⟩
   ·show (if m=n then _ else g.av m ver)=_
    rw[yah e]
   ·show (if m=n then 0 else g.vc m)=_
    rw[yah e]
 ·show ∃A,b9 m ((n,⟨k,xs,0,true,true⟩)::st.ar)=some A
  rw[c7];split
  ·exact ⟨_,rfl⟩
  ·rename_i e;exact hr.ad m (hm.resolve_left e)
theorem b44 (sgk:SgOk S) (cok:j7 P S call) {cl:Call} {fo:Operand} {f:Nat} {pre caps:List (D κ El)} (ho:o.op=.call cl) (hc:cl.callee=.value fo) (hf:opd st fo=.fn f pre caps) (hm:S.md f=.nmap)
 (h:g8 S call q st o.dst f (pre++cl.args.toList.map (opd st)++caps) k=some r):l5 P S o st k r:=by
 unfold g8 at h;rw[hm]at h;cases q with
 |true=>cases h
 |false=>
  simp only at h;split at h
  ·rename_i st1 ds n hdat hdst;obtain ⟨d,bs',hk,hcon⟩:=cok _ _ _ _ _ h;split at hk
   ·split at hk
    ·rename_i x kd xs;rw[c6]at hk;split at hk
     ·rename_i hfr;rw[yab]at hfr;have hlt:n<MA:=yaE hfr.2;refine ⟨_,hk,fun c g a w hr hd next Q hn=>?_⟩;obtain ⟨p,cp,e,hs,hv⟩:=o8 (xs:=cl.args) hr hf;obtain ⟨g1,r1,l1,b1,e1,x1,hdd⟩:=p8 (N:=fun _=>True) sgk (fun _ _ _ _=>trivial) hdat hr;unfold Con at hcon;rw[hm]at hcon;have hcall:=hcon rfl x kd xs rfl w g1.I (LJ (fun _=>True) g1) _ r1.pre (hdd.args hs hv);refine o0.wp (n8 ho hc e w) hcall (fun v w' hq=>?_);obtain ⟨I',v1,v2,hg,rfl,hx,hnew⟩:=hq;obtain ⟨g',hrel⟩:=r1.growNewMap hg (n:=n) (f8 hfr.1) hlt hx hnew (hd n hdst);refine hn g' _ w' ?_;rw[hdst];exact hrel
     ·cases hk
    ·cases hk
   ·cases hk
  ·cases h
theorem b20 (sgk:SgOk S) (cok:j7 P S call) {cl:Call} {fo:Operand} {f:Nat} {pre caps:List (D κ El)} (ho:o.op=.call cl) (hc:cl.callee=.value fo) (hf:opd st fo=.fn f pre caps) (hm:S.md f=.fresh)
 (h:g8 S call q st o.dst f (pre++cl.args.toList.map (opd st)++caps) k=some r):l5 P S o st k r:=by
 unfold g8 at h;rw[hm]at h;cases q with
 |true=>cases h
 |false=>
  simp only at h;split at h
  ·rename_i st1 ds n hdat hdst;obtain ⟨d,bs',hk,hcon⟩:=cok _ _ _ _ _ h;split at hk
   ·split at hk
    ·rename_i kd xs;rw[c6]at hk;split at hk
     ·rename_i hfr;refine ⟨_,hk,fun c g a w hr hd next Q hn=>?_⟩;obtain ⟨p,cp,e,hs,hv⟩:=o8 (xs:=cl.args) hr hf;obtain ⟨g1,r1,l1,b1,e1,x1,hdd⟩:=p8 (N:=fun _=>True) sgk (fun _ _ _ _=>trivial) hdat hr;unfold Con at hcon;rw[hm]at hcon;have hcall:=hcon rfl kd xs rfl w g1.I (LJ (fun _=>True) g1) _ r1.pre (hdd.args hs hv);refine o0.wp (n8 ho hc e w) hcall (fun v w' hq=>?_);obtain ⟨I',hg,hnew⟩:=hq;obtain ⟨g',hrel⟩:=r1.growArr hg (n:=n) (f8 hfr) hnew (hd n hdst);refine hn g' _ w' ?_;rw[hdst];exact hrel
     ·cases hk
    ·cases hk
   ·cases hk
  ·cases h
theorem b43 (sgk:SgOk S) (cok:j7 P S call) {cl:Call} {fo:Operand} {f:Nat} {pre caps:List (D κ El)} (ho:o.op=.call cl) (hc:cl.callee=.value fo) (hf:opd st fo=.fn f pre caps) (hm:S.md f=.newb)
 (h:g8 S call q st o.dst f (pre++cl.args.toList.map (opd st)++caps) k=some r):l5 P S o st k r:=by
 unfold g8 at h;rw[hm]at h;cases q with
 |true=>cases h
 |false=>
  simp only at h;split at h
  ·rename_i st1 ds n hdat hdst;obtain ⟨d,bs',hk,hcon⟩:=cok _ _ _ _ _ h;split at hk
   ·rename_i cs;rw[c6]at hk;split at hk
    ·rename_i hfr;refine ⟨_,hk,fun c g a w hr hd next Q hn=>?_⟩;obtain ⟨p,cp,e,hs,hv⟩:=o8 (xs:=cl.args) hr hf;obtain ⟨g1,r1,l1,b1,e1,x1,hdd⟩:=p8 (N:=fun _=>True) sgk (fun _ _ _ _=>trivial) hdat hr;unfold Con at hcon;rw[hm]at hcon;have hcall:=hcon cs rfl w g1.I (LJ (fun _=>True) g1) _ r1.pre (hdd.args hs hv);refine o0.wp (n8 ho hc e w) hcall (fun v w' hq=>?_);obtain ⟨I',blk,hg,rfl,hlo,hno,vals,t,hb,hsz,hvals⟩:=hq;obtain ⟨g',hrel⟩:=r1.growBox hg (d:=n) (blk:=blk) (cs:=cs) (f8 hfr) hlo (yad.1 hb).1 hno
      (fun g' le hI hJ=>⟨vals,t,hb,hsz,fun i v d h1 h2=>.data ((hvals i v d h1 h2).mono (fun b o hi=>⟨rfl,by rw[hI];exact hi⟩) (fun b o hi=>⟨rfl,hJ b o hi⟩))⟩) (hd n hdst)
     refine hn g' _ w' ?_;rw[hdst];exact hrel
    ·cases hk
   ·cases hk
  ·cases h
end
end
section
section
variable {κ:Type} {El:κ→Type} {S:Sg κ El} {P:Program}
variable {c:Cx} {st:St κ El} {g:Gh} {a:Act} {w:World} {R:Type} [KdEq κ]
variable {o:Oper} {q:Bool} {call:Nat→List (D κ El)→List (List (D κ El))→(D κ El→List (List (D κ El))→Option R)→Option R} {k:St κ El→Option R} {r:R}
def a0u (g:Gh) (n:Nat):Nat:=(g.bl n).getD 0
theorem b3h (sgk:SgOk S) {N:Nat→Prop}:∀{cs ds:List (D κ El)} {j:Nat} {ns:List Nat} {bss:List (List (D κ El))} {st st':St κ El} {g:Gh},
 (∀d∈cs,(∃b off,d=.ptr b off)∨∀b∈a8x d,N b)→n7 st j cs=some (st',ds,ns,bss)→Rel S c st g a w→
 ∃g',Rel S c st' g' a w∧Le w g w g'∧g'.bl=g.bl∧st'.env=st.env∧st'.bx=st.bx∧ds.length=cs.length∧ns.Nodup∧bss.length=ns.length∧
  (∀n∈ns,∃bs,b9 n st.bx=some bs)∧
  (∀(i:Nat) d,cs[i]?=some d→∃d',ds[i]?=some d'∧∀v,VR S w g v d→DR S w g'.I (LJ N g') v d'∨∃jj n off,d'=.ptr (MB+(j+jj)) off∧ns[jj]?=some n∧v=.pointer (some ⟨a0u g n,off,none⟩))∧
  (∀(jj:Nat) n bs,ns[jj]?=some n→bss[jj]?=some bs→b37 S w g'.I g'.J (a0u g n) bs):=by
 intro cs
 induction cs with
 |nil=>
  intro ds j ns bss st st' g hN h hr;simp only[n7,yaf,ybb]at h;obtain ⟨rfl,rfl,rfl,rfl⟩:=h;exact ⟨g,hr,.refl w g,rfl,rfl,rfl,rfl,List.nodup_nil,rfl,fun n hn=>(by cases hn),fun i d hd=>by simp at hd,fun jj n bs hn=>by simp at hn⟩
 |cons d cs ih=>
  intro ds j ns bss st st' g hN h hr;have tail:∀{st1 st2:St κ El} {cs2 ns2 bss2 j2} {g1:Gh},n7 st1 j2 cs=some (st2,cs2,ns2,bss2)→Rel S c st1 g1 a w→_:=fun h2 r1=>ih (fun d' hd'=>hN d' (by simp[hd'])) h2 r1
  unfold n7 at h;split at h
  ·rename_i heq;cases heq
  ·
   rename_i b off cs0 heq;obtain ⟨rfl,rfl⟩:=ybq heq;split at h
   ·rename_i bs hb;split at h
    ·rename_i st1 bs1 hdat;split at h
     ·rename_i st2 cs2 ns2 bss2 hrest;rw[c6]at h;split at h
      ·rename_i hnot;simp only[yaf,ybb]at h;obtain ⟨rfl,rfl,rfl,rfl⟩:=h;obtain ⟨g1,r1,l1,b1,e1,x1,n1,v1⟩:=j5 sgk hdat hr;obtain ⟨g2,r2,l2,b2,e2,x2,len2,nd2,bl2,al2,ar2,bo2⟩:=tail hrest r1;have hnn:b∉ns2:=fun hm=>by
        have:=yae.1 hnot b hm;simp[a2h]at this
       have eqb:∀n,a0u g1 n=a0u g n:=fun n=>by simp[a0u,b1]
       refine ⟨g2,r2,l1.trans l2,b2.trans b1,e2.trans e1,x2.trans x1,by simp[len2],List.nodup_cons.2 ⟨hnn,nd2⟩,by simp[bl2],fun n hn=>?_,fun i d' hd'=>?_,fun jj n bs' hn hbs=>?_⟩
       ·rcases yau.1 hn with rfl|hn
        ·exact ⟨bs,hb⟩
        ·obtain ⟨bs',h'⟩:=al2 n hn;rw[x1]at h';exact ⟨bs',h'⟩
       ·cases i with
        |zero=>
         simp only[yaj,yaf]at hd';subst hd';refine ⟨_,rfl,fun v hv=>.inr ⟨0,b,off,by simp,rfl,?_⟩⟩;obtain ⟨blk,rfl,hbl⟩:=hv.ptr_inv;simp[a0u,hbl]
        |succ i=>
         simp only[yaw]at hd' ⊢;obtain ⟨d2,h2,h3⟩:=ar2 i d' hd';refine ⟨d2,h2,fun v hv=>?_⟩;rcases h3 v (hv.mono l1) with h4|⟨jj,n,off',h4,h5,h6⟩
         ·exact .inl h4
         ·refine .inr ⟨jj+1,n,off',?_,by simpa using h5,by rw[h6,eqb]⟩;rw[h4];congr 1;omega
       ·cases jj with
        |zero=>
         simp only[yaj,yaf]at hn hbs;subst hn hbs;obtain ⟨blk,hbl,how,hno,vals,t,hh,hs,hvals⟩:=hr.bx b bs hb;have:a0u g b=blk:=by simp[a0u,hbl]
         rw[this];refine ⟨vals,t,hh,by rw[hs,n1],fun i v d h1 h2=>?_⟩;have hi:i<bs.length:=by rw[←n1];exact (zL h2)
         obtain ⟨d2,h3,h4⟩:=v1 i _ (yaa hi);rw[h2]at h3;cases h3
         exact (h4 v (hvals i v _ h1 (yaa hi))).mono l2.I l2.J
        |succ jj=>
         have:=bo2 jj n bs' (by simpa using hn) (by simpa using hbs)
         rwa [eqb]at this
      ·cases h
     ·cases h
    ·cases h
   ·cases h
  ·
   rename_i d0 cs0 hne heq;obtain ⟨rfl,rfl⟩:=ybq heq;split at h
   ·rename_i st1 d1 hdat;split at h
    ·rename_i st2 cs2 ns2 bss2 hrest;simp only[yaf,ybb]at h;obtain ⟨rfl,rfl,rfl,rfl⟩:=h;have hlend:∀b∈a8x d,N b:=(hN d (by simp)).resolve_left (fun ⟨b,off,hb⟩=>hne b off hb);obtain ⟨g1,r1,l1,b1,e1,x1,v1⟩:=a8j sgk hlend hdat hr;obtain ⟨g2,r2,l2,b2,e2,x2,len2,nd2,bl2,al2,ar2,bo2⟩:=tail hrest r1;have eqb:∀n,a0u g1 n=a0u g n:=fun n=>by simp[a0u,b1]
     refine ⟨g2,r2,l1.trans l2,b2.trans b1,e2.trans e1,x2.trans x1,by simp[len2],nd2,bl2,fun n hn=>?_,fun i d' hd'=>?_,fun jj n bs' hn hbs=>?_⟩
     ·obtain ⟨bs',h'⟩:=al2 n hn;rw[x1]at h';exact ⟨bs',h'⟩
     ·cases i with
      |zero=>
       simp only[yaj,yaf]at hd';subst hd';exact ⟨_,rfl,fun v hv=>.inl (LJ.mono l2 b2 (v1 v hv))⟩
      |succ i=>
       simp only[yaw]at hd' ⊢;obtain ⟨d2,h2,h3⟩:=ar2 i d' hd';refine ⟨d2,h2,fun v hv=>?_⟩;rcases h3 v (hv.mono l1) with h4|⟨jj,n,off',h4,h5,h6⟩
       ·exact .inl h4
       ·exact .inr ⟨jj,n,off',h4,h5,by rw[h6,eqb]⟩
     ·have:=bo2 jj n bs' hn hbs
      rwa [eqb]at this
    ·cases h
   ·cases h
theorem b02:∀{ns:List Nat} {bs:List (List (D κ El))} {bx bx':List (Nat×List (D κ El))},a0c bx ns bs=some bx'→ns.Nodup→
 ns.length=bs.length∧(∀(j:Nat) n,ns[j]?=some n→∃cs,bs[j]?=some cs∧b9 n bx'=some cs)∧∀n,n∉ns→b9 n bx'=b9 n bx:=by
 intro ns
 induction ns with
 |nil=>
  intro bs bx bx' h _;cases bs with
  |nil=>cases h;exact ⟨rfl,fun j n hn=>by simp at hn,fun _ _=>rfl⟩
  |cons=>cases h
 |cons n ns ih=>
  intro bs bx bx' h hnd;cases bs with
  |nil=>cases h
  |cons b bs=>
   simp only[a0c]at h;split at h
   ·rename_i old hold;rw[c6]at h;split at h
    ·obtain ⟨hn1,hn2⟩:=List.nodup_cons.1 hnd;obtain ⟨h1,h2,h3⟩:=ih h hn2;refine ⟨by simp[h1],fun j m hm=>?_,fun m hm=>?_⟩
     ·cases j with
      |zero=>
       simp only[yaj,yaf]at hm;subst hm;exact ⟨b,rfl,by rw[h3 _ hn1,b8 hold,yaq rfl]⟩
      |succ j=>simpa using h2 j m (by simpa using hm)
     ·have hm1:m≠n:=fun e=>hm (by simp[e])
      have hm2:m∉ns:=fun e=>hm (by simp[e])
      rw[h3 m hm2,b8 hold,yah hm1]
    ·cases h
   ·cases h
theorem b2v {ns:List Nat} {d:D κ El} (h:a2p ns d=true):(∃b off,d=.ptr b off)∨∀b∈a8x d,b∉ns:=by
 have key:∀b:Nat,(ns.all fun n=>!Nat.beq n b)=true→b∉ns:=fun b hb hm=>by
  have:=yae.1 hb b hm;simp[a2h]at this
 unfold a2p at h;split at h
 ·exact .inl ⟨_,_,rfl⟩
 ·refine .inr fun b hb=>?_
  simp only[a8x,yaK]at hb;obtain ⟨d,hd,hb⟩:=hb;exact key b (yae.1 (yae.1 h d hd) b hb)
 ·rename_i d h1 h2;refine .inr fun b hb=>?_
  cases d<;>simp[a8x,a1d]at hb
  all_goals first|exact absurd rfl (h1 _ _)|exact absurd rfl (h2 _ _ _)
theorem b8c (sgk:SgOk S) (cok:j7 P S call) {cl:Call} {fo:Operand} {f:Nat} {pre caps:List (D κ El)} (ho:o.op=.call cl) (hc:cl.callee=.value fo) (hf:opd st fo=.fn f pre caps) (hm:S.md f=.mut)
 (h:g8 S call q st o.dst f (pre++cl.args.toList.map (opd st)++caps) k=some r):l5 P S o st k r:=by
 unfold g8 at h;rw[hm]at h;have h:(match n7 st 0 (pre++cl.args.toList.map (opd st)++caps) with
  |some (st1,ds,ns,bss)=>bif (pre++cl.args.toList.map (opd st)++caps).all (a2p ns) then call f ds bss (fun d bs=>match a0c st1.bx ns bs with
   |some bx=>k (put {st1 with bx:=bx} o.dst d)
   |none=>none) else none
  |none=>none)=some r:=by cases q<;>exact h
 ·split at h
  ·rename_i st1 ds ns bss hmut;rw[c6]at h;split at h
   ·rename_i hap;obtain ⟨d,bs',hk,hcon⟩:=cok _ _ _ _ _ h;split at hk
    ·rename_i bx' hset;refine ⟨_,hk,fun c g a w hr hd next Q hn=>?_⟩;obtain ⟨p,cp,e,hs,hv⟩:=o8 (xs:=cl.args) hr hf;obtain ⟨g1,r1,l1,b1,e1,x1,len,nd,lbs,al,ar,bo⟩:=b3h (N:=fun b=>b∉ns) sgk (fun d hd'=>b2v (yae.1 hap d hd')) hmut hr;have hbl:∀n∈ns,g1.bl n=some (a0u g n):=fun n hn'=>by
      obtain ⟨bs,hbs⟩:=al n hn';obtain ⟨blk,h1,_⟩:=hr.bx n bs hbs;rw[b1,h1];simp[a0u,h1]
     have hinj:∀n∈ns,∀m,g1.bl m=some (a0u g n)→m=n:=fun n hn' m hm'=>by
      have h1:=r1.bx_ow (hbl n hn');have h2:=r1.bx_ow hm';rw[h1]at h2;cases h2;rfl
     let bls:=ns.map (a0u g)
     have hmem:∀b,b∈bls→∃n∈ns,b=a0u g n∧g1.bl n=some b:=fun b hb=>by
      obtain ⟨n,hn',rfl⟩:=ya1.1 hb;exact ⟨n,hn',rfl,hbl n hn'⟩
     have hget:∀(jj:Nat) blk,bls[jj]?=some blk→∃n,ns[jj]?=some n∧blk=a0u g n:=fun jj blk hj=>by
      simp only[bls,yaF,yay]at hj;obtain ⟨n,hn',rfl⟩:=hj;exact ⟨n,hn',rfl⟩
     have hnodup:bls.Nodup:=by
      exact List.pairwise_map.2 (nd.imp_of_mem (fun {a b} ha hb hne he=>hne (hinj b hb a (by rw[←he];exact hbl a ha))))
     have hpre:Pre S w g1.I (LJ (fun b=>b∉ns) g1) bls:=by
      refine ⟨r1.gl,r1.ib,fun b o hi=>.inl (r1.ij b o hi),fun b o' hj=>⟨hj.elim r1.j_lt (fun ⟨n,_,hb⟩=>r1.bx_lt hb),fun hb=>?_⟩,r1.globB (fun b hb=>by obtain ⟨n,hn',rfl,hbn⟩:=hmem b hb;exact ⟨_,r1.bx_ow hbn⟩)⟩;obtain ⟨n,hn',rfl,hbn⟩:=hmem b hb;rcases hj with hj|⟨m,hm1,hm2⟩
      ·have how:=r1.bx_ow hbn;obtain ⟨cs,hcs⟩:=r1.bd _ _ hbn;obtain ⟨blk',hb',_,hno,_⟩:=r1.bx _ _ hcs;rw[hbn]at hb';cases hb'
       rcases r1.j1 _ _ hj with hi|hj0
       ·exact hno _ hi
       ·obtain ⟨h1,h2⟩:=r1.jm _ _ hj0;rw[(r1.old _ h1 h2.1 h2.2).2]at how;cases how
      ·exact hm1 (by rw[hinj n hn' m hm2];exact hn')
     unfold Con at hcon;rw[hm]at hcon;have hcall:=hcon w g1.I (LJ (fun b=>b∉ns) g1) (p++cl.args.map a.eval++cp) bls hpre hnodup (by simp[bls,lbs]) (by rw[hs,len]) (fun i v d' h1 h2=>by
      have hi:i<(pre++cl.args.toList.map (opd st)++caps).length:=by rw[←len];exact (zL h2)
      obtain ⟨d2,h3,h4⟩:=ar i _ (yaa hi);rw[h2]at h3;cases h3
      rcases h4 v (hv i v _ h1 (yaa hi)) with h5|⟨jj,n,off,h5,h6,h7⟩
      ·exact .inr h5
      ·exact .inl ⟨jj,a0u g n,off,by rw[h5,yaH],by simp[bls,h6],h7⟩)
      (fun jj blk cs hb hc'=>by
       obtain ⟨n,hn',rfl⟩:=hget jj blk hb;obtain ⟨vals,t,h1,h2,h3⟩:=bo jj n cs hn' hc';exact ⟨vals,t,h1,h2,fun i v d h4 h5=>LJ.of (h3 i v d h4 h5)⟩)
     refine o0.wp (n8 ho hc e w) hcall (fun v w' hq=>?_);obtain ⟨I',hg,hdr,hlen',hboxes⟩:=hq;obtain ⟨sl,s1,s2⟩:=b02 hset nd;have hnoI:∀n∈ns,∀o,¬g1.I (a0u g n) o:=fun n hn' o' hi=>by
      obtain ⟨cs,hcs⟩:=r1.bd _ _ (hbl n hn');obtain ⟨blk',hb',_,hno,_⟩:=r1.bx _ _ hcs;rw[hbl n hn']at hb';cases hb'
      exact hno _ hi
     have stp:Step (fun b=>b∈bls) w g1 w' (gI g1 I'):={
      size:=hg.size
      os:=hg.os
      out:=hg.out
      tape:=hg.tape
      keep:=fun b hb hM=>⟨hg.keep b hb hM,rfl⟩
      own:=fun b hb=>by
       obtain ⟨n,hn',rfl,hbn⟩:=hmem b hb;exact ⟨_,r1.bx_ow hbn⟩
      I:=fun b o' hi=>⟨hg.hI b o' hi,fun hb=>by
       obtain ⟨n,hn',rfl,hbn⟩:=hmem b hb;exact absurd hi (hnoI n hn' o')⟩
      inew:=fun b o' hi hlt=>.inl ((hg.new b o' hi).resolve_right (by omega))
      ib:=hg.ib
      ol:=fun b x hx=>yat (r1.ol b x hx) hg.size
      J:=fun _ _=>Iff.rfl
      bl:=fun _ _ hb=>hb
      ad:=fun _ ha=>ha
      vc:=fun _ _=>yal _
      av:=fun _ _ _ _ _ hv=>hv
      az:=fun _ _=>rfl
      owk:=fun _ h=>h}
     have le:=stp.le r1;have hrel:Rel S c {st1 with bx:=bx'} (gI g1 I') a w':=r1.step stp r1.nt r1.df (fun s d hs=>r1.env_le le hs)
      (fun b cs hb=>by
       by_cases hbn:b∈ns
       ·obtain ⟨jj,hjj⟩:=List.mem_iff_getElem?.1 hbn;obtain ⟨cs',h1,h2⟩:=s1 jj b hjj;have hb:b9 b bx'=some cs:=hb;rw[h2]at hb;cases hb
        obtain ⟨vals,t,h3,h4,h5⟩:=hboxes jj (a0u g b) cs (by simp[bls,hjj]) h1;refine .inr ⟨a0u g b,hbl b hbn,r1.bx_ow (hbl b hbn),fun o' hi=>?_,vals,t,h3,h4,fun i v d h6 h7=>.data (h5 i v d h6 h7).gI⟩;have hlt:=r1.bx_lt (hbl b hbn);exact hnoI b hbn o' ((hg.new _ _ hi).resolve_right (by omega))
       ·have hb:b9 b bx'=some cs:=hb;rw[s2 b hbn]at hb;refine .inl ⟨hb,fun blk hb1 hb2=>?_⟩;obtain ⟨n,hn',rfl,_⟩:=hmem blk hb2;exact hbn (by rw[hinj n hn' b hb1];exact hn'))
      (fun b blk hb=>by
       obtain ⟨cs,hcs⟩:=r1.bd b blk hb;show ∃cs,b9 b bx'=some cs
       by_cases hbn:b∈ns
       ·obtain ⟨jj,hjj⟩:=List.mem_iff_getElem?.1 hbn;obtain ⟨cs',h1,h2⟩:=s1 jj b hjj;exact ⟨cs',h2⟩
       ·exact ⟨cs,by rw[s2 b hbn];exact hcs⟩)
      (fun n A hA=>.inl ⟨hA,fun _=>rfl,rfl,fun blk hb hM=>(by
       obtain ⟨m,hm',rfl,hbm⟩:=hmem blk hM;rw[r1.bx_ow hbm]at hb;cases hb),fun blk o' hb hi=>by
       have hlt:=r1.ol blk _ hb;exact (hg.new _ _ hi).resolve_right (by omega)⟩) r1.ad
     exact hn _ _ _ (hrel.put (.data hdr.gI) hd)
    ·cases hk
   ·cases h
  ·cases h
end
end
section
section
variable {κ:Type} {El:κ→Type} {S:Sg κ El} {P:Program}
variable {c:Cx} {st:St κ El} {g:Gh} {a:Act} {w:World} {R:Type} [KdEq κ]
variable {o:Oper} {q:Bool} {call:Nat→List (D κ El)→List (List (D κ El))→(D κ El→List (List (D κ El))→Option R)→Option R} {k:St κ El→Option R} {r:R}
theorem a1m {vs:Array Value} {x:D κ El} {l:List (D κ El)} (hs:vs.size=(x::l).length) (hv:∀(i:Nat) v d,vs[i]?=some v→(x::l)[i]?=some d→VR S w g v d) :
 ∃(v0:Value) (us:Array Value),vs = #[v0]++us∧VR S w g v0 x∧us.size=l.length∧∀(i:Nat) v d,us[i]?=some v→l[i]?=some d→VR S w g v d:=by
 cases vs with
 |mk ls=>
  cases ls with
  |nil=>simp at hs
  |cons v0 us=>
   refine ⟨v0,us.toArray,by simp,hv 0 v0 x rfl rfl,by simpa using hs,fun i v d h1 h2=>hv (i+1) v d ?_ ?_⟩
   ·simpa using h1
   ·simpa using h2
theorem ArR.ownA {n:Nat} {A:Ar κ El} (h:ArR S w g n A) (hd:A.dead=false) (hs:A.sealed=false):∃base cap mb,g.av n A.ver=some (.slice base A.xs.length cap)∧b7u S w g.I g.J mb A.k A.xs (.slice base A.xs.length cap)∧
 (∀b∈mb,g.ow b=some (.arr n)∧(∀o,¬g.I b o)∧b<w.heap.size)∧mb.length≤1:=by
 obtain ⟨base,cap,hav,hcap,hz⟩:=h.live hd;rcases hz with h0|⟨blk,vals,t,rfl,hb,hsz,how,hI1,hI2,hel⟩
 ·exact ⟨base,cap,[],hav,⟨base,cap,rfl,hcap,.inl ⟨h0,rfl⟩⟩,fun b hb=>(by cases hb),by simp⟩
 ·refine ⟨_,cap,[blk],hav,⟨_,cap,rfl,hcap,.inr ⟨blk,vals,t,rfl,rfl,hb,hsz,hel⟩⟩,fun b hb'=>?_,by simp⟩;simp only[ya2]at hb';subst hb';exact ⟨how,fun o hi=>(by have:=(hI1 o hi).1;rw[hs]at this;cases this),(yad.1 hb).1⟩
theorem b7u.lent {I J J':Nat→Nat→Prop} {mb:List Nat} {kd:κ} {xs:List (El kd)} {v:Value} (sgk:SgOk S) (h:b7u S w I J mb kd xs v):b7u S w I J' mb kd xs v:=by
 obtain ⟨base,cap,e,hcap,hz⟩:=h;refine ⟨base,cap,e,hcap,hz.imp id ?_⟩;rintro ⟨blk,vals,t,h1,h2,h3,h4,h5⟩;refine ⟨blk,vals,t,h1,h2,h3,h4,fun i hi j d hj=>?_⟩;obtain ⟨u,a1,a2⟩:=h5 i hi j d hj;exact ⟨u,a1,a2.relendL sgk (u6 (sgk.plain kd _ d (yam hj)))⟩
theorem b7u.mono {w':World} {g':Gh} {mb:List Nat} {kd:κ} {xs:List (El kd)} {v:Value} (H:Le w g w' g') (hk:∀b∈mb,w'.heap[b]?=w.heap[b]?) (h:b7u S w g.I g.J mb kd xs v):b7u S w' g'.I g'.J mb kd xs v:=by
 obtain ⟨base,cap,e,hcap,hz⟩:=h;refine ⟨base,cap,e,hcap,hz.imp id ?_⟩;rintro ⟨blk,vals,t,h1,h2,h3,h4,h5⟩;refine ⟨blk,vals,t,h1,h2,(hk blk (by simp[h1])).trans h3,h4,fun i hi j d hj=>?_⟩;obtain ⟨u,a1,a2⟩:=h5 i hi j d hj;exact ⟨u,a1,a2.mono H.I H.J⟩
theorem Rel.pre_own (hr:Rel S c st g a w) {n:Nat} {mb:List Nat} (h:∀b∈mb,g.ow b=some (.arr n)∧(∀o,¬g.I b o)∧b<w.heap.size):Pre S w g.I (LJ (fun _=>True) g) mb:=by
 refine ⟨hr.gl,hr.ib,fun b o hi=>.inl (hr.ij b o hi),fun b o' hj=>⟨hj.elim hr.j_lt (fun ⟨n,_,hb⟩=>hr.bx_lt hb),fun hb=>?_⟩,hr.globB (fun b hb=>⟨_,(h b hb).1⟩)⟩;obtain ⟨how,hno,hlt⟩:=h b hb;rcases hj with hj|⟨m,_,hm2⟩
 ·rcases hr.j1 _ _ hj with hi|hj0
  ·exact hno _ hi
  ·obtain ⟨h1,h2⟩:=hr.jm _ _ hj0;rw[(hr.old _ h1 h2.1 h2.2).2]at how;cases how
 ·rw[hr.bx_ow hm2]at how;cases how
theorem b42 (sgk:SgOk S) (cok:j7 P S call) {cl:Call} {fo:Operand} {f:Nat} {pre caps:List (D κ El)} (ho:o.op=.call cl) (hc:cl.callee=.value fo) (hf:opd st fo=.fn f pre caps) (hm:S.md f=.inpl)
 (h:g8 S call q st o.dst f (pre++cl.args.toList.map (opd st)++caps) k=some r):l5 P S o st k r:=by
 unfold g8 at h;rw[hm]at h;cases q with
 |true=>cases h
 |false=>
  simp only at h;split at h
  rotate_left
  ·rename_i rest hargs;split at h
   ·rename_i kd st1 ds hik hdat;obtain ⟨d,bs',hk,hcon⟩:=cok _ _ _ _ _ h;split at hk
    ·split at hk
     ·rename_i kd' xs;split at hk
      ·rename_i ys hcx;obtain ⟨rfl,rfl⟩:=a0n hcx;refine ⟨_,hk,fun c g a w hr hd next Q hn=>?_⟩;obtain ⟨p,cp,e,hs,hv⟩:=o8 (xs:=cl.args) hr hf;rw[hargs]at hs hv;obtain ⟨v0,us,hus,hv0,husz,husv⟩:=a1m hs hv;obtain ⟨g1,r1,l1,b1,e1,x1,hdd⟩:=p8 (N:=fun _=>True) sgk (fun _ _ _ _=>trivial) hdat hr;unfold Con at hcon;rw[hm]at hcon;have e0:v0=.slice none 0 0:=hv0.nil_inv;have hcall:=hcon rfl _ [] ds rfl _ rfl w g1.I (LJ (fun _=>True) g1) [] v0 us r1.pre ⟨none,0,by rw[e0];rfl,yal _,.inl ⟨rfl,rfl⟩⟩ (hdd.args husz husv);rw[←hus]at hcall;refine o0.wp (n8 ho hc e w) hcall (fun v w' hq=>?_);obtain ⟨rfl,-,I',hg,-⟩:=hq;exact hn _ _ _ ((r1.grow hg.grow).1.put (.data (.tup _ _ rfl (fun i v d h=>by simp at h))) hd)
      ·cases hk
     ·cases hk
    ·cases hk
   ·cases h
  ·cases h
  rename_i n ver rest hargs;split at h
  rotate_left
  ·cases h
  rename_i st1 ds hdat;split at h
  rotate_left
  ·cases h
  rename_i A hA;rw[c6]at h;split at h
  rotate_left
  ·cases h
  rename_i hok;rw[yab,yaC]at hok;obtain ⟨hver,hdead⟩:=o7 hok.1;obtain ⟨d,bs',hk,hcon⟩:=cok _ _ _ _ _ h;split at hk
  rotate_left
  ·cases hk
  split at hk
  rotate_left
  ·cases hk
  rename_i kd xs0;split at hk
  rotate_left
  ·cases hk
  rename_i xs hcx;obtain ⟨rfl,rfl⟩:=a0n hcx;refine ⟨_,hk,fun c g a w hr hd next Q hn=>?_⟩;obtain ⟨p,cp,e,hs,hv⟩:=o8 (xs:=cl.args) hr hf;rw[hargs]at hs hv;obtain ⟨v0,us,hus,hv0,husz,husv⟩:=a1m hs hv;obtain ⟨g1,r1,l1,b1,e1,x1,hdd⟩:=p8 (N:=fun _=>True) sgk (fun _ _ _ _=>trivial) hdat hr;have hAr:=r1.ar n A hA;obtain ⟨base,cap,mb,hav,hown,hmb,hmb1⟩:=hAr.ownA hdead hok.2;obtain ⟨-,hn0,hle0,he0⟩:=(hv0.mono l1).arr_inv;rw[←hver]at he0;have hv0e:=he0 _ hav;unfold Con at hcon;rw[hm]at hcon;have hcall:=hcon rfl A.k A.xs ds rfl xs0 rfl w g1.I (LJ (fun _=>True) g1) mb v0 us (r1.pre_own hmb) (by rw[hv0e];exact hown.lent sgk) (hdd.args husz husv);rw[←hus]at hcall;refine o0.wp (n8 ho hc e w) hcall (fun v w' hq=>?_);obtain ⟨rfl,hlen,I',hg,hown'⟩:=hq;have stp:Step (fun b=>b∈mb) w g1 w' (gI g1 I'):={
   size:=hg.size
   os:=hg.os
   out:=hg.out
   tape:=hg.tape
   keep:=fun b hb hM=>⟨hg.keep b hb hM,rfl⟩
   own:=fun b hb=>⟨_,(hmb b hb).1⟩
   I:=fun b o' hi=>⟨hg.hI b o' hi,fun hb=>absurd hi ((hmb b hb).2.1 o')⟩
   inew:=fun b o' hi hlt=>.inl ((hg.new b o' hi).resolve_right (by omega))
   ib:=hg.ib
   ol:=fun b x hx=>yat (r1.ol b x hx) hg.size
   J:=fun _ _=>Iff.rfl
   bl:=fun _ _ hb=>hb
   ad:=fun _ ha=>ha
   vc:=fun _ _=>yal _
   av:=fun _ _ _ _ _ hv=>hv
   az:=fun _ _=>rfl
   owk:=fun _ h=>h}
  have le:=stp.le r1;have hrel:Rel S c {st1 with ar:=m7 n ⟨A.k,xs0,ver,false,false⟩ st1.ar} (gI g1 I') a w':=r1.step stp r1.nt r1.df (fun s d hs=>r1.env_le le hs)
   (fun b cs hb=>.inl ⟨hb,fun blk hb1 hb2=>by
    have:=(hmb blk hb2).1;rw[r1.bx_ow hb1]at this;cases this⟩) r1.bd
   (fun m A' hA'=>by
    rw[b8 hA]at hA';split at hA'
    ·rename_i e;subst e;cases hA'
     refine .inr ⟨hAr.ad,hAr.az,by rw[←hver];exact hAr.vc,fun _=>?_,fun ver' v hv=>?_,fun e=>⟨by rw[←hver];exact (hAr.own e).1,rfl⟩,fun h=>(by cases h)⟩
     ·obtain ⟨base',cap',e2,hcap',hz'⟩:=hown';rw[hv0e]at e2;injection e2 with a1 a2 a3;subst a1 a3;refine ⟨base,cap,?_,?_,?_⟩
      ·rw[←hver];show g1.av m A.ver=_;rw[hav,hlen]
      ·exact hcap'
      ·rcases hz' with ⟨h0,_⟩|⟨blk,vals,t,h1,h2,h3,h4,h5⟩
       ·exact .inl h0
       ·refine .inr ⟨blk,vals,t,h2,h3,h4,(hmb blk (by simp[h1])).1,fun o' hi=>?_,fun hse=>(by cases hse),fun i hi j d hj=>?_⟩
        ·have hb:=hmb blk (by simp[h1]);exact absurd ((hg.new _ _ hi).resolve_right (by omega)) (hb.2.1 o')
        ·obtain ⟨u,a1,a2⟩:=h5 i hi j d hj;exact ⟨u,a1,a2.gI⟩
     ·have:=hAr.ver ver' v hv;exact ⟨by rw[this.1,hver],.inl rfl⟩
    ·rename_i e;refine .inl ⟨hA',fun _=>rfl,rfl,fun blk hb hM=>?_,fun blk o' hb hi=>?_⟩
     ·have:=(hmb blk hM).1;rw[hb]at this;cases this;exact e rfl
     ·have hlt:=r1.ol blk _ hb;exact (hg.new _ _ hi).resolve_right (by omega))
   (fun m hm=>by
    obtain ⟨A',hA'⟩:=r1.ad m hm;show ∃A',b9 m (m7 n _ st1.ar)=some A'
    rw[b8 hA];split
    ·exact ⟨_,rfl⟩
    ·exact ⟨_,hA'⟩)
  have:=hrel.put (dst:=o.dst) (v:=.tuple #[]) (d:=.tup []) (.data (.tup _ _ rfl (fun i v d h=>by simp at h))) hd;refine hn (gI g1 I') _ _ ?_;have e3:({Ev.put st1 o.dst (.tup []) with ar:=m7 n ⟨A.k,xs0,ver,false,false⟩ st1.ar}:St κ El)=Ev.put {st1 with ar:=m7 n ⟨A.k,xs0,ver,false,false⟩ st1.ar} o.dst (.tup []):=by
   cases o.dst<;>rfl
  rw[e3];exact this
theorem b40 (sgk:SgOk S) (cok:j7 P S call) {cl:Call} {fo:Operand} {f:Nat} {pre caps:List (D κ El)} (ho:o.op=.call cl) (hc:cl.callee=.value fo) (hf:opd st fo=.fn f pre caps) (hm:S.md f=.cons)
 (h:g8 S call q st o.dst f (pre++cl.args.toList.map (opd st)++caps) k=some r):l5 P S o st k r:=by
 unfold g8 at h;rw[hm]at h;cases q with
 |true=>cases h
 |false=>
  simp only at h;split at h
  rotate_left
  ·rename_i rest n hargs hdst;split at h
   ·rename_i kd st1 ds hik hdat;obtain ⟨d,bs',hk,hcon⟩:=cok _ _ _ _ _ h;split at hk
    ·split at hk
     ·rename_i kd' xs;rw[c6]at hk;split at hk
      ·rename_i hfr;refine ⟨_,hk,fun c g a w hr hd next Q hn=>?_⟩;obtain ⟨p,cp,e,hs,hv⟩:=o8 (xs:=cl.args) hr hf;rw[hargs]at hs hv;obtain ⟨v0,us,hus,hv0,husz,husv⟩:=a1m hs hv;obtain ⟨g1,r1,l1,b1,e1,x1,hdd⟩:=p8 (N:=fun _=>True) sgk (fun _ _ _ _=>trivial) hdat hr;unfold Con at hcon;rw[hm]at hcon;have e0:v0=.slice none 0 0:=hv0.nil_inv;have hcall:=hcon rfl kd [] ds rfl _ _ rfl w g1.I (LJ (fun _=>True) g1) [] v0 us r1.pre ⟨none,0,by rw[e0];rfl,yal _,.inl ⟨rfl,rfl⟩⟩ (hdd.args husz husv);rw[←hus]at hcall;refine o0.wp (n8 ho hc e w) hcall (fun v w' hq=>?_);obtain ⟨I',hg,base,cap,hv',hcap,hz⟩:=hq;have hnew:b7t S w' I' w.heap.size kd' xs v:=⟨base,cap,hv',hcap,hz.imp id (fun ⟨blk,vals,t,q1,q2,q3,q4,q5,q6⟩=>⟨blk,vals,t,q1,q2,q3,q4.resolve_right (by simp),q5,q6⟩)⟩
       obtain ⟨g',hrel⟩:=r1.growArr hg.grow (n:=n) (f8 hfr) hnew (hd n hdst);refine hn g' _ w' ?_;rw[hdst];exact hrel
      ·cases hk
     ·cases hk
    ·cases hk
   ·cases h
  ·cases h
  rename_i n ver rest nd hargs hdst;split at h
  rotate_left
  ·cases h
  rename_i st1 ds hdat;split at h
  rotate_left
  ·cases h
  rename_i A hA;rw[c6]at h;split at h
  rotate_left
  ·cases h
  rename_i hok;rw[yab,yab,yaC]at hok;have hneM:n≠MA:=fun e=>by have:=hok.2.2;rw[e]at this;simp at this
  replace hok:=And.intro hok.1 hok.2.1;obtain ⟨hver,hdead⟩:=o7 hok.1;obtain ⟨d,bs',hk,hcon⟩:=cok _ _ _ _ _ h;split at hk
  rotate_left
  ·cases hk
  split at hk
  rotate_left
  ·cases hk
  rename_i kd xs;rw[c6]at hk;split at hk
  rotate_left
  ·cases hk
  rename_i hfr;have hfr:=f8 hfr;refine ⟨_,hk,fun c g a w hr hd next Q hn=>?_⟩;obtain ⟨p,cp,e,hs,hv⟩:=o8 (xs:=cl.args) hr hf;rw[hargs]at hs hv;obtain ⟨v0,us,hus,hv0,husz,husv⟩:=a1m hs hv;obtain ⟨g1,r1,l1,b1,e1,x1,hdd⟩:=p8 (N:=fun _=>True) sgk (fun _ _ _ _=>trivial) hdat hr;have hAr:=r1.ar n A hA;obtain ⟨base,cap,mb,hav,hown,hmb,hmb1⟩:=hAr.ownA hdead hok.2;obtain ⟨-,hn0,hle0,he0⟩:=(hv0.mono l1).arr_inv;rw[←hver]at he0;have hv0e:=he0 _ hav;unfold Con at hcon;rw[hm]at hcon;have hcall:=hcon rfl A.k A.xs ds rfl kd xs rfl w g1.I (LJ (fun _=>True) g1) mb v0 us (r1.pre_own hmb) (by rw[hv0e];exact hown.lent sgk) (hdd.args husz husv);rw[←hus]at hcall;refine o0.wp (n8 ho hc e w) hcall (fun v w' hq=>?_);obtain ⟨I',hg,base2,cap2,rfl,hcap2,hz2⟩:=hq;have hnn:¬nd=n:=fun e=>by subst e;rw[hA]at hfr;cases hfr
  have hadn:=r1.ad_not hfr;obtain ⟨bo,hbo,hbo2,hz3⟩:∃bo:Option Nat,(∀b,bo=some b→w.heap.size≤b∨b∈mb)∧(∀b,bo=some b→b<w'.heap.size)∧(cap2=0∨∃blk vals t,bo=some blk∧base2=some ⟨blk,0,none⟩∧w'.heap[blk]?=some (.cells vals t (0,0))∧vals.size=cap2*S.sz kd∧(∀o,¬I' blk o)∧
   ∀i (hi:i<xs.length) j d,(S.enc kd xs[i])[j]?=some d→∃v,vals[i*S.sz kd+j]?=some v∧DR S w' I' I' v d):=by
   rcases hz2 with h0|⟨blk,vals,t,e1,e2,e3,e4,e5,e6⟩
   ·exact ⟨none,fun b hb=>(by cases hb),fun b hb=>(by cases hb),.inl h0⟩
   ·exact ⟨some blk,fun b hb=>by cases hb;exact e4,fun b hb=>by cases hb;exact (yad.1 e2).1,.inr ⟨blk,vals,t,rfl,e1,e2,e3,e5,e6⟩⟩
  let g2:Gh:={a2u (gI g1 I') nd (.slice base2 xs.length cap2) (S.sz kd) bo with
   av:=fun m ver=>if m=n then none else if m=nd then (if ver=0 then some (.slice base2 xs.length cap2) else none) else g1.av m ver}
  have stp:Step (fun b=>b∈mb) w g1 w' g2:={
   size:=hg.size
   os:=hg.os
   out:=hg.out
   tape:=hg.tape
   keep:=fun b hb hM=>⟨hg.keep b hb hM,by
    show (if bo=some b then _ else _)=_
    rw[yah (fun e=>by rcases hbo b e with h1|h1;omega;exact hM h1)];rfl⟩
   own:=fun b hb=>⟨_,(hmb b hb).1⟩
   I:=fun b o' hi=>⟨hg.hI b o' hi,fun hb=>absurd hi ((hmb b hb).2.1 o')⟩
   inew:=fun b o' hi hlt=>.inl ((hg.new b o' hi).resolve_right (by omega))
   ib:=hg.ib
   ol:=fun b x hx=>by
    have hx:(if bo=some b then some (Own.arr nd) else g1.ow b)=some x:=hx;split at hx
    ·rename_i e;exact hbo2 b e
    ·exact yat (r1.ol b x hx) hg.size
   J:=fun _ _=>Iff.rfl
   bl:=fun _ _ hb=>hb
   ad:=fun _ ha=>.inr ha
   vc:=fun m ha=>by
    show g1.vc m≤(if m=nd then 0 else g1.vc m)
    rw[yah (by rintro rfl;exact hadn ha)];exact yal _
   av:=fun m ver u ha _ hv=>by
    have hv:(if m=n then none else if m=nd then _ else g1.av m ver)=some u:=hv;split at hv
    ·cases hv
    ·rwa [yah (by rintro rfl;exact hadn ha)]at hv
   az:=fun m ha=>by
    show (if m=nd then S.sz kd else g1.az m)=g1.az m
    rw[yah (by rintro rfl;exact hadn ha)]
   owk:=fun b ho=>by
    show (if bo=some b then _ else _)=_
    rw[yah (fun e=>by
     rcases hbo b e with h1|h1
     ·have:=r1.ol b _ ho;omega
     ·have h2:=(hmb b h1).1;rw[ho]at h2;cases h2;exact hneM rfl)]
    exact ho}
  have le:=stp.le r1;have hrel:Rel S c {Ev.put st1 (some nd) (.arr nd 0) with ar:=(nd,⟨kd,xs,0,false,false⟩)::m7 n {A with dead:=true} st1.ar} g2 (a.put (some nd) (.slice base2 xs.length cap2)) w':=by
   refine r1.step stp (by rw[Act.put_size];exact r1.nt) (by rw[Act.put_defers'];exact r1.df) (fun s d' hs=>?_) (fun b cs' hb'=>?_) r1.bd (fun m A' hA'=>?_) (fun m hm=>?_)
   ·refine r1.env_put le (d:=.arr nd 0) (.slc base2 xs.length cap2 nd 0 (.inl rfl) (ya7 _) (fun v' hv'=>?_)) (fun t ht=>by cases ht;exact hd nd hdst) hs;have hv':(if nd=n then none else if nd=nd then (if (0:Nat)=0 then some (Value.slice base2 xs.length cap2) else none) else g1.av nd 0)=some v':=hv';rw[yah hnn,yaq rfl,yaq rfl]at hv';cases hv';rfl
   ·have hb':b9 b st1.bx=some cs':=by simpa[Ev.put]using hb'
    refine .inl ⟨hb',fun blk hb1 hb2=>?_⟩;have:=(hmb blk hb2).1;rw[r1.bx_ow hb1]at this;cases this
   ·replace hA':b9 m ((nd,⟨kd,xs,0,false,false⟩)::m7 n {A with dead:=true} st1.ar)=some A':=hA';rw[c7]at hA';split at hA'
    ·rename_i e;subst e;cases hA'
     refine .inr ⟨.inl rfl,by simp[g2,a2u],by simp[g2,a2u],fun _=>⟨base2,cap2,by simp[g2,hnn],hcap2,?_⟩,fun ver v hv=>?_,fun _=>⟨rfl,rfl⟩,fun h=>(by cases h)⟩
     ·refine hz3.imp id ?_;rintro ⟨blk,vals,t,hbo,e1,e2,e3,e5,e6⟩;refine ⟨blk,vals,t,e1,e2,e3,by simp[g2,a2u,hbo],fun o hi=>absurd hi (e5 o),fun hse=>(by cases hse),fun i hi j d hj=>?_⟩;obtain ⟨u,a1,a2⟩:=e6 i hi j d hj;exact ⟨u,a1,a2.mono (fun b o hi=>⟨rfl,hi⟩) (fun b o hi=>⟨rfl,.inl hi⟩)⟩
     ·have hv:(if m=n then none else if m=m then (if ver=0 then some (Value.slice base2 xs.length cap2) else none) else g1.av m ver)=some v:=hv;rw[yah hnn,yaq rfl]at hv;split at hv
      ·rename_i e;exact ⟨e,.inl rfl⟩
      ·cases hv
    ·rename_i e;rw[b8 hA]at hA';split at hA'
     ·rename_i e';subst e';cases hA'
      refine .inr ⟨.inr hAr.ad,?_,?_,fun hd=>(by cases hd),fun ver v hv=>?_,hAr.own,fun _ h=>(by simp only at h;rw[hok.2]at h;cases h)⟩
      ·show (if m=nd then _ else g1.az m)=_
       rw[yah e];exact hAr.az
      ·show (if m=nd then _ else g1.vc m)=_
       rw[yah e];exact hAr.vc
      ·have hv:(if m=m then none else _)=some v:=hv;rw[yaq rfl]at hv;cases hv
     ·rename_i e';refine .inl ⟨hA',fun ver=>?_,?_,fun blk hb hM=>?_,fun blk o' hb hi=>?_⟩
      ·show (if m=n then none else if m=nd then _ else g1.av m ver)=_
       rw[yah e',yah e]
      ·show (if m=nd then _ else g1.vc m)=_
       rw[yah e]
      ·have:=(hmb blk hM).1;rw[hb]at this;cases this;exact e' rfl
      ·have hlt:=r1.ol blk _ hb;exact (hg.new _ _ hi).resolve_right (by omega)
   ·show ∃A',b9 m ((nd,⟨kd,xs,0,false,false⟩)::m7 n {A with dead:=true} st1.ar)=some A'
    rw[c7];split
    ·exact ⟨_,rfl⟩
    ·rename_i e;obtain ⟨A',hA'⟩:=r1.ad m (hm.resolve_left e);rw[b8 hA];split
     ·exact ⟨_,rfl⟩
     ·exact ⟨_,hA'⟩
  refine hn g2 _ _ ?_;rw[hdst];exact hrel
end
end
section
def b7i {α:Type} (key:α→Int) (n:Int) (e:α):List α→List α
 | []=>[e]
 |x::xs=>bif key x==n then e::xs else x::b7i key n e xs
def a9l {α:Type} (key:α→Int) (n:Int):List α→Option α
 | []=>none
 |x::xs=>bif key x==n then some x else a9l key n xs
theorem a8r {α:Type} (key:α→Int) (n:Int) (e:α):∀(es:List MapEntry) (xs:List α) (i:Nat),es.length=xs.length→(∀(j:Nat) en x,es[j]?=some en→xs[j]?=some x→en.key=.int .i64 (key x))→
 (a9l key n xs=none∧Instr.findNow (.int .i64) (.int .i64 n) es i=some none∧b7i key n e xs=xs++[e])∨
 ∃j en x,a9l key n xs=some x∧es[j]?=some en∧xs[j]?=some x∧key x=n∧Instr.findNow (.int .i64) (.int .i64 n) es i=some (some (i+j,en.val))∧b7i key n e xs=xs.set j e:=by
 intro es
 induction es with
 |nil=>
  intro xs i hl h;cases xs with
  |nil=>exact .inl ⟨rfl,rfl,rfl⟩
  |cons x xs=>simp at hl
 |cons en es ih=>
  intro xs i hl h;cases xs with
  |nil=>simp at hl
  |cons x xs=>
   have hk:en.key=.int .i64 (key x):=h 0 en x rfl rfl;have hs:Instr.sameNow (.int .i64) (.int .i64 n) en.key=some (n==key x):=by rw[hk];rfl
   cases hb:key x==n with
   |true=>
    have hb':(n==key x)=true:=by rw[yaR]at hb ⊢;exact hb.symm
    exact .inr ⟨0,en,x,by simp[a9l,hb],rfl,rfl,by simpa using hb,by simp[Instr.findNow,hs,hb'],by simp[b7i,hb]⟩
   |false=>
    have hb':(n==key x)=false:=by
     rw[yaI]at hb ⊢;exact fun q=>hb q.symm
    rcases ih xs (i+1) (by simpa using hl) (fun j en x h1 h2=>h (j+1) en x h1 h2) with ⟨h1,h2,h3⟩|⟨j,en',x',h1,h2,h3,h4,h5,h6⟩
    ·exact .inl ⟨by simp[a9l,hb,h1],by simp[Instr.findNow,hs,hb',h2],by simp[b7i,hb,h3]⟩
    ·refine .inr ⟨j+1,en',x',by simp[a9l,hb,h1],h2,h3,h4,?_,by simp[b7i,hb,h6]⟩;simp[Instr.findNow,hs,hb',h5];omega
section
variable {κ:Type} {El:κ→Type} {S:Sg κ El} {P:Program}
variable {c:Cx} {st:St κ El} {g:Gh} {a:Act} {w:World} {R:Type} [KdEq κ]
variable {o:Oper} {q:Bool} {call:Nat→List (D κ El)→List (List (D κ El))→(D κ El→List (List (D κ El))→Option R)→Option R} {k:St κ El→Option R} {r:R}
def d0v:D κ El→Prop
 |.int _ _=>True
 |.bool _=>True
 |.str _=>True
 |_=>False
theorem VR.scal_dr {v:Value} {d:D κ El} (h:VR S w g v d) (hs:d0v d):DR S w g.I g.J v d:=by
 cases d<;>first|exact hs.elim|skip
 all_goals (cases h with|data h=>exact h)
def b7s (P:Program) (S:Sg κ El) (t:Nat) (M:MpK κ El):Prop:=
 ∃(kt et:Nat) (key:El M.k→Int) (val:El M.k→D κ El) (z:Value) (zd:D κ El),
  S.isb M.k=false∧P.underlying t=some (.map kt et)∧P.underlying kt=some (.int .i64)∧(∀w,(zeroValue et).run P w=.ok z w)∧(∀w I J,DR S w I J z zd)∧
  (∀x,S.enc M.k x=[.int .i64 (key x),val x])∧
  (∀xs n,M.get xs n=(a9l key n xs).elim zd val)∧
  (∀xs n,M.has xs n=(a9l key n xs).isSome)∧
  (∀xs n y ys,M.set xs n y=some ys→d0v y∧∃e,key e=n∧val e=y∧ys=b7i key n e xs)
theorem a5b {A:Ar κ El} {v:Nat} (h:b2h A v=true):A.ver=v∧A.dead=true∧A.sealed=true:=by
 unfold b2h at h;simp only[yab,yav]at h;exact h
theorem Rel.growMap (hr:Rel S c st g a w) {n:Nat} {kd:κ} (hisb:S.isb kd=false) (hn:b9 n st.ar=none) (hne:n<MA) (hdst:n<c.nt) :
 ∃g',Rel S c {Ev.put st (some n) (.arr n 0) with ar:=(n,⟨kd,[],0,true,true⟩)::st.ar} g' (a.put (some n) (.map (some w.heap.size))) (w.alloc (.map #[] 0)):=by
 have h:=Grow.alloc hr.ib (.map #[] 0);have hsz:(w.alloc (.map #[] 0)).heap.size=w.heap.size+1:=Array.size_push ..;have s:=h.stepArr (n:=n) (z:=S.sz kd) (v:=.map (some w.heap.size)) (blk:=some w.heap.size) hr.ol (fun b hb=>by cases hb;omega) (hr.ad_not hn) (fun b hb=>by cases hb;exact yal _);have le:=s.le hr;refine ⟨_,hr.step s (by rw[Act.put_size];exact hr.nt) (by rw[Act.put_defers'];exact hr.df) (fun s d' hs=>?_) (fun b cs' hb'=>?_) hr.bd (fun m A hA=>?_) (fun m hm=>?_)⟩
 ·refine hr.env_put le (d:=.arr n 0) (.arr _ n 0 (.inr (.inl ⟨_,rfl⟩)) (.inl rfl) (ya7 _) (fun v' hv'=>?_)) (fun t ht=>by cases ht;exact hdst) hs;have hv':(if n=n then (if (0:Nat)=0 then some (Value.map (some w.heap.size)) else none) else g.av n 0)=some v':=hv';rw[yaq rfl,yaq rfl]at hv';cases hv';rfl
 ·have hb':b9 b st.bx=some cs':=by simpa[Ev.put]using hb'
  exact .inl ⟨hb',fun _ _ hf=>hf⟩
 ·replace hA:b9 m ((n,⟨kd,[],0,true,true⟩)::st.ar)=some A:=hA;rw[c7]at hA;split at hA
  ·rename_i e;subst e;cases hA
   refine .inr ⟨.inl rfl,by simp[a2u],by simp[a2u],fun h=>(by cases h),fun ver v hv=>?_,fun e=>absurd e (by omega),fun _ _=>.inl ⟨hisb,w.heap.size,#[],0,by simp[a2u],s5 w _,by simp[a2u],rfl,fun i e x he=>by simp at he⟩⟩;have hv:(if m=m then (if ver=0 then some (Value.map (some w.heap.size)) else none) else g.av m ver)=some v:=hv;rw[yaq rfl]at hv;split at hv
   ·rename_i e;exact ⟨e,.inr rfl⟩
   ·cases hv
  ·rename_i e;refine .inl ⟨hA,fun ver=>?_,?_,fun _ _ hf=>hf,h.keepArr hr⟩
   ·show (if m=n then _ else g.av m ver)=_
    rw[yah e]
   ·show (if m=n then 0 else g.vc m)=_
    rw[yah e]
 ·show ∃A,b9 m ((n,⟨kd,[],0,true,true⟩)::st.ar)=some A
  rw[c7];split
  ·exact ⟨_,rfl⟩
  ·rename_i e;exact hr.ad m (hm.resolve_left e)
theorem a9q (hG:∀t M,S.mpk t=some M→b7s P S t M) {t:Nat} {z:Option Operand} (ho:o.op=.makeMap t z) (h:aop P S call q o st k=some r):l5 P S o st k r:=by
 unfold aop at h;simp only[ho]at h;cases z with
 |some z=>cases h
 |none=>
  simp only at h;split at h
  ·rename_i M d hM hdst;rw[c6]at h;split at h
   ·rename_i hc;rw[yab]at hc;have hfr:=f8 hc.1;have hlt:d<MA:=yaE hc.2;refine ⟨_,h,.of_run fun c g a w hr hd=>?_⟩;obtain ⟨g',hrel⟩:=hr.growMap (kd:=M.k) (by obtain ⟨_,_,_,_,_,_,h0,-⟩:=hG t M hM;exact h0) hfr hlt (hd d hdst);refine ⟨_,_,g',?_,by rw[hdst];exact hrel⟩;unfold execOp;simp only[ho];exact f0 (Go.RowKit.run_makeMap t w)
   ·cases h
  ·cases h
theorem b84 {t:Nat} {x i:D κ El} {ok:Bool} {k:D κ El→Option R} (h:a3y S st t x i ok k=some r) :
 ∃a v n M A xs,x=.arr a v∧i=.int .i64 n∧S.mpk t=some M∧b9 a st.ar=some A∧b2h A v=true∧(a0v A.xs:Option (List (El M.k)))=some xs∧
  (bif ok then k (.tup [M.get xs n,.bool (M.has xs n)]) else k (M.get xs n))=some r:=by
 unfold a3y at h;split at h
 ·rename_i a v n;split at h
  ·rename_i M A hM hA;rw[c6]at h;split at h
   ·rename_i hok;split at h
    ·rename_i xs hxs;exact ⟨a,v,n,M,A,xs,rfl,rfl,hM,hA,hok,hxs,h⟩
    ·cases h
   ·cases h
  ·cases h
 ·cases h
theorem b7n {t:Nat} {x i y:D κ El} {k:St κ El→Option R} (h:c4z S st t x i y k=some r) :
 ∃a v n M A xs ys,x=.arr a v∧i=.int .i64 n∧S.mpk t=some M∧b9 a st.ar=some A∧b2h A v=true∧solid y=true∧(a0v A.xs:Option (List (El M.k)))=some xs∧
  M.set xs n y=some ys∧k {st with ar:=m7 a ⟨M.k,ys,v,true,true⟩ st.ar}=some r:=by
 unfold c4z at h;split at h
 ·rename_i a v n;split at h
  ·rename_i M A hM hA;rw[c6]at h;split at h
   ·rename_i hok;rw[yab]at hok;split at h
    ·rename_i xs hxs;split at h
     ·rename_i ys hys;exact ⟨a,v,n,M,A,xs,ys,rfl,rfl,hM,hA,hok.1,hok.2,hxs,hys,h⟩
     ·cases h
    ·cases h
   ·cases h
  ·cases h
 ·cases h
theorem Rel.mapOf (hr:Rel S c st g a w) {x:Operand} {n v:Nat} {A:Ar κ El} (hisb:S.isb A.k=false) (hx:Ev.opd st x=.arr n v) (hA:b9 n st.ar=some A) (hok:b2h A v=true) :
 ∃blk es clk,a.eval x=.map (some blk)∧w.heap[blk]?=some (.map es clk)∧g.ow blk=some (.arr n)∧es.size=A.xs.length∧
  ∀(i:Nat) (e:MapEntry) (x:El A.k),es[i]?=some e→A.xs[i]?=some x→∃kd vd,S.enc A.k x=[kd,vd]∧DR S w g.I g.J e.key kd∧DR S w g.I g.J e.val vd:=by
 obtain ⟨rfl,h2,h3⟩:=a5b hok;have hv:=hr.opd x;rw[hx]at hv;obtain ⟨-,-,-,he⟩:=hv.arr_inv;obtain ⟨blk,es,clk,e1,e2,e3,e4,e5⟩:=((hr.ar n A hA).mp h2 h3).map hisb;exact ⟨blk,es,clk,he _ e1,e2,e3,e4,e5⟩
theorem b2u (hG:∀t M,S.mpk t=some M→b7s P S t M) {t:Nat} {x i:Operand} {ok:Bool} (ho:o.op=.lookup t x i ok) (h:aop P S call q o st k=some r):l5 P S o st k r:=by
 unfold aop at h;simp only[ho]at h;obtain ⟨n,v,m,M,A,xs,hx,hi,hM,hA,hok,hxs,hk⟩:=b84 h;obtain ⟨kt,et,key,val,z,zd,h0,h1,h2,h3,h4,h5,h6,h7,h8⟩:=hG t M hM;obtain ⟨Ak,Axs,Av,As,Ad⟩:=A;obtain ⟨hk',hxs⟩:=a0n hxs;simp only at hk' hxs;subst hk';simp only at hxs;subst hxs;have hmain:∀(c:Cx) (g:Gh) (a:Act) (w:World),Rel S c st g a w→∃rv rb,(execOp a.eval o).run P w=.ok (.value (if ok then .tuple #[rv,.bool rb] else rv)) w∧VR S w g rv (M.get Axs m)∧rb=M.has Axs m:=by
  intro c g a w hr;obtain ⟨blk,es,clk,e1,e2,e3,e4,e5⟩:=hr.mapOf (by exact h0) hx hA hok;simp only at e4 e5;have hvi:=hr.opd i;rw[hi]at hvi;have e6:=hvi.int_inv;have hkey:∀(j:Nat) en x,es.toList[j]?=some en→Axs[j]?=some x→en.key=.int .i64 (key x):=by
   intro j en x a1 a2;obtain ⟨kd,vd,b1,b2,b3⟩:=e5 j en x (by simpa using a1) a2;rw[h5]at b1;cases b1
   exact b2.int_inv
  have hck:∀e n,(Instr.checkKey e (n+1) kt (.int .i64 m)).run P w=.ok () w:=fun e n=>Go.MapKept.run_checkKey (d:=.int .i64) h2 (k:=.int .i64 m) (show IntKind.i64=IntKind.i64 from rfl) e n
  by_cases hne:Axs=[]
  ·subst hne;have he0:es.toList=[]:=yap (by simpa using e4);have hf:(Instr.findKey kt (.int .i64 m) es.toList).run P w=.ok none w:=Go.MapKept.run_findKey h2 (by rw[he0];rfl);refine ⟨z,false,?_,?_,by rw[h7];rfl⟩
   ·unfold execOp;simp only[ho,e1,e6];refine (f0 (v:=if ok then .tuple #[z,.bool false] else z) (w':=w) ?_);simp[Instr.lookup,run_underlying h1,Go.MapKept.run_getObj_map e2,hck,hf,h3,Result.andThen]
   ·rw[h6];exact .data (h4 w _ _)
  ·obtain ⟨x0,xs0,rfl⟩:=List.exists_cons_of_ne_nil hne;rcases a8r key m x0 es.toList (x0::xs0) 0 (by simpa using e4) hkey with ⟨f1,f2,-⟩|⟨j,en,x,f1,f2,f3,f4,f5,-⟩
   ·have hf:=Go.MapKept.run_findKey (P:=P) (w:=w) h2 f2;refine ⟨z,false,?_,?_,by rw[h7,f1];rfl⟩
    ·unfold execOp;simp only[ho,e1,e6];refine (f0 (v:=if ok then .tuple #[z,.bool false] else z) (w':=w) ?_);simp[Instr.lookup,run_underlying h1,Go.MapKept.run_getObj_map e2,hck,hf,h3,Result.andThen]
    ·rw[h6,f1];exact .data (h4 w _ _)
   ·have hf:=Go.MapKept.run_findKey (P:=P) (w:=w) h2 f5;refine ⟨en.val,true,?_,?_,by rw[h7,f1];rfl⟩
    ·unfold execOp;simp only[ho,e1,e6];refine (f0 (v:=if ok then .tuple #[en.val,.bool true] else en.val) (w':=w) ?_);simp[Instr.lookup,run_underlying h1,Go.MapKept.run_getObj_map e2,hck,hf,h3,Result.andThen]
    ·rw[h6,f1];obtain ⟨kd,vd,b1,b2,b3⟩:=e5 j en x (by simpa using f2) f3;rw[h5]at b1;cases b1
     exact .data b3
 cases ok with
 |false=>
  refine l5.val (d:=M.get Axs m) hk fun c g a w hr=>?_
  obtain ⟨rv,rb,a1,a2,a3⟩:=hmain c g a w hr;exact ⟨rv,a1,a2⟩
 |true=>
  refine l5.val (d:=.tup [M.get Axs m,.bool (M.has Axs m)]) hk fun c g a w hr=>?_
  obtain ⟨rv,rb,a1,a2,rfl⟩:=hmain c g a w hr;refine ⟨_,a1,.tup _ _ rfl fun i v d b1 b2=>?_⟩
  match i,b1,b2 with
  |0,b1,b2=>cases b1;cases b2;exact a2
  |1,b1,b2=>cases b1;cases b2;exact .data (.bool _)
  |i+2,b1,b2=>simp at b2
theorem b03 (hr:Rel S c st g a w) {blk:Nat} {es:Array MapEntry} {clk:Nat} {es':Array MapEntry} {clk':Nat} {x:Own} (ho:g.ow blk=some x) (hb:w.heap[blk]?=some (.map es clk)) :
 Step (fun b=>b=blk) w g {w with heap:=w.heap.setIfInBounds blk (.map es' clk')} g where
 size:=by simp
 os:=rfl
 out:=rfl
 tape:=rfl
 keep:=fun b _ hne=>⟨(Go.MapKept.heap_set hb).2 b hne,rfl⟩
 own:=fun b hb=>⟨x,by rw[hb];exact ho⟩
 I:=fun b o hi=>⟨hi,fun hb'=>by
  subst hb';have h1:=(Go.MapKept.heap_set (o':=.map es' clk') hb).1;simp only[World.cell?,h1,hb]⟩
 inew:=fun b o hi _=>.inl hi
 ib:=fun b o hi=>by simpa using hr.ib b o hi
 ol:=fun b x hx=>by simpa using hr.ol b x hx
 J:=fun b o=>⟨fun hj=>.inr hj,fun hj=>hj.elim (hr.ij b o) id⟩
 bl:=fun _ _ hb=>hb
 ad:=fun _ ha=>ha
 vc:=fun _ _=>yal _
 av:=fun _ _ _ _ _ hv=>hv
 az:=fun _ _=>rfl
 owk:=fun _ h=>h
theorem a2o (hG:∀t M,S.mpk t=some M→b7s P S t M) {t:Nat} {x i y:Operand} (ho:o.op=.mapUpdate t x i y∨o.op=.insert t x i y) (h:aop P S call q o st k=some r):l5 P S o st k r:=by
 have hau:aop P S call q o st k=(bif a03 o.dst then c4z S st t (opd st x) (opd st i) (opd st y) k else none):=by rcases ho with ho|ho<;>(unfold aop;simp only[ho])
 rw[hau]at h;rw[c6]at h;split at h
 rotate_left
 ·cases h
 rename_i hdn;have hdn:=f8 hdn;obtain ⟨n,v,m,M,A,xs,ys,hx,hi,hM,hA,hok,-,hxs,hys,hk⟩:=b7n h;obtain ⟨kt,et,key,val,z,zd,h0,h1,h2,h3,h4,h5,h6,h7,h8⟩:=hG t M hM;obtain ⟨Ak,Axs,Av,As,Ad⟩:=A;obtain ⟨hk',hxs⟩:=a0n hxs;simp only at hk' hxs;subst hk';simp only at hxs;subst hxs;obtain ⟨hver,hde,hse⟩:=a5b hok;simp only at hver hde hse;obtain ⟨hsc,e0,he0,he1,rfl⟩:=h8 _ _ _ _ hys;refine ⟨_,hk,fun c g a w hr hd next Q hn=>?_⟩;obtain ⟨blk,es,clk,e1,e2,e3,e4,e5⟩:=hr.mapOf (by exact h0) hx hA hok;simp only at e4 e5;have hvi:=hr.opd i;rw[hi]at hvi;have e6:=hvi.int_inv;have hvy:=(hr.opd y).scal_dr hsc;have hkey:∀(j:Nat) en x,es.toList[j]?=some en→Axs[j]?=some x→en.key=.int .i64 (key x):=by
  intro j en x a1 a2;obtain ⟨kd,vd,b1,b2,b3⟩:=e5 j en x (by simpa using a1) a2;rw[h5]at b1;cases b1
  exact b2.int_inv
 have hck:∀e n,(Instr.checkKey e (n+1) kt (.int .i64 m)).run P w=.ok () w:=fun e n=>Go.MapKept.run_checkKey (d:=.int .i64) h2 (k:=.int .i64 m) (show IntKind.i64=IntKind.i64 from rfl) e n
 have hmain:∃es' clk',(Instr.mapUpdate t (.map (some blk)) (.int .i64 m) (a.eval y)).run P w=.ok () {w with heap:=w.heap.setIfInBounds blk (.map es' clk')}∧es'.size=(b7i key m e0 Axs).length∧
  ∀(i:Nat) (e:MapEntry) (x:El M.k),es'[i]?=some e→(b7i key m e0 Axs)[i]?=some x→∃kd vd,S.enc M.k x=[kd,vd]∧DR S w g.I g.J e.key kd∧DR S w g.I g.J e.val vd:=by
  have hnew:∀b,∃kd vd,S.enc M.k e0=[kd,vd]∧DR S w g.I g.J (MapEntry.mk (.int .i64 m) (a.eval y) b).key kd∧DR S w g.I g.J (MapEntry.mk (.int .i64 m) (a.eval y) b).val vd:=
   fun b=>⟨_,_,h5 e0,by rw[he0];exact .int _ _,by rw[he1];exact hvy⟩
  rcases a8r key m e0 es.toList Axs 0 (by simpa using e4) hkey with ⟨f1,f2,f6⟩|⟨j,en,x,f1,f2,f3,f4,f5,f6⟩
  ·have hf:=Go.MapKept.run_findKey (P:=P) (w:=w) h2 f2;refine ⟨es.push ⟨.int .i64 m,a.eval y,clk⟩,clk+1,?_,by rw[f6];simp[e4],fun i e x he hx=>?_⟩
   ·simp[Instr.mapUpdate,run_underlying h1,Go.MapKept.run_getObj_map e2,hck,hf,Go.MapKept.run_setObj_map _ e2,Result.andThen]
   ·rw[f6]at hx;rw[Array.getElem?_push]at he;split at he
    ·rename_i hi;cases he
     rw[hi,e4,List.getElem?_concat_length]at hx;cases hx
     exact hnew _
    ·have hi:i<es.size:=(yad.1 he).1;rw[yar (by omega)]at hx;exact e5 i e x he hx
  ·have hf:=Go.MapKept.run_findKey (P:=P) (w:=w) h2 f5;have hj:es[j]?=some en:=by simpa using f2
   have hjlt:j<es.size:=(yad.1 hj).1;have hkk:en.key=.int .i64 m:=by rw[hkey j en x f2 f3,f4]
   have hst:(Instr.keyThatStays (.int .i64 m) (.int .i64 m)).run P w=.ok (.int .i64 m) w:=Go.MapKept.run_keyThatStays (d:=.int .i64) (k:=.int .i64 m) (show IntKind.i64=IntKind.i64 from rfl);refine ⟨es.modify j fun e=>{e with key:=.int .i64 m,val:=a.eval y},clk,?_,by rw[f6];simp[e4],fun i e x' he hx=>?_⟩
   ·simp[Instr.mapUpdate,run_underlying h1,Go.MapKept.run_getObj_map e2,hck,hf,hj,hkk,hst,Go.MapKept.run_setObj_map _ e2,Result.andThen]
   ·rw[f6]at hx;rw[Array.getElem?_modify]at he;split at he
    ·rename_i hi;subst hi;rw[hj]at he;cases he
     rw[List.getElem?_set_self (by omega)]at hx;cases hx
     exact hnew _
    ·rename_i hi;rw[List.getElem?_set_ne hi]at hx;exact e5 i e x' he hx
 obtain ⟨es',clk',hrun,hlen,hels⟩:=hmain;have s:=b03 hr (es':=es') (clk':=clk') e3 e2;have le:=s.le hr;rcases ho with ho|ho
 all_goals
  unfold Oper.wp execOp;simp only[ho,e1,e6,Sem.run_bind,hrun,Result.andThen_ok,Sem.run_pure];show next (a.put o.dst undef) _
  rw[hdn];refine hn g a _ (hr.step s hr.nt hr.df (fun s d hs=>hr.env_le le hs) (fun b' cs'' hb'=>?_) hr.bd (fun n' A' hA'=>?_) (fun n' hn'=>?_))
  ·refine .inl ⟨hb',fun blk' hb'' hM=>?_⟩;have hM:blk'=blk:=hM;subst hM;have:=hr.bx_ow hb'';rw[e3]at this;cases this
  ·rw[b8 hA]at hA';split at hA'
   ·rename_i en;subst en;cases hA'
    have hAr:=hr.ar _ _ hA;obtain ⟨blk0,es0,clk0,k1,k2,k3,-,-⟩:=(hAr.mp hde hse).map h0;have hbb:a.eval x=.map (some blk0):=by
     have hv:=hr.opd x;rw[hx]at hv;obtain ⟨-,-,-,he⟩:=hv.arr_inv;exact he _ (by rw[←hver];exact k1)
    rw[e1]at hbb;cases hbb
    refine .inr ⟨hAr.ad,hAr.az,by rw[←hver];exact hAr.vc,fun h=>(by cases h),fun ver u hu=>⟨by rw[←hver];exact (hAr.ver ver u hu).1,.inr rfl⟩,fun e=>?_,fun _ _=>.inl ⟨h0,blk,es',clk',by rw[←hver];exact k1,(Go.MapKept.heap_set e2).1,e3,hlen,fun i e x he hx=>?_⟩⟩
    ·have:=(hAr.own e).2;simp only at this;rw[hse]at this;cases this
    ·obtain ⟨kd,vd,b1,b2,b3⟩:=hels i e x he hx;exact ⟨kd,vd,b1,b2.mono le.I le.J,b3.mono le.I le.J⟩
   ·rename_i en;refine .inl ⟨hA',fun _=>rfl,rfl,fun blk' hb' hM=>?_,fun _ _ _ hi=>hi⟩;have hM:blk'=blk:=hM;subst hM;rw[e3]at hb';cases hb';exact en rfl
  ·rw[b8 hA];split
   ·exact ⟨_,rfl⟩
   ·exact hr.ad n' hn'
theorem b4s {m:Nat} {dst:Option Nat} {args:List (D κ El)} {k:St κ El→Option R} (h:c5t S m st dst args k=some r) :
 ∃B a v rest A xs,S.bl=some B∧args=.arr a v::rest∧b9 a st.ar=some A∧b2h A v=true∧(a0v A.xs:Option (List (El B.k)))=some xs∧
  ((m=1∧∃s,rest=[.str s]∧xs.length+s.length≤LIM∧k {put st dst .undef with ar:=m7 a ⟨B.k,xs++B.of s,v,true,true⟩ st.ar}=some r)∨
   (m=2∧rest=[]∧k {put st dst (.str (B.to xs)) with ar:=m7 a ⟨B.k,[],v,false,true⟩ st.ar}=some r)):=by
 unfold c5t at h;split at h
 ·rename_i B a v rest hB;split at h
  ·rename_i A hA;rw[c6]at h;split at h
   ·rename_i hok;split at h
    ·rename_i xs hxs;refine ⟨B,a,v,rest,A,xs,hB,rfl,hA,hok,hxs,?_⟩;split at h
     ·rename_i s;rw[c6]at h;split at h
      ·rename_i hl;exact .inl ⟨rfl,s,rfl,ya0 hl,h⟩
      ·cases h
     ·exact .inr ⟨rfl,rfl,h⟩
     ·cases h
    ·cases h
   ·cases h
  ·cases h
 ·cases h
end
end
section
def a9k (blk:Nat) (v v':Value) (w w':World):Prop:=
 w.heap.size≤w'.heap.size∧w'.os=w.os∧w'.output=w.output∧w'.tape=w.tape∧(∀b,b<w.heap.size→b≠blk→obk v≠some b→w'.heap[b]?=w.heap[b]?)∧∀bb,obk v'=some bb→obk v=some bb∨w.heap.size≤bb
def a2n (P:Program) (T e f:Nat):Prop:=
 ∀(w:World) (blk:Nat) (p v:Value) (l:List UInt8) (s:ByteArray),(p=.pointer none∨p=.pointer (some ⟨blk,0,none⟩))→w.heap[blk]?=some (.cells #[p,v] T (0,0))→a7o w blk e l v→l.length+s.data.toList.length≤LIM→
  o0 P f #[.pointer (some ⟨blk,0,none⟩),.string s] w fun _ w'=>∃p' v',(p'=.pointer none∨p'=.pointer (some ⟨blk,0,none⟩))∧w'.heap[blk]?=some (.cells #[p',v'] T (0,0))∧a7o w' blk e (l++s.data.toList) v'∧a9k blk v v' w w'
def a28 (P:Program) (T e f:Nat):Prop:=
 ∀(w:World) (blk:Nat) (p v:Value) (l:List UInt8),(p=.pointer none∨p=.pointer (some ⟨blk,0,none⟩))→w.heap[blk]?=some (.cells #[p,v] T (0,0))→a7o w blk e l v→
  o0 P f #[.pointer (some ⟨blk,0,none⟩)] w fun r w'=>r=.string ⟨l.toArray⟩∧a9k blk v v w w'
section
variable {κ:Type} {El:κ→Type} {S:Sg κ El} {P:Program}
variable {c:Cx} {st:St κ El} {g:Gh} {a:Act} {w:World} {R:Type} [KdEq κ]
variable {o:Oper} {q:Bool} {call:Nat→List (D κ El)→List (List (D κ El))→(D κ El→List (List (D κ El))→Option R)→Option R} {k:St κ El→Option R} {r:R}
structure BlSpec (P:Program) (S:Sg κ El) (B:BlK κ El):Prop where
 isb:S.isb B.k=true
 nil:B.to []=[]
 app:∀l s,B.to (l++B.of s)=B.to l++s
 len:∀l,(B.to l).length=l.length
 zero:∃i z,P.info? B.t=some i∧i.zero=some z∧z.cells = #[.pointer none,.slice none 0 0]
 fw:∀f,S.md f=.bld→(B.fw f=1→a2n P B.t B.e f)∧(B.fw f=2→a28 P B.t B.e f)
theorem b94 (l:List Int) (s:List UInt8):blJ (l++blI s)=blJ l++s:=by
 unfold blJ blI;rw[List.map_append,List.map_map];congr 1;rw[show ((fun n:Int=>UInt8.ofNat n.toNat)∘fun b:UInt8=>(b.toNat:Int))=id from funext fun b=>by simp];exact List.map_id s
theorem c1s (l:List Int):(blJ l).length=l.length:=by unfold blJ;exact ybn ..
theorem b4r {k:κ} {of:List UInt8→List (El k)} {to:List (El k)→List UInt8} {t e a b:Nat} (h1:S.isb k=true) (happ:∀l s,to (l++of s)=to l++s) (hnil:to []=[]) (hlen:∀l,(to l).length=l.length)
 (hz:(P.info? t).bind (·.zero)=some (.agg #[.pointer none,.slice none 0 0])) (hw:a2n P t e a) (hs:a28 P t e b):BlSpec P S ⟨k,of,to,t,e,c22 a b⟩:=by
 refine ⟨h1,hnil,happ,hlen,?_,fun f _=>⟨fun h=>?_,fun h=>?_⟩⟩
 ·obtain ⟨i,hi,hz⟩:=yaD.1 hz;exact ⟨i,_,hi,hz,rfl⟩
 ·have h:c22 a b f=1:=h;unfold c22 at h;rw[c6]at h;split at h
  ·rename_i hf;rw[yav]at hf;subst hf;exact hw
  ·rw[c6]at h;split at h<;>cases h
 ·have h:c22 a b f=2:=h;unfold c22 at h;rw[c6]at h;split at h
  ·cases h
  ·rw[c6]at h;split at h
   ·rename_i hf;rw[yav]at hf;subst hf;exact hs
   ·cases h
theorem Rel.growBld (hr:Rel S c st g a w) {n:Nat} {B:BlK κ El} (hB:S.bl=some B) (hs:BlSpec P S B) (hn:b9 n st.ar=none) (hne:n<MA) (hdst:n<c.nt) :
 ∃g',Rel S c {Ev.put st (some n) (.arr n 0) with ar:=(n,⟨B.k,[],0,true,true⟩)::st.ar} g' (a.put (some n) (.pointer (some ⟨w.heap.size,0,none⟩))) (w.alloc (.cells #[.pointer none,.slice none 0 0] B.t)):=by
 have h:=Grow.alloc hr.ib (.cells #[.pointer none,.slice none 0 0] B.t);have hsz:(w.alloc (.cells #[.pointer none,.slice none 0 0] B.t)).heap.size=w.heap.size+1:=Array.size_push ..;have s:=h.stepArr (n:=n) (z:=S.sz B.k) (v:=.pointer (some ⟨w.heap.size,0,none⟩)) (blk:=some w.heap.size) hr.ol (fun b hb=>by cases hb;omega) (hr.ad_not hn) (fun b hb=>by cases hb;exact yal _);have le:=s.le hr;refine ⟨_,hr.step s (by rw[Act.put_size];exact hr.nt) (by rw[Act.put_defers'];exact hr.df) (fun s d' hs=>?_) (fun b cs' hb'=>?_) hr.bd (fun m A hA=>?_) (fun m hm=>?_)⟩
 ·refine hr.env_put le (d:=.arr n 0) (.arr _ n 0 (.inr (.inr ⟨_,rfl⟩)) (.inl rfl) (ya7 _) (fun v' hv'=>?_)) (fun t ht=>by cases ht;exact hdst) hs;have hv':(if n=n then (if (0:Nat)=0 then some (Value.pointer (some ⟨w.heap.size,0,none⟩)) else none) else g.av n 0)=some v':=hv';rw[yaq rfl,yaq rfl]at hv';cases hv';rfl
 ·have hb':b9 b st.bx=some cs':=by simpa[Ev.put]using hb'
  exact .inl ⟨hb',fun _ _ hf=>hf⟩
 ·replace hA:b9 m ((n,⟨B.k,[],0,true,true⟩)::st.ar)=some A:=hA;rw[c7]at hA;split at hA
  ·rename_i e;subst e;cases hA
   refine .inr ⟨.inl rfl,by simp[a2u],by simp[a2u],fun h=>(by cases h),fun ver v hv=>?_,fun e=>absurd e (by omega),fun _ _=>.inr ⟨hs.isb,B,[],w.heap.size,hB,rfl,by simp[a2u],.pointer none,.slice none 0 0,.inl rfl,s5 w _,by simp[a2u],fun o hi=>?_,.inl ⟨rfl,hs.nil⟩,fun bb hbb=>(by cases hbb)⟩⟩
   ·have hv:(if m=m then (if ver=0 then some (Value.pointer (some ⟨w.heap.size,0,none⟩)) else none) else g.av m ver)=some v:=hv;rw[yaq rfl]at hv;split at hv
    ·rename_i e;exact ⟨e,.inr rfl⟩
    ·cases hv
   ·have hi:g.I w.heap.size o:=hi;have:=hr.ib _ _ hi;omega
  ·rename_i e;refine .inl ⟨hA,fun ver=>?_,?_,fun _ _ hf=>hf,h.keepArr hr⟩
   ·show (if m=n then _ else g.av m ver)=_
    rw[yah e]
   ·show (if m=n then 0 else g.vc m)=_
    rw[yah e]
 ·show ∃A,b9 m ((n,⟨B.k,[],0,true,true⟩)::st.ar)=some A
  rw[c7];split
  ·exact ⟨_,rfl⟩
  ·rename_i e;exact hr.ad m (hm.resolve_left e)
theorem b4i (hG:∀B,S.bl=some B→BlSpec P S B) {e:Nat} (ho:o.op=.alloc e) (h:aop P S call q o st k=some r):l5 P S o st k r:=by
 cases hb:c5u S e with
 |none=>exact b2s ho hb h
 |some B=>
  have hB:S.bl=some B∧e=B.t:=by
   unfold c5u at hb;split at hb
   ·rename_i B' hB';rw[c6]at hb;split at hb
    ·rename_i he;rw[yav]at he;cases hb
     exact ⟨hB',he⟩
    ·cases hb
   ·cases hb
  obtain ⟨hB,rfl⟩:=hB;unfold aop at h;simp only[ho,hb]at h;split at h
  rotate_left
  ·cases h
  rename_i d hdst;rw[c6]at h;split at h
  rotate_left
  ·cases h
  rename_i hc;rw[yab]at hc;have hs:=hG B hB;refine ⟨_,h,.of_run fun c g a w hr hd=>?_⟩;obtain ⟨g',hrel⟩:=hr.growBld hB hs (f8 hc.1) (yaE hc.2) (hd d hdst);obtain ⟨i,z,hi,hz,hzc⟩:=hs.zero;refine ⟨_,_,g',?_,by rw[hdst];exact hrel⟩;unfold execOp;simp only[ho];refine f0 ?_;simp[Instr.alloc,zeroValue,run_typeInfo' hi,hz,newVar,newRow,newObj,hzc];rfl
structure ByOk (S:Sg κ El) (Y:ByK κ El):Prop where
 sz:S.sz Y.k=1
 of:∀s i (hi:i<(Y.of s).length),∃b,s[i]?=some b∧S.enc Y.k (Y.of s)[i]=[.int .u8 b.toNat]
 len:∀s,(Y.of s).length=s.length
 to:∃f:El Y.k→Int,(∀x,S.enc Y.k x=[.int .u8 (f x)])∧∀xs,Y.to xs=xs.map (fun x=>UInt8.ofNat (f x).toNat)
theorem c1t {S:Sg κ El} {k:κ} {of:List UInt8→List (El k)} {to:List (El k)→List UInt8} (f:El k→Int) (h0:S.sz k=1) (h1:∀x,S.enc k x=[.int .u8 (f x)]) (h2:∀s,(of s).map f=blI s) (h3:∀xs,to xs=blJ (xs.map f)):ByOk S ⟨k,of,to⟩:=by
 have hlen:∀s,(of s).length=s.length:=fun s=>by have:=congrArg List.length (h2 s);simpa[blI]using this
 refine ⟨h0,fun s i hi=>?_,hlen,f,h1,fun xs=>?_⟩
 ·have hi':i<s.length:=by rw[←hlen];exact hi
  refine ⟨s[i],yaa hi',?_⟩;have h4:((of s).map f)[i]?=(blI s)[i]?:=by rw[h2]
  simp only[blI,yaF,yaa hi,yaa hi',Option.map_some,yaf]at h4;show S.enc k (of s)[i]=_
  rw[h1,h4]
 ·show to xs=_
  rw[h3];unfold blJ;rw[List.map_map];rfl
theorem b1m {s t:Nat} (h:byT P s t=true):P.underlying s=some .string∧∃e,P.underlying t=some (.slice e)∧P.underlying e=some (.int .u8):=by
 unfold byT at h;split at h
 ·rename_i e hs ht;split at h
  ·rename_i he;exact ⟨hs,e,d9 ht,he⟩
  ·cases h
 ·cases h
theorem a9o (sgk:SgOk S) (hY:∀Y,S.by_=some Y→ByOk S Y) {s t:Nat} {x:Operand} (ho:o.op=.convert s t x) (h:aop P S call q o st k=some r):l5 P S o st k r:=by
 cases hb:a4s P S st s t (opd st x) with
 |none=>exact a7u ho hb h
 |some v=>
  unfold aop at h;simp only[ho,hb]at h;refine ⟨_,h,.of_run fun c g a w hr hd=>?_⟩;unfold a4s at hb;split at hb
  ·cases hb
  rename_i Y hYs;have yk:=hY Y hYs;have hsz:=yk.sz;split at hb
  ·rename_i l hx;rw[c6]at hb;split at hb
   rotate_left
   ·cases hb
   rename_i hT;cases hb
   obtain ⟨hs,e,ht,he⟩:=b1m hT;have hv:=hr.opd x;rw[hx]at hv;obtain ⟨bs,hev,hbs⟩:=hv.str_inv;have hrun:=Go.run_bytes_of_string (P:=P) w s t e bs hs ht he;have hbl:bs.size=(Y.of l).length:=by rw[yk.len,hbs,yaY];rfl
   have hget:∀i (b:UInt8),l[i]?=some b→(bytesRow bs (grownCap w bs.size 0 e))[i]?=some (Value.int .u8 b.toNat):=fun i b hi=>by
    unfold bytesRow;rw[hbs,yan]at hi;have hlt:i<bs.data.size:=(yad.1 hi).1;rw[yaX (by simpa using hlt),Array.getElem?_map,hi];rfl
   have hcap:bs.size≤grownCap w bs.size 0 e:=a2g w bs.size 0 e;generalize bytesRow bs (grownCap w bs.size 0 e)=cells at hrun hget;generalize grownCap w bs.size 0 e=cap at hrun hcap;have hnew:(w.drew.alloc (.cells cells e (cells.size,cells.size+1))).heap[w.heap.size]?=some (.cells cells e (cells.size,cells.size+1)):=s5 w.drew _;have hgr:Grow w (w.drew.alloc (.cells cells e (cells.size,cells.size+1))) g.I (fun b o=>g.I b o∨b=w.heap.size):={
    size:=by rw[World.size_alloc];show w.heap.size≤w.heap.size+1;omega
    os:=rfl
    out:=rfl
    tape:=rfl
    keep:=fun b hb=>(Grow.alloc (w:=w.drew) (I:=fun _ _=>False) (fun _ _ h=>h.elim) (.cells cells e (cells.size,cells.size+1))).keep b hb
    hI:=fun _ _ h=>.inl h
    new:=fun b o h=>h.elim .inl (fun h=>.inr (by omega))
    ib:=fun b o h=>by
     rw[World.size_alloc];show b<w.heap.size+1
     rcases h with h|h
     ·have:=hr.ib b o h;omega
     ·omega}
   refine ⟨.slice (some ⟨w.heap.size,0,none⟩) bs.size cap,_,_,?_,(hr.grow hgr).1.put (.data (DR.gI ?_)) hd⟩
   ·unfold execOp;simp only[ho,hev];exact f0 hrun
   ·rw[hbl];refine .lst w.heap.size 0 cap Y.k (Y.of l) (fun i _=>(cells[i]?).getD undef) (by omega) (fun i j hi hj=>?_) (fun i hi j d hd'=>?_)
    ·rw[hsz]at hj ⊢;have hj:j=0:=by omega
     subst hj;have hil:i<l.length:=by rw[←yk.len];exact hi
     have h1:=hget i _ (yaa hil);refine ⟨?_,.inr rfl⟩;simp only[World.cell?,hnew,yaH,ybo,yaW,h1];rfl
    ·obtain ⟨b,e1,e2⟩:=yk.of l i hi;rw[e2]at hd';have hj:j=0:=by
      have:=(zL hd')
      simp at this;exact this
     subst hj;cases hd'
     rw[hget i b e1];exact .int _ _
  ·rw[c6]at hb;split at hb
   rotate_left
   ·cases hb
   rename_i hT;obtain ⟨ht,e,hs,he⟩:=b1m hT;split at hb
   rotate_left
   ·cases hb
   rename_i kd ys hit;split at hb
   rotate_left
   ·cases hb
   rename_i zs hzs;cases hb
   obtain ⟨hk',hzs⟩:=a0n hzs;subst hk';simp only at hzs;subst hzs;obtain ⟨base,cap,hev,hz⟩:=a3d sgk hit hr (hr.opd x);obtain ⟨f,hf,hto⟩:=yk.to;have hstr:strOfNums (ys.map f)=⟨(Y.to ys).toArray⟩:=by unfold strOfNums;rw[hto,List.map_map];rfl
   have hrun:(convert s t (a.eval x)).run P w=.ok (.string ⟨(Y.to ys).toArray⟩) w:=by
    rw[hev];rcases hz with h0|⟨blk,off,rfl,cv,hc,hv⟩
    ·have h0:ys=[]:=yaV.1 h0;subst h0;cases base with
     |none=>rw[run_convert_bytes_nil w s e hs he _ _ t ht,hto];rfl
     |some ad=>
      rw[run_convert_bytes_string w s t e _ _ cap hs he ht,run_bytesToString w ad _ cap [] (by simpa using run_loadCells_list (P:=P) w ad [] (fun j v hj=>by simp at hj)),hto];rfl
    ·rw[run_convert_bytes_arg w s e hs he blk off ys.length cap (ys.map f) (by simp) (fun i hi=>?_) t ht,hstr];have h1:=hc i 0 hi (by rw[hsz];omega);rw[hsz,ybo,yaW]at h1;have h2:=hv i hi 0 (.int .u8 (f ys[i])) (by rw[hf];rfl);rw[h1,h2.int_inv];simp[List.getD,yaa hi]
   refine ⟨.string ⟨(Y.to ys).toArray⟩,w,g,?_,hr.put (.data (.str ⟨(Y.to ys).toArray⟩)) hd⟩;unfold execOp;simp only[ho];exact f0 hrun
theorem b1k (hr:Rel S c st g a w) {n blk:Nat} {v v':Value} {w':World} (how:g.ow blk=some (.arr n)) (hno:∀o,¬g.I blk o) (hown:∀bb,obk v=some bb→g.ow bb=some (.arr n)∧∀o,¬g.I bb o)
 (hlt:∀bb,obk v'=some bb→bb<w'.heap.size) (h:a9k blk v v' w w') :
 Step (fun b=>b=blk∨obk v=some b) w g w' {g with ow:=fun b=>if obk v'=some b then some (.arr n) else g.ow b}:=by
 obtain ⟨hsize,hos,hout,htape,hkeep,hnew⟩:=h;exact {
  size:=hsize
  os:=hos
  out:=hout
  tape:=htape
  keep:=fun b hb hM=>⟨hkeep b hb (fun e=>hM (.inl e)) (fun e=>hM (.inr e)),by
   show (if obk v'=some b then some (Own.arr n) else g.ow b)=g.ow b
   rw[yah];intro e;rcases hnew b e with q|q
   ·exact hM (.inr q)
   ·omega⟩
  own:=fun b hb=>by
   rcases hb with rfl|hb
   ·exact ⟨_,how⟩
   ·exact ⟨_,(hown b hb).1⟩
  I:=fun b o hi=>⟨hi,fun hM=>by
   rcases hM with rfl|hM
   ·exact absurd hi (hno o)
   ·exact absurd hi ((hown b hM).2 o)⟩
  inew:=fun b o hi _=>.inl hi
  ib:=fun b o hi=>yat (hr.ib b o hi) hsize
  ol:=fun b x hx=>by
   have hx:(if obk v'=some b then some (Own.arr n) else g.ow b)=some x:=hx;split at hx
   ·rename_i e;exact hlt b e
   ·exact yat (hr.ol b x hx) hsize
  J:=fun b o=>⟨fun hj=>.inr hj,fun hj=>hj.elim (hr.ij b o) id⟩
  bl:=fun _ _ hb=>hb
  ad:=fun _ ha=>ha
  vc:=fun _ _=>yal _
  av:=fun _ _ _ _ _ hv=>hv
  az:=fun _ _=>rfl
  owk:=fun b hb=>by
   show (if obk v'=some b then some (Own.arr n) else g.ow b)=_
   split
   ·rename_i e;rcases hnew b e with q|q
    ·have:=(hown b q).1;rw[this]at hb;exact hb
    ·have:=hr.ol b _ hb;omega
   ·exact hb}
theorem b2j {dst:Option Nat} {d:D κ El} {X:List (Nat×Ar κ El)}:({Ev.put st dst d with ar:=X}:St κ El)=Ev.put {st with ar:=X} dst d:=by cases dst<;>rfl
theorem b8b (hG:∀B,S.bl=some B→BlSpec P S B) {cl:Call} {fo:Operand} {f:Nat} {pre caps:List (D κ El)} (ho:o.op=.call cl) (hc:cl.callee=.value fo) (hf:opd st fo=.fn f pre caps) (hm:S.md f=.bld)
 (h:g8 S call q st o.dst f (pre++cl.args.toList.map (opd st)++caps) k=some r):l5 P S o st k r:=by
 unfold g8 at h;rw[hm]at h;cases q with
 |true=>cases h
 |false=>
  simp only at h;obtain ⟨B,n,ver,rest,A,xs,hB,hargs,hA,hok,hxs,hcase⟩:=b4s h;have hs:=hG B hB;have hfw:=hs.fw f hm;have hbf:c9p S f=B.fw f:=by unfold c9p;rw[hB]
  obtain ⟨hver,hde,hse⟩:=a5b hok;obtain ⟨Ak,Axs,Av,As,Ad⟩:=A;obtain ⟨hk',hxs⟩:=a0n hxs;simp only at hk' hxs;subst hk';simp only at hxs;subst hxs;simp only at hver hde hse;subst hver hde hse;have main:∀(c:Cx) (g:Gh) (a:Act) (w:World),Rel S c st g a w→∃(p0 cp us:Array Value) (blk:Nat) (p v:Value),a.eval fo=.func (.func f) p0 cp∧p0++cl.args.map a.eval++cp = #[Value.pointer (some ⟨blk,0,none⟩)]++us∧us.size=rest.length∧
   (∀(i:Nat) v d,us[i]?=some v→rest[i]?=some d→VR S w g v d)∧g.av n Av=some (.pointer (some ⟨blk,0,none⟩))∧(p=.pointer none∨p=.pointer (some ⟨blk,0,none⟩))∧w.heap[blk]?=some (.cells #[p,v] B.t (0,0))∧
   g.ow blk=some (.arr n)∧(∀o,¬g.I blk o)∧a7o w blk B.e (B.to Axs) v∧∀bb,obk v=some bb→g.ow bb=some (.arr n)∧∀o,¬g.I bb o:=by
   intro c g a w hr;obtain ⟨p0,cp,e,hsz,hv⟩:=o8 (xs:=cl.args) hr hf;rw[hargs]at hsz hv;obtain ⟨v0,us,hus,hv0,husz,husv⟩:=a1m hsz hv;obtain ⟨-,-,-,he⟩:=hv0.arr_inv;obtain ⟨blk,e1,p,v,h1,h2,h3,h4,h5,h6⟩:=((hr.ar n _ hA).mp rfl rfl).bld hB hs.isb;have e0:v0=.pointer (some ⟨blk,0,none⟩):=he _ e1;exact ⟨p0,cp,us,blk,p,v,e,by rw[hus,e0],husz,husv,e1,h1,h2,h3,h4,h5,h6⟩
  rcases hcase with ⟨h1,s,rfl,hl,hk⟩|⟨h2,rfl,hk⟩
  ·refine ⟨_,hk,fun c g a w hr hd next Q hn=>?_⟩;obtain ⟨p0,cp,us,blk,p,v,e,hus,husz,husv,e1,hp,hb,how,hno,hbuf,hown⟩:=main c g a w hr;obtain ⟨u,rfl⟩:∃u,us = #[u]:=⟨us[0]'(by simp at husz;omega),by
    apply Array.ext
    ·simpa using husz
    ·intro i hi1 hi2;have:i=0:=by simp at hi2;omega
     subst this;rfl⟩
   obtain ⟨sb,rfl,hsb⟩:=(husv 0 u (.str s) rfl rfl).str_inv;have hcall:=hfw.1 (by rw[←hbf];exact h1) w blk p v (B.to Axs) sb hp hb hbuf (by rw[←hsb,hs.len];exact hl);rw[show #[Value.pointer (some ⟨blk,0,none⟩),Value.string sb] = #[Value.pointer (some ⟨blk,0,none⟩)]++#[Value.string sb] from rfl,←hus]at hcall;refine o0.wp (n8 ho hc e w) hcall (fun rv w' hq=>?_);obtain ⟨p',v',hp',hb',hbuf',hOnly⟩:=hq;have hlt':∀bb,obk v'=some bb→bb<w'.heap.size:=fun bb hbb=>by
    rcases hbuf' with ⟨e',-⟩|⟨b2,cap,cur,e',e2,-⟩
    ·rw[e']at hbb;cases hbb
    ·rw[e']at hbb;cases hbb
     exact (yad.1 e2).1
   have st1:=b1k hr how hno hown hlt' hOnly;have le:=st1.le hr;have hAr:=hr.ar n _ hA;have hnew:=hOnly.2.2.2.2.2;have hrel:Rel S c {st with ar:=m7 n ⟨B.k,Axs++B.of s,Av,true,true⟩ st.ar} _ a w':=hr.step st1 hr.nt hr.df (fun s d hs=>hr.env_le le hs)
    (fun b' cs hb''=>.inl ⟨hb'',fun blk' hbl hM=>by
     have h3:=hr.bx_ow hbl;rcases hM with rfl|hM
     ·rw[how]at h3;cases h3
     ·rw[(hown _ hM).1]at h3;cases h3⟩) hr.bd
    (fun n' A' hA'=>by
     replace hA':b9 n' (m7 n ⟨B.k,Axs++B.of s,Av,true,true⟩ st.ar)=some A':=hA';rw[b8 hA]at hA';split at hA'
     ·rename_i en;subst en;cases hA'
      refine .inr ⟨hAr.ad,hAr.az,hAr.vc,fun h=>(by cases h),fun ver u hu=>⟨(hAr.ver ver u hu).1,.inr rfl⟩,fun e=>?_,fun _ _=>.inr ⟨hs.isb,B,Axs++B.of s,blk,hB,rfl,e1,p',v',hp',hb',?_,hno,?_,fun bb hbb=>⟨?_,fun o hi=>?_⟩⟩⟩
      ·have:=(hAr.own e).2;cases this
      ·show (if obk v'=some blk then some (Own.arr n') else g.ow blk)=_
       split
       ·rfl
       ·exact how
      ·rw[hs.app,hsb];exact hbuf'
      ·show (if obk v'=some bb then some (Own.arr n') else g.ow bb)=_
       rw[yaq hbb]
      ·rcases hnew bb hbb with q|q
       ·exact (hown bb q).2 o hi
       ·have:=hr.ib _ _ hi;omega
     ·rename_i en;refine .inl ⟨hA',fun _=>rfl,rfl,fun blk' hb'' hM=>?_,fun _ _ _ hi=>hi⟩;rcases hM with rfl|hM
      ·rw[how]at hb'';cases hb'';exact en rfl
      ·rw[(hown _ hM).1]at hb'';cases hb'';exact en rfl)
    (fun n' hn'=>by
     show ∃A,b9 n' (m7 n ⟨B.k,Axs++B.of s,Av,true,true⟩ st.ar)=some A
     rw[b8 hA];split
     ·exact ⟨_,rfl⟩
     ·exact hr.ad n' hn')
   have hfin:=hrel.put (dst:=o.dst) (d:=.undef) (v:=rv) (.undef _) hd;rw[←b2j]at hfin;exact hn _ _ _ hfin
  ·refine ⟨_,hk,fun c g a w hr hd next Q hn=>?_⟩;obtain ⟨p0,cp,us,blk,p,v,e,hus,husz,husv,e1,hp,hb,how,hno,hbuf,hown⟩:=main c g a w hr;obtain rfl:us = #[]:=Array.eq_empty_of_size_eq_zero (by simpa using husz);have hcall:=hfw.2 (by rw[←hbf];exact h2) w blk p v (B.to Axs) hp hb hbuf;rw[show #[Value.pointer (some ⟨blk,0,none⟩)] = #[Value.pointer (some ⟨blk,0,none⟩)]++#[] from rfl,←hus]at hcall;refine o0.wp (n8 ho hc e w) hcall (fun rv w' hq=>?_);obtain ⟨rfl,hOnly⟩:=hq;have hlt':∀bb,obk v=some bb→bb<w'.heap.size:=fun bb hbb=>yat (hr.ol bb _ (hown bb hbb).1) hOnly.1
   have st1:=b1k hr how hno hown hlt' hOnly;have hAr:=hr.ar n _ hA
   let g1:Gh:={g with ow:=fun b=>if obk v=some b then some (.arr n) else g.ow b}
   let g':Gh:={g1 with av:=fun m ver=>if m=n then none else g.av m ver}
   have st2:Step (fun b=>b=blk∨obk v=some b) w g w' g':={st1 with
    av:=fun m ver u _ _ hv=>by
     have hv:(if m=n then none else g.av m ver)=some u:=hv;split at hv
     ·cases hv
     ·exact hv}
   have le:=st2.le hr;have hrel:Rel S c {st with ar:=m7 n ⟨B.k,[],Av,false,true⟩ st.ar} g' a w':=hr.step st2 hr.nt hr.df (fun s d hs=>hr.env_le le hs)
    (fun b' cs hb''=>.inl ⟨hb'',fun blk' hbl hM=>by
     have h3:=hr.bx_ow hbl;rcases hM with rfl|hM
     ·rw[how]at h3;cases h3
     ·rw[(hown _ hM).1]at h3;cases h3⟩) hr.bd
    (fun n' A' hA'=>by
     replace hA':b9 n' (m7 n ⟨B.k,[],Av,false,true⟩ st.ar)=some A':=hA';rw[b8 hA]at hA';split at hA'
     ·rename_i en;subst en;cases hA'
      refine .inr ⟨hAr.ad,hAr.az,hAr.vc,fun h=>(by cases h),fun ver u hu=>?_,fun e=>?_,fun _ h=>(by cases h)⟩
      ·have hu:(if n'=n' then none else g.av n' ver)=some u:=hu;rw[yaq rfl]at hu;cases hu
      ·have:=(hAr.own e).2;cases this
     ·rename_i en;refine .inl ⟨hA',fun ver=>?_,rfl,fun blk' hb'' hM=>?_,fun _ _ _ hi=>hi⟩
      ·show (if n'=n then none else g.av n' ver)=_
       rw[yah en]
      ·rcases hM with rfl|hM
       ·rw[how]at hb'';cases hb'';exact en rfl
       ·rw[(hown _ hM).1]at hb'';cases hb'';exact en rfl)
    (fun n' hn'=>by
     show ∃A,b9 n' (m7 n ⟨B.k,[],Av,false,true⟩ st.ar)=some A
     rw[b8 hA];split
     ·exact ⟨_,rfl⟩
     ·exact hr.ad n' hn')
   have hfin:=hrel.put (dst:=o.dst) (d:=.str (B.to Axs)) (.data (.str ⟨(B.to Axs).toArray⟩)) hd;rw[←b2j]at hfin;exact hn _ _ _ hfin
end
end
section
section
variable {κ:Type} {El:κ→Type} {S:Sg κ El} {P:Program}
variable {c:Cx} {st:St κ El} {g:Gh} {a:Act} {w:World} {R:Type} [KdEq κ]
variable {o:Oper} {q:Bool} {call:Nat→List (D κ El)→List (List (D κ El))→(D κ El→List (List (D κ El))→Option R)→Option R} {k:St κ El→Option R} {r:R}
structure GoodP (P:Program) (S:Sg κ El):Prop where
 ok:PrOk P
 sgk:SgOk S
 eok:∀t,S.eqt t=true→EqOk P t
 mok:∀t M,S.mpk t=some M→b7s P S t M
 bok:∀B,S.bl=some B→BlSpec P S B
 yok:∀Y,S.by_=some Y→ByOk S Y
theorem c5o (G:GoodP P S) (cok:j7 P S call) (h:aop P S call q o st k=some r):l5 P S o st k r:=by
 cases ho:o.op with
 |move x=>exact b1f (.inl ho) h
 |assign x=>exact b1f (.inr ho) h
 |pick x y z=>exact b74 ho h
 |alloc e=>exact b4i G.bok ho h
 |box e x=>exact c1k ho h
 |build t ps=>exact b4k G.ok ho h
 |buildSlice t n ps=>exact a55 G.sgk ho h
 |load t x=>exact b73 G.ok G.sgk ho h
 |store t x y=>exact b4o G.sgk ho h
 |nilCheck x=>exact a7w ho h
 |binOp op t x y u=>exact b4j G.ok G.eok ho h
 |unOp op t x=>exact b75 ho h
 |convert s t x=>exact a9o G.sgk G.yok ho h
 |makeFunc fn pre caps=>exact a7v ho h
 |makeSlice t x y=>exact a61 G.sgk ho h
 |slice t x lo hi mx=>exact b4n G.sgk ho h
 |fieldAddr t x f=>exact a6z ho h
 |field t x f=>exact b4l G.ok ho h
 |indexAddr t x i=>exact a60 G.ok G.sgk ho h
 |index t x i=>exact b4m G.ok ho h
 |extract x i=>exact a9p ho h
 |makeMap t z=>exact a9q G.mok ho h
 |lookup t x i ok=>exact b2u G.mok ho h
 |mapUpdate t x i y=>exact a2o G.mok (.inl ho) h
 |insert t x i y=>exact a2o G.mok (.inr ho) h
 |call cl=>
  cases hc:cl.callee with
  |builtin b=>
   cases b with
   |len=>exact c1l ho hc h
   |min=>exact c1n ho hc h
   |max=>exact c1m ho hc h
   |append=>exact b2t G.sgk ho hc h
   |_=>unfold aop at h;simp only[ho,hc]at h;unfold l6 at h;split at h<;>first|contradiction|cases h
  |value fo=>
   unfold aop at h;simp only[ho,hc]at h;split at h
   ·rename_i f pre caps hf;cases hm:S.md f with
    |data=>exact b41 G.sgk cok ho hc hf hm h
    |fresh=>exact b20 G.sgk cok ho hc hf hm h
    | «mut»=>exact b8c G.sgk cok ho hc hf hm h
    |cons=>exact b40 G.sgk cok ho hc hf hm h
    |inpl=>exact b42 G.sgk cok ho hc hf hm h
    |newb=>exact b43 G.sgk cok ho hc hf hm h
    |nmap=>exact b44 G.sgk cok ho hc hf hm h
    |bld=>exact b8b G.bok ho hc hf hm h
   ·cases h
  |invoke x m=>unfold aop at h;simp only[ho,hc]at h;cases h
 |_=>unfold aop at h;simp only[ho]at h;cases h
end
end
section
section
variable {κ:Type} {El:κ→Type} {S:Sg κ El} {P:Program}
variable {st:St κ El} {R:Type} [KdEq κ]
variable {o:Oper} {q:Bool} {call:Nat→List (D κ El)→List (List (D κ El))→(D κ El→List (List (D κ El))→Option R)→Option R} {k:St κ El→Option R} {r:R}
structure Agr (fp:List (Nat×Nat)) (xs:List Operand) (st st₂:St κ El):Prop where
 opd:∀x∈xs,Ev.opd st x=.undef∨Ev.opd st₂ x=Ev.opd st x
 bx:∀b,(0,b)∈fp→b9 b st₂.bx=b9 b st.bx
 ar:∀n,(1,n)∈fp→b9 n st₂.ar=b9 n st.ar
structure Dlt (dst:Option Nat) (wr:List (Nat×Nat)) (st st' st₂ st₂':St κ El):Prop where
 env:∀s,dst≠some s→b9 s st'.env=b9 s st.env∧b9 s st₂'.env=b9 s st₂.env
 dst:∀s,dst=some s→b9 s st'.env=some .undef∨b9 s st₂'.env=b9 s st'.env
 bxw:∀b,(0,b)∈wr→b9 b st₂'.bx=b9 b st'.bx
 bxk:∀b,(0,b)∉wr→b9 b st'.bx=b9 b st.bx∧b9 b st₂'.bx=b9 b st₂.bx
 arw:∀n,(1,n)∈wr→b9 n st₂'.ar=b9 n st'.ar
 ark:∀n,(1,n)∉wr→b9 n st'.ar=b9 n st.ar∧b9 n st₂'.ar=b9 n st₂.ar
def f7 (call:Nat→List (D κ El)→List (List (D κ El))→(D κ El→List (List (D κ El))→Option R)→Option R):Prop:=
 ∀f ds bs k r,call f ds bs k=some r→∃d bs',k d bs'=some r∧∀k',k' d bs'=some r→call f ds bs k'=some r
def Loc (P:Program) (S:Sg κ El) (call:Nat→List (D κ El)→List (List (D κ El))→(D κ El→List (List (D κ El))→Option R)→Option R) (q:Bool) (o:Oper) (st:St κ El) (k:St κ El→Option R) (r:R):Prop:=
 ∃st',k st'=some r∧∀st₂,Agr ((d5 o st 0).rd++(d5 o st 0).wr) (looks o) st st₂→∃st₂',Dlt o.dst (d5 o st 0).wr st st' st₂ st₂'∧∀k₂,k₂ st₂'=some r→aop P S call q o st₂ k₂=some r
theorem Dlt.put {dst:Option Nat} {wr:List (Nat×Nat)} {st st1 st₂ st₂1:St κ El} {d d₂:D κ El} (hd:d=.undef∨d₂=d) (he:∀s,b9 s st1.env=b9 s st.env∧b9 s st₂1.env=b9 s st₂.env)
 (bxw:∀b,(0,b)∈wr→b9 b st₂1.bx=b9 b st1.bx) (bxk:∀b,(0,b)∉wr→b9 b st1.bx=b9 b st.bx∧b9 b st₂1.bx=b9 b st₂.bx)
 (arw:∀n,(1,n)∈wr→b9 n st₂1.ar=b9 n st1.ar) (ark:∀n,(1,n)∉wr→b9 n st1.ar=b9 n st.ar∧b9 n st₂1.ar=b9 n st₂.ar) :
 Dlt dst wr st (Ev.put st1 dst d) st₂ (Ev.put st₂1 dst d₂) where
 env:=fun s hs=>by rw[j6,j6,yah hs,yah hs];exact he s
 dst:=fun s hs=>by rw[j6,j6,yaq hs,yaq hs];exact hd.imp (fun h=>by rw[h]) (fun h=>by rw[h])
 bxw:=by rw[o6,o6];exact bxw
 bxk:=by rw[o6,o6];exact bxk
 arw:=by rw[p9,p9];exact arw
 ark:=by rw[p9,p9];exact ark
theorem Loc.val {d:D κ El} (hk:k (put st o.dst d)=some r) (hw:(d5 o st 0).wr=[])
 (H:∀st₂,Agr ((d5 o st 0).rd++(d5 o st 0).wr) (looks o) st st₂→∃d₂,(d=.undef∨d₂=d)∧∀k₂,k₂ (put st₂ o.dst d₂)=some r→aop P S call q o st₂ k₂=some r):Loc P S call q o st k r:=by
 refine ⟨_,hk,fun st₂ ha=>?_⟩;obtain ⟨d₂,hd,h⟩:=H st₂ ha;refine ⟨_,?_,h⟩;rw[hw];exact .put hd (fun s=>⟨rfl,rfl⟩) (fun b hb=>by cases hb) (fun b _=>⟨rfl,rfl⟩) (fun b hb=>by cases hb) (fun b _=>⟨rfl,rfl⟩)
theorem Agr.eq {fp:List (Nat×Nat)} {xs:List Operand} {st₂:St κ El} (h:Agr fp xs st st₂) {x:Operand} (hx:x∈xs) {d:D κ El} (hd:Ev.opd st x=d) (hn:d≠.undef):Ev.opd st₂ x=d:=by
 rcases h.opd x hx with h1|h1
 ·rw[h1]at hd;exact absurd hd.symm hn
 ·rw[h1,hd]
theorem b16 {x:Operand} (ho:o.op=.move x∨o.op=.assign x) (h:aop P S call q o st k=some r):Loc P S call q o st k r:=by
 have hl:x∈looks o:=by rcases ho with ho|ho<;>simp[looks,Op.operands,ho]
 have hw:(d5 o st 0).wr=[]:=by unfold d5;rcases ho with ho|ho<;>simp only[ho]
 unfold aop at h;rcases ho with ho|ho<;>simp only[ho]at h<;>exact .val h hw (fun st₂ ha=>⟨opd st₂ x,ha.opd x hl,fun k₂ h2=>by unfold aop;simp only[ho];exact h2⟩)
theorem b82 {x y z:Operand} (ho:o.op=.pick x y z) (h:aop P S call q o st k=some r):Loc P S call q o st k r:=by
 have hl:looks o=[x,y,z]:=by simp[looks,Op.operands,ho]
 have hw:(d5 o st 0).wr=[]:=by unfold d5;simp only[ho]
 unfold aop at h;simp only[ho]at h;split at h
 ·rename_i t ht;rw[c6]at h;split at h
  ·rename_i htt;exact .val h hw (fun st₂ ha=>⟨opd st₂ y,ha.opd y (by simp[hl]),fun k₂ h2=>by
    unfold aop;simp only[ho,ha.eq (x:=x) (by simp[hl]) ht (by simp),htt];exact h2⟩)
  ·rename_i htt;have htt:t=false:=by simpa using htt
   exact .val h hw (fun st₂ ha=>⟨opd st₂ z,ha.opd z (by simp[hl]),fun k₂ h2=>by
    unfold aop;simp only[ho,ha.eq (x:=x) (by simp[hl]) ht (by simp),htt];exact h2⟩)
 ·cases h
theorem a71 {t:Nat} {op:BinOp} {x y:D κ El} {k:D κ El→Option R}:b93 P S t op x y k=(b93 P S t op x y some).bind k:=by
 unfold b93;simp only[c6]
 repeat' split
 all_goals first|rfl|simp_all
theorem b29 {t:Nat} {x:D κ El} {k:D κ El→Option R}:a3x P S st t x k=(a3x P S st t x some).bind k:=by
 unfold a3x;simp only[c6]
 repeat' split
 all_goals simp_all
theorem a8u {i:Int} {α:Type} {f:Nat→Option α} {k:α→Option R}:∀{n j:Nat},b7w i (fun j=>(f j).bind k) n j=(b7w i f n j).bind k:=by
 intro n
 induction n with
 |zero=>intro j;rfl
 |succ n ih=>intro j;simp only[b7w,c6,ih];split<;>rfl
theorem a8w {t:Nat} {x:D κ El} {k:D κ El→Option R}:b7x P t st x k=(b7x P t st x some).bind k:=by
 unfold b7x;simp only[c6]
 repeat' split
 all_goals simp_all
theorem b21 {s t:Nat} {x:D κ El} {k:D κ El→Option R}:a92 P s t x k=(a92 P s t x some).bind k:=by
 unfold a92
 repeat' split
 all_goals simp_all
theorem b2q {t:Nat} {x i:D κ El} {k:D κ El→Option R}:a3w P S t x i st k=(a3w P S t x i st some).bind k:=by
 unfold a3w;simp only[c6]
 repeat' split
 all_goals first
  |(rw[←a8u];simp only[ya9];done)
  |simp_all
theorem b0i {t:Nat} {x i:D κ El} {k:D κ El→Option R}:a2x P t x i k=(a2x P t x i some).bind k:=by
 unfold a2x;simp only[c6]
 repeat' split
 all_goals first
  |(rw[←a8u];congr 1;funext j;cases part _ _ _ with|none=>rfl|some cs=>(simp only;cases a3g _ cs<;>rfl))
  |simp_all
theorem b6h {op:BinOp} {t u:Nat} {x y:Operand} (ho:o.op=.binOp op t x y u) (h:aop P S call q o st k=some r):Loc P S call q o st k r:=by
 have hl:looks o=[x,y]:=by simp[looks,Op.operands,ho]
 have hw:(d5 o st 0).wr=[]:=by unfold d5;simp only[ho]
 unfold aop at h;simp only[ho]at h;cases hq:c7n op y (opd st x) with
 |some r'=>
  have hx:opd st x≠.undef:=fun e=>by rw[e]at hq;unfold c7n at hq;split at hq<;>simp_all
  rw[hq]at h;simp only at h;rw[c6]at h;split at h
  rotate_left
  ·cases h
  rename_i hi;refine .val h hw (fun st₂ ha=>⟨.bool r',.inr rfl,fun k₂ h2=>?_⟩);unfold aop;simp only[ho,ha.eq (x:=x) (by simp[hl]) rfl hx,hq,hi,yai];exact h2
 |none=>
 rw[hq]at h;simp only at h;have hx:opd st x≠.undef:=fun e=>by rw[e]at h;unfold b93 at h;cases op<;>simp[eqD]at h
 have hy:opd st y≠.undef:=fun e=>by rw[e]at h;unfold b93 at h;cases op<;>cases opd st x<;>simp[eqD]at h
 rw[a71]at h;obtain ⟨d,hb,hk⟩:=yaD.1 h;refine .val hk hw (fun st₂ ha=>⟨d,.inr rfl,fun k₂ h2=>?_⟩);unfold aop;simp only[ho,ha.eq (x:=x) (by simp[hl]) rfl hx,ha.eq (x:=y) (by simp[hl]) rfl hy,hq];rw[a71,hb];exact h2
end
end
section
section
variable {κ:Type} {El:κ→Type} {S:Sg κ El} {P:Program}
variable {st:St κ El} {R:Type} [KdEq κ]
variable {o:Oper} {q:Bool} {call:Nat→List (D κ El)→List (List (D κ El))→(D κ El→List (List (D κ El))→Option R)→Option R} {k:St κ El→Option R} {r:R}
theorem a49 {x:Operand} {F:D κ El→Option (D κ El)} (hl:x∈looks o) (hw:(d5 o st 0).wr=[]) (hF:F .undef=none)
 (ha:∀(st:St κ El) (k:St κ El→Option R),aop P S call q o st k=(F (opd st x)).bind (fun d=>k (put st o.dst d))) (h:aop P S call q o st k=some r):Loc P S call q o st k r:=by
 rw[ha]at h;obtain ⟨d,hd,hk⟩:=yaD.1 h;refine .val hk hw (fun st₂ hg=>⟨d,.inr rfl,fun k₂ h2=>?_⟩);rw[ha,hg.eq hl rfl (fun e=>by rw[e,hF]at hd;cases hd),hd];exact h2
theorem a8z {x:Operand} (ho:o.op=.nilCheck x) (h:aop P S call q o st k=some r):Loc P S call q o st k r:=by
 refine a49 (x:=x) (F:=fun d=>bif b0j d then some d else none) (by simp[looks,Op.operands,ho]) (by unfold d5;simp only[ho]) rfl (fun st k=>?_) h;unfold aop;simp only[ho,c6];split<;>rfl
theorem b83 {op:UnOp} {t:Nat} {x:Operand} (ho:o.op=.unOp op t x) (h:aop P S call q o st k=some r):Loc P S call q o st k r:=by
 refine a49 (x:=x) (F:=fun d=>match op,d with | .not,.bool b=>some (.bool (!b)) | .neg,.int kd n=>some (.int kd (kd.wrap (0-n)))|_,_=>none) (by simp[looks,Op.operands,ho]) (by unfold d5;simp only[ho]) (by cases op<;>rfl) (fun st k=>?_) h;unfold aop;simp only[ho];split<;>simp_all
theorem a69 {t f:Nat} {x:Operand} (ho:o.op=.fieldAddr t x f) (h:aop P S call q o st k=some r):Loc P S call q o st k r:=by
 refine a49 (x:=x) (F:=fun d=>match b8n P t f,d with
  |some (fo,_),.ptr b off=>some (.ptr b (off+fo))
  |some (fo,_),.cptr cs off=>some (.cptr cs (off+fo))
  |some (fo,_),.aptr a v i off=>some (.aptr a v i (off+fo))
  |_,_=>none) (by simp[looks,Op.operands,ho]) (by unfold d5;simp only[ho]) (by cases b8n P t f<;>rfl) (fun st k=>?_) h
 unfold aop;simp only[ho];split<;>simp_all
theorem b6j {t f:Nat} {x:Operand} (ho:o.op=.field t x f) (h:aop P S call q o st k=some r):Loc P S call q o st k r:=by
 refine a49 (x:=x) (F:=fun d=>match b8n P t f,d with
  |some (fo,ft),.agg cs=>(match part cs fo (i6 P ft) with
   |some cs=>a3g (a2l P ft) cs
   |none=>none)
  |_,_=>none) (by simp[looks,Op.operands,ho]) (by unfold d5;simp only[ho]) (by cases b8n P t f<;>rfl) (fun st k=>?_) h
 unfold aop;simp only[ho]
 repeat' split
 all_goals simp_all
theorem b0o {x:Operand} {i:Nat} (ho:o.op=.extract x i) (h:aop P S call q o st k=some r):Loc P S call q o st k r:=by
 refine a49 (x:=x) (F:=fun d=>match d with | .tup vs=>vs[i]?|_=>none) (by simp[looks,Op.operands,ho]) (by unfold d5;simp only[ho]) rfl (fun st k=>?_) h;unfold aop;simp only[ho]
 repeat' split
 all_goals simp_all
theorem b5d {s t:Nat} {d:D κ El} {st₂:St κ El} (ha:∀n,(1,n)∈d6 d→b9 n st₂.ar=b9 n st.ar):a4s P S st₂ s t d=a4s P S st s t d:=by
 unfold a4s a0g;cases S.by_ with
 |none=>rfl
 |some Y=>
  cases d<;>try rfl
  rename_i a v;simp only[ha a (by simp[d6])]
theorem b0n {s t:Nat} {x:Operand} (ho:o.op=.convert s t x) (h:aop P S call q o st k=some r):Loc P S call q o st k r:=by
 have hl:looks o=[x]:=by simp[looks,Op.operands,ho]
 have hf:d5 o st 0=⟨0,d6 (opd st x),[]⟩:=by unfold d5;simp only[ho]
 have ha:∀(st:St κ El) (k:St κ El→Option R),aop P S call q o st k=(match a4s P S st s t (opd st x) with|some v=>some v|none=>a92 P s t (opd st x) some).bind (fun d=>k (put st o.dst d)):=fun st k=>by
  unfold aop;simp only[ho];cases a4s P S st s t (opd st x) with
  |some v=>rfl
  |none=>simp only;rw[b21]
 rw[ha]at h;obtain ⟨d,hd,hk⟩:=yaD.1 h;have hx:opd st x≠.undef:=fun e=>by
  rw[e]at hd;have h1:a4s P S st s t (.undef:D κ El)=none:=by
   unfold a4s a0g;cases S.by_ with
   |none=>rfl
   |some Y=>simp only[c6];split<;>rfl
  rw[h1]at hd;simp only[a92]at hd;split at hd<;>simp_all
 refine .val hk (by rw[hf]) (fun st₂ hg=>⟨d,.inr rfl,fun k₂ h2=>?_⟩);have har:=hg.ar;rw[hf]at har;rw[ha,hg.eq (x:=x) (by simp[hl]) rfl hx,b5d (st:=st) (fun n hm=>har n (by simpa using hm)),hd];exact h2
theorem b6l {t:Nat} {x i:Operand} (ho:o.op=.index t x i) (h:aop P S call q o st k=some r):Loc P S call q o st k r:=by
 have hl:looks o=[x,i]:=by simp[looks,Op.operands,ho]
 have hw:(d5 o st 0).wr=[]:=by unfold d5;simp only[ho]
 have ha:∀(st:St κ El) (k:St κ El→Option R),aop P S call q o st k=(a2x P t (opd st x) (opd st i) some).bind (fun d=>k (put st o.dst d)):=fun st k=>by unfold aop;simp only[ho];rw[b0i]
 rw[ha]at h;obtain ⟨d,hd,hk⟩:=yaD.1 h;have hx:opd st x≠.undef:=fun e=>by rw[e]at hd;unfold a2x at hd;split at hd<;>cases hd
 have hi:opd st i≠.undef:=fun e=>by rw[e]at hd;unfold a2x at hd;cases hd
 refine .val hk hw (fun st₂ hg=>⟨d,.inr rfl,fun k₂ h2=>?_⟩);rw[ha,hg.eq (x:=x) (by simp[hl]) rfl hx,hg.eq (x:=i) (by simp[hl]) rfl hi,hd];exact h2
theorem b6f {t:Nat} {d:D κ El} {st₂:St κ El} (hb:∀b,(0,b)∈d6 d→b9 b st₂.bx=b9 b st.bx) (ha:∀n,(1,n)∈d6 d→b9 n st₂.ar=b9 n st.ar) (k:D κ El→Option R):a3x P S st₂ t d k=a3x P S st t d k:=by
 unfold a3x;cases d<;>try rfl
 ·rename_i b off;simp only[hb b (by simp[d6])]
 ·rename_i a v i off;simp only[ha a (by simp[d6])]
theorem b8z {t:Nat} {x:Operand} (ho:o.op=.load t x) (h:aop P S call q o st k=some r):Loc P S call q o st k r:=by
 have hl:looks o=[x]:=by simp[looks,Op.operands,ho]
 have hf:d5 o st 0=⟨0,d6 (opd st x),[]⟩:=by unfold d5;simp only[ho]
 have ha:∀(st:St κ El) (k:St κ El→Option R),aop P S call q o st k=(a3x P S st t (opd st x) some).bind (fun d=>k (put st o.dst d)):=fun st k=>by unfold aop;simp only[ho];rw[b29]
 rw[ha]at h;obtain ⟨d,hd,hk⟩:=yaD.1 h;have hx:opd st x≠.undef:=fun e=>by rw[e]at hd;unfold a3x at hd;cases hd
 refine .val hk (by rw[hf]) (fun st₂ hg=>⟨d,.inr rfl,fun k₂ h2=>?_⟩);have hb:=hg.bx;have har:=hg.ar;rw[hf]at hb har;rw[ha,hg.eq (x:=x) (by simp[hl]) rfl hx,b6f (st:=st) (fun b hm=>hb b (by simpa using hm)) (fun n hm=>har n (by simpa using hm)),hd];exact h2
theorem b4f {t:Nat} {d i:D κ El} {st₂:St κ El} (ha:∀n,(1,n)∈d6 d→b9 n st₂.ar=b9 n st.ar) (k:D κ El→Option R):a3w P S t d i st₂ k=a3w P S t d i st k:=by
 unfold a3w;cases i<;>try rfl
 cases d<;>try rfl
 rename_i a v;simp only[ha a (by simp[d6])]
theorem a7a {t:Nat} {x i:Operand} (ho:o.op=.indexAddr t x i) (h:aop P S call q o st k=some r):Loc P S call q o st k r:=by
 have hl:looks o=[x,i]:=by simp[looks,Op.operands,ho]
 have hf:d5 o st 0=⟨0,d6 (opd st x),[]⟩:=by unfold d5;simp only[ho]
 have ha:∀(st:St κ El) (k:St κ El→Option R),aop P S call q o st k=(a3w P S t (opd st x) (opd st i) st some).bind (fun d=>k (put st o.dst d)):=fun st k=>by unfold aop;simp only[ho];rw[b2q]
 rw[ha]at h;obtain ⟨d,hd,hk⟩:=yaD.1 h;have hx:opd st x≠.undef:=fun e=>by rw[e]at hd;unfold a3w at hd;split at hd<;>cases hd
 have hi:opd st i≠.undef:=fun e=>by rw[e]at hd;unfold a3w at hd;cases hd
 refine .val hk (by rw[hf]) (fun st₂ hg=>⟨d,.inr rfl,fun k₂ h2=>?_⟩);have har:=hg.ar;rw[hf]at har;rw[ha,hg.eq (x:=x) (by simp[hl]) rfl hx,hg.eq (x:=i) (by simp[hl]) rfl hi,b4f (st:=st) (fun n hm=>har n (by simpa using hm)),hd];exact h2
theorem Agr.opds {fp:List (Nat×Nat)} {xs:List Operand} {st₂:St κ El} (h:Agr fp xs st st₂):∀{l:List Operand},(∀x∈l,x∈xs)→o9 (l.map (Ev.opd st))=true→l.map (Ev.opd st₂)=l.map (Ev.opd st):=by
 intro l
 induction l with
 |nil=>intros;rfl
 |cons x l ih=>
  intro hl hs;simp only[yaP,o9,ybc,yab]at hs ⊢;rw[h.eq (hl x (by simp)) rfl (fun e=>by rw[e]at hs;simp[solid]at hs),ih (fun y hy=>hl y (by simp[hy])) hs.2]
theorem a8y {fn:Fn} {pre caps:Array Operand} (ho:o.op=.makeFunc fn pre caps) (h:aop P S call q o st k=some r):Loc P S call q o st k r:=by
 have hl:looks o=pre.toList++caps.toList:=by simp[looks,Op.operands,ho]
 have hw:(d5 o st 0).wr=[]:=by unfold d5;simp only[ho]
 unfold aop at h;simp only[ho]at h;split at h
 ·rw[c6]at h;split at h
  ·rename_i hs;rw[yab]at hs;refine .val h hw (fun st₂ hg=>⟨_,.inr rfl,fun k₂ h2=>?_⟩);unfold aop;simp only[ho,hg.opds (l:=pre.toList) (fun x hx=>by simp[hl]at hx ⊢;exact .inl hx) hs.1,hg.opds (l:=caps.toList) (fun x hx=>by simp[hl]at hx ⊢;exact .inr hx) hs.2,hs.1,hs.2,ybe,yai];exact h2
  ·cases h
 ·cases h
theorem x6 {d:D κ El} (h:o9 (m0 d)=true):d≠.undef:=fun e=>by rw[e]at h;simp[m0,o9,solid]at h
theorem b2x {t:Nat} {fp:List (Nat×Nat)} {xs:List Operand} {st₂:St κ El} (hg:Agr fp xs st st₂):∀{ps:List (Nat×Operand)} {cs cs':List (D κ El)},(∀p∈ps,p.2∈xs)→a4i P t st cs ps=some cs'→a4i P t st₂ cs ps=some cs':=by
 intro ps
 induction ps with
 |nil=>intro cs cs' _ h;exact h
 |cons p ps ih=>
  obtain ⟨i,x⟩:=p;intro cs cs' hl h;simp only[a4i]at h ⊢;split at h
  ·rename_i off ft ho;rw[c6]at h;split at h
   ·rename_i hc;have hc':=hc;rw[yab]at hc';have e:opd st₂ x=opd st x:=hg.eq (hl (i,x) (by simp)) rfl (x6 hc'.2);rw[e,hc,yai];split at h
    ·rename_i cs1 hs;exact ih (fun p hp=>hl p (by simp[hp])) h
    ·cases h
   ·cases h
  ·cases h
theorem b2w {sz:Nat} {fp:List (Nat×Nat)} {xs:List Operand} {st₂:St κ El} (hg:Agr fp xs st st₂):∀{ps:List (Nat×Operand)} {cs cs':List (D κ El)},(∀p∈ps,p.2∈xs)→a4h sz st cs ps=some cs'→a4h sz st₂ cs ps=some cs':=by
 intro ps
 induction ps with
 |nil=>intro cs cs' _ h;exact h
 |cons p ps ih=>
  obtain ⟨i,x⟩:=p;intro cs cs' hl h;simp only[a4h]at h ⊢;rw[c6]at h;split at h
  ·rename_i hc;have hc':=hc;rw[yab]at hc';have e:opd st₂ x=opd st x:=hg.eq (hl (i,x) (by simp)) rfl (x6 hc'.2);rw[e,hc,yai];split at h
   ·rename_i cs1 hs;exact ih (fun p hp=>hl p (by simp[hp])) h
   ·cases h
  ·cases h
theorem b6i {t:Nat} {ps:Array (Nat×Operand)} (ho:o.op=.build t ps) (h:aop P S call q o st k=some r):Loc P S call q o st k r:=by
 have hl:looks o=ps.toList.map (·.2):=by simp[looks,Op.operands,ho]
 have hw:(d5 o st 0).wr=[]:=by unfold d5;simp only[ho]
 have hmem:∀p∈ps.toList,p.2∈looks o:=fun p hp=>by rw[hl];exact ya1.2 ⟨p,hp,rfl⟩
 unfold aop at h;simp only[ho]at h;split at h
 ·rename_i z hz;split at h
  ·rename_i n e he;split at h
   ·rename_i cs hb;refine .val h hw (fun st₂ hg=>⟨_,.inr rfl,fun k₂ h2=>?_⟩);unfold aop;simp only[ho,hz,he,b2w hg hmem hb];exact h2
   ·cases h
  ·rename_i he;rw[c6]at h;split at h
   ·rename_i ht;split at h
    ·rename_i cs hb;refine .val h hw (fun st₂ hg=>⟨_,.inr rfl,fun k₂ h2=>?_⟩);unfold aop;simp only[ho,hz,he,ht,yai,b2x hg hmem hb];exact h2
    ·cases h
   ·cases h
 ·cases h
end
end
section
section
variable {κ:Type} {El:κ→Type} {S:Sg κ El} {P:Program}
variable {st:St κ El} {R:Type} [KdEq κ]
structure AG (fp:List (Nat×Nat)) (st st₂:St κ El):Prop where
 bx:∀b,(0,b)∈fp→b9 b st₂.bx=b9 b st.bx
 ar:∀n,(1,n)∈fp→b9 n st₂.ar=b9 n st.ar
structure DD (fp:List (Nat×Nat)) (st st1 st₂ st₂1:St κ El):Prop where
 env:st1.env=st.env∧st₂1.env=st₂.env
 bx:st1.bx=st.bx∧st₂1.bx=st₂.bx
 ark:∀n,(1,n)∉fp→b9 n st1.ar=b9 n st.ar∧b9 n st₂1.ar=b9 n st₂.ar
 ag:AG fp st1 st₂1
theorem DD.refl {fp:List (Nat×Nat)} {st st₂:St κ El} (h:AG fp st st₂):DD fp st st st₂ st₂:=⟨⟨rfl,rfl⟩,⟨rfl,rfl⟩,fun _ _=>⟨rfl,rfl⟩,h⟩
theorem DD.trans {fp:List (Nat×Nat)} {st st1 st2 st₂ st₂1 st₂2:St κ El} (h:DD fp st st1 st₂ st₂1) (h':DD fp st1 st2 st₂1 st₂2):DD fp st st2 st₂ st₂2:=
 ⟨⟨h'.env.1.trans h.env.1,h'.env.2.trans h.env.2⟩,⟨h'.bx.1.trans h.bx.1,h'.bx.2.trans h.bx.2⟩,fun n hn=>⟨(h'.ark n hn).1.trans (h.ark n hn).1,(h'.ark n hn).2.trans (h.ark n hn).2⟩,h'.ag⟩
theorem a2f {fp:List (Nat×Nat)} {st st1 st₂:St κ El} {d d':D κ El} (h:k5 st d=some (st1,d')) (ha:AG fp st st₂) (hf:∀p∈d6 d,p∈fp):∃st₂1,k5 st₂ d=some (st₂1,d')∧DD fp st st1 st₂ st₂1:=by
 unfold k5 at h;split at h
 case h_7=>
  rename_i a v;split at h
  ·rename_i A hA;rw[c6]at h;split at h
   ·rename_i hok;cases h
    have hA₂:b9 a st₂.ar=some A:=(ha.ar a (hf _ (by simp[d6]))).trans hA;refine ⟨{st₂ with ar:=m7 a {A with sealed:=true} st₂.ar},by simp[k5,hA₂,hok],⟨rfl,rfl⟩,⟨rfl,rfl⟩,fun n hn=>?_,ha.bx,fun n hn=>?_⟩
    ·have hne:¬n=a:=fun e=>hn (by rw[e];exact hf _ (by simp[d6]))
     rw[b8 hA,b8 hA₂,yah hne,yah hne];exact ⟨rfl,rfl⟩
    ·rw[b8 hA,b8 hA₂];split
     ·rfl
     ·exact ha.ar n hn
   ·cases h
  ·cases h
 case h_8=>cases h
 all_goals (cases h;exact ⟨st₂,rfl,.refl ha⟩)
theorem x7 {fp:List (Nat×Nat)}:∀{cs cs':List (D κ El)} {st st1 st₂:St κ El},g6 st cs=some (st1,cs')→AG fp st st₂→(∀d∈cs,∀p∈d6 d,p∈fp)→∃st₂1,g6 st₂ cs=some (st₂1,cs')∧DD fp st st1 st₂ st₂1:=by
 intro cs
 induction cs with
 |nil=>intro cs' st st1 st₂ h ha hf;cases h;exact ⟨st₂,rfl,.refl ha⟩
 |cons d cs ih=>
  intro cs' st st1 st₂ h ha hf;simp only[g6]at h ⊢;split at h
  ·rename_i s1 d1 h1;split at h
   ·rename_i s2 cs2 h2;cases h
    obtain ⟨t1,e1,D1⟩:=a2f h1 ha (hf d (by simp));obtain ⟨t2,e2,D2⟩:=ih h2 D1.ag (fun d' hd'=>hf d' (by simp[hd']));exact ⟨t2,by simp only[e1,e2],D1.trans D2⟩
   ·cases h
  ·cases h
def z7 (st:St κ El) (fp:List (Nat×Nat)) (d:D κ El):Prop:=
 (∀p∈a02 d,p∈fp)∧∀b,(0,b)∈a02 d→∀cs,b9 b st.bx=some cs→∀c∈cs,∀p∈d6 c,p∈fp
theorem z7.bx {st st1:St κ El} {fp:List (Nat×Nat)} {d:D κ El} (e:st1.bx=st.bx) (h:z7 st fp d):z7 st1 fp d:=⟨h.1,fun b hb cs hcs=>h.2 b hb cs (by rw[←e];exact hcs)⟩
theorem a6k {fp:List (Nat×Nat)} {st st1 st₂:St κ El} {d d':D κ El} (h:a1n st d=some (st1,d')) (ha:AG fp st st₂) (hf:z7 st fp d):∃st₂1,a1n st₂ d=some (st₂1,d')∧DD fp st st1 st₂ st₂1:=by
 unfold a1n at h;split at h
 ·rename_i cs;split at h
  ·rename_i s1 cs1 h1;cases h
   obtain ⟨t1,e1,D1⟩:=x7 h1 ha (fun d hd p hp=>hf.1 p (by simp only[a02,yaK];exact ⟨d,hd,hp⟩));exact ⟨t1,by simp only[a1n,e1],D1⟩
  ·cases h
 ·cases h;exact ⟨st₂,rfl,.refl ha⟩
 ·rename_i b off;split at h
  ·rename_i cs hb;split at h
   ·rename_i s1 cs1 h1;cases h
    have hm:(0,b)∈a02 (.ptr b off:D κ El):=by simp[a02,d6]
    obtain ⟨t1,e1,D1⟩:=x7 h1 ha (fun d hd p hp=>hf.2 b hm cs hb d hd p hp);exact ⟨t1,by simp only[a1n,(ha.bx b (hf.1 _ hm)).trans hb,e1],D1⟩
   ·cases h
  ·cases h
 ·rename_i v h1 h2 h3;obtain ⟨t1,e1,D1⟩:=a2f h ha (fun p hp=>hf.1 p (by
   cases d<;>simp[d6]at hp<;>simp[a02,d6,hp]))
  refine ⟨t1,?_,D1⟩;rw[←e1];cases d<;>first|rfl|exact absurd rfl (h1 _)|exact absurd rfl (h2 _ _)|exact absurd rfl (h3 _ _)
theorem a4v {fp:List (Nat×Nat)}:∀{cs cs':List (D κ El)} {st st1 st₂:St κ El},a0w st cs=some (st1,cs')→AG fp st st₂→(∀d∈cs,z7 st fp d)→∃st₂1,a0w st₂ cs=some (st₂1,cs')∧DD fp st st1 st₂ st₂1:=by
 intro cs
 induction cs with
 |nil=>intro cs' st st1 st₂ h ha hf;cases h;exact ⟨st₂,rfl,.refl ha⟩
 |cons d cs ih=>
  intro cs' st st1 st₂ h ha hf;simp only[a0w]at h ⊢;split at h
  ·rename_i s1 d1 h1;split at h
   ·rename_i s2 cs2 h2;cases h
    obtain ⟨t1,e1,D1⟩:=a6k h1 ha (hf d (by simp));obtain ⟨t2,e2,D2⟩:=ih h2 D1.ag (fun d' hd'=>(hf d' (by simp[hd'])).bx D1.bx.1);exact ⟨t2,by simp only[e1,e2],D1.trans D2⟩
   ·cases h
  ·cases h
def n5 (st:St κ El) (fp:List (Nat×Nat)) (d:D κ El):Prop:=
 match d with
 |.fn _ pre caps=>∀d∈pre++caps,z7 st fp d
 |d=>z7 st fp d
theorem z7.sub {fp:List (Nat×Nat)} {d e:D κ El} (h:∀p∈w4 st d,p∈fp) (he:∀p∈a02 e,p∈a14 d):z7 st fp e:=by
 refine ⟨fun p hp=>h p (by simp only[w4,yaK];exact ⟨p,he p hp,by simp⟩),fun b hb cs hcs c hc p hp=>h p ?_⟩;simp only[w4,yaK];refine ⟨(0,b),he _ hb,?_⟩;simp only[a2h,decide_true,yai,hcs,yau,yaK];exact .inr ⟨c,hc,hp⟩
theorem n5.sub {fp:List (Nat×Nat)} {d e:D κ El} (h:∀p∈w4 st d,p∈fp) (he:∀p∈b5u e,p∈a14 d):n5 st fp e:=by
 cases e with
 |fn f pre caps=>
  intro x hx;refine z7.sub h (fun p hp=>he p ?_);simp only[b5u,yaA,yaK];rcases yaA.1 hx with h1|h1
  ·exact .inl ⟨x,h1,hp⟩
  ·exact .inr ⟨x,h1,hp⟩
 |_=>exact z7.sub h (fun p hp=>he p hp)
theorem n5.elem {fp:List (Nat×Nat)} {f:Nat} {pre caps:List (D κ El)} (h:∀p∈w4 st (.fn f pre caps),p∈fp) {e:D κ El} (he:e∈pre++caps):n5 st fp e:=by
 refine n5.sub h (fun p hp=>?_);simp only[a14,yaA,yaK];rcases yaA.1 he with h1|h1
 ·exact .inl ⟨e,h1,hp⟩
 ·exact .inr ⟨e,h1,hp⟩
theorem b5t {e:D κ El}:∀p∈a02 e,p∈b5u e:=by
 intro p hp;cases e with
 |fn f pre caps=>simp[a02,d6]at hp
 |_=>exact hp
theorem n5.of {fp:List (Nat×Nat)} {d:D κ El} (h:∀p∈w4 st d,p∈fp):n5 st fp d:=by
 cases d with
 |fn f pre caps=>
  intro e he;refine z7.sub h (fun p hp=>?_);simp only[a14,yaA,yaK];rcases yaA.1 he with h1|h1
  ·exact .inl ⟨e,h1,b5t p hp⟩
  ·exact .inr ⟨e,h1,b5t p hp⟩
 |_=>exact z7.sub h (fun p hp=>hp)
theorem n5.bx {st st1:St κ El} {fp:List (Nat×Nat)} {d:D κ El} (e:st1.bx=st.bx) (h:n5 st fp d):n5 st1 fp d:=by
 cases d with
 |fn f pre caps=>intro d hd;exact (h d hd).bx e
 |_=>exact z7.bx e h
theorem a6h {fp:List (Nat×Nat)} {st st1 st₂:St κ El} {d d':D κ El} (h:a00 st d=some (st1,d')) (ha:AG fp st st₂) (hf:n5 st fp d):∃st₂1,a00 st₂ d=some (st₂1,d')∧DD fp st st1 st₂ st₂1:=by
 unfold a00 at h;split at h
 ·rename_i f pre caps;split at h
  ·rename_i s1 p1 h1;split at h
   ·rename_i s2 c2 h2;cases h
    obtain ⟨t1,e1,D1⟩:=a4v h1 ha (fun d hd=>hf d (by simp[hd]));obtain ⟨t2,e2,D2⟩:=a4v h2 D1.ag (fun d hd=>(hf d (by simp[hd])).bx D1.bx.1);exact ⟨t2,by simp only[a00,e1,e2],D1.trans D2⟩
   ·cases h
  ·cases h
 ·rename_i hne;have hf':z7 st fp d:=by
   cases d with
   |fn f p c=>exact absurd rfl (hne f p c)
   |_=>exact hf
  obtain ⟨t1,e1,D1⟩:=a6k h ha hf';refine ⟨t1,?_,D1⟩;rw[←e1];cases d<;>first|rfl|exact absurd rfl (hne _ _ _)
theorem m9 {fp:List (Nat×Nat)}:∀{cs cs':List (D κ El)} {st st1 st₂:St κ El},m6 st cs=some (st1,cs')→AG fp st st₂→(∀d∈cs,n5 st fp d)→∃st₂1,m6 st₂ cs=some (st₂1,cs')∧DD fp st st1 st₂ st₂1:=by
 intro cs
 induction cs with
 |nil=>intro cs' st st1 st₂ h ha hf;cases h;exact ⟨st₂,rfl,.refl ha⟩
 |cons d cs ih=>
  intro cs' st st1 st₂ h ha hf;simp only[m6]at h ⊢;split at h
  ·rename_i s1 d1 h1;split at h
   ·rename_i s2 cs2 h2;cases h
    obtain ⟨t1,e1,D1⟩:=a6h h1 ha (hf d (by simp));obtain ⟨t2,e2,D2⟩:=ih h2 D1.ag (fun d' hd'=>(hf d' (by simp[hd'])).bx D1.bx.1);exact ⟨t2,by simp only[e1,e2],D1.trans D2⟩
   ·cases h
  ·cases h
theorem b0r {fp:List (Nat×Nat)}:∀{cs cs':List (D κ El)} {j:Nat} {ns:List Nat} {bss:List (List (D κ El))} {st st1 st₂:St κ El},n7 st j cs=some (st1,cs',ns,bss)→AG fp st st₂→(∀d∈cs,n5 st fp d)→
 (∃st₂1,n7 st₂ j cs=some (st₂1,cs',ns,bss)∧DD fp st st1 st₂ st₂1)∧∀n∈ns,(0,n)∈fp:=by
 intro cs
 induction cs with
 |nil=>intro cs' j ns bss st st1 st₂ h ha hf;simp only[n7,yaf,ybb]at h;obtain ⟨rfl,rfl,rfl,rfl⟩:=h;exact ⟨⟨st₂,rfl,.refl ha⟩,fun n hn=>by cases hn⟩
 |cons d cs ih=>
  intro cs' j ns bss st st1 st₂ h ha hf;unfold n7 at h;split at h
  ·rename_i heq;cases heq
  ·rename_i b off cs0 heq;obtain ⟨rfl,rfl⟩:=ybq heq;split at h
   ·rename_i bs hb;split at h
    ·rename_i s1 bs1 h1;split at h
     ·rename_i s2 cs2 ns2 bss2 h2;rw[c6]at h;split at h
      ·rename_i hnot;simp only[yaf,ybb]at h;obtain ⟨rfl,rfl,rfl,rfl⟩:=h;have hd:z7 st fp (.ptr b off):=hf (.ptr b off) (List.mem_cons_self ..);have hm:(0,b)∈a02 (.ptr b off:D κ El):=by simp[a02,d6]
       obtain ⟨t1,e1,D1⟩:=x7 h1 ha (fun d hd' p hp=>hd.2 b hm bs hb d hd' p hp);obtain ⟨⟨t2,e2,D2⟩,h3⟩:=ih h2 D1.ag (fun d' hd'=>(hf d' (by simp[hd'])).bx D1.bx.1);refine ⟨⟨t2,?_,D1.trans D2⟩,fun n hn=>?_⟩
       ·unfold n7;simp only[(ha.bx b (hd.1 _ hm)).trans hb,e1,e2,hnot,yai]
       ·rcases yau.1 hn with rfl|hn
        ·exact hd.1 _ hm
        ·exact h3 n hn
      ·cases h
     ·cases h
    ·cases h
   ·cases h
  ·rename_i d0 cs0 hne heq;obtain ⟨rfl,rfl⟩:=ybq heq;split at h
   ·rename_i s1 d1 h1;split at h
    ·rename_i s2 cs2 ns2 bss2 h2;simp only[yaf,ybb]at h;obtain ⟨rfl,rfl,rfl,rfl⟩:=h;obtain ⟨t1,e1,D1⟩:=a6h h1 ha (hf d (by simp));obtain ⟨⟨t2,e2,D2⟩,h3⟩:=ih h2 D1.ag (fun d' hd'=>(hf d' (by simp[hd'])).bx D1.bx.1);refine ⟨⟨t2,?_,D1.trans D2⟩,h3⟩;rw[n7]
     ·simp only[e1,e2]
     ·exact hne
    ·cases h
   ·cases h
end
end
section
section
variable {κ:Type} {El:κ→Type} {S:Sg κ El} {P:Program}
variable {st:St κ El} {R:Type} [KdEq κ]
variable {o:Oper} {q:Bool} {call:Nat→List (D κ El)→List (List (D κ El))→(D κ El→List (List (D κ El))→Option R)→Option R} {k:St κ El→Option R} {r:R}
theorem a0b {cl:Call} {b:Builtin} (ho:o.op=.call cl) (hc:cl.callee=.builtin b):looks o=cl.args.toList:=by
 simp[looks,Op.operands,Call.operands,ho,hc]
theorem b0q {cl:Call} {fo:Operand} (ho:o.op=.call cl) (hc:cl.callee=.value fo):looks o=fo::cl.args.toList:=by
 simp[looks,Op.operands,Call.operands,ho,hc]
theorem b8t {t:Nat} {d:D κ El} {st₂:St κ El} (ha:∀n,(1,n)∈d6 d→b9 n st₂.ar=b9 n st.ar) (k:D κ El→Option R):b7x P t st₂ d k=b7x P t st d k:=by
 unfold b7x;cases d<;>try rfl
 rename_i a v;simp only[ha a (by simp[d6])]
theorem c3q {cl:Call} (ho:o.op=.call cl) (hc:cl.callee=.builtin .len) (h:aop P S call q o st k=some r):Loc P S call q o st k r:=by
 have hl:=a0b ho hc;have hf:d5 o st 0=⟨0,cl.args.toList.flatMap (fun x=>d6 (opd st x)),[]⟩:=by unfold d5;simp only[ho,hc]
 have h0:=h;unfold aop at h;simp only[ho,hc]at h;unfold l6 at h;split at h<;>try contradiction
 rename_i t l x _ hty hargs;obtain ⟨x',hx',rfl⟩:∃x',cl.args.toList=[x']∧opd st x'=x:=by
  obtain ⟨y,ys,e1,e2,e3⟩:=a2q hargs;have:ys=[]:=by simpa using e3
  exact ⟨y,by rw[e1,this],e2⟩
 rw[a8w]at h;obtain ⟨d,hd,hk⟩:=yaD.1 h;have hx:opd st x'≠.undef:=fun e=>by rw[e]at hd;simp only[b7x]at hd;split at hd<;>cases hd
 refine .val hk (by rw[hf]) (fun st₂ hg=>⟨d,.inr rfl,fun k₂ h2=>?_⟩);have har:=hg.ar;rw[hf]at har;have e:=hg.eq (x:=x') (by rw[hl,hx'];simp) rfl hx;unfold aop;simp only[ho,hc];rw[hx',hty];simp only[yaP,List.map_nil,l6,e];rw[a8w,b8t (st:=st) (fun n hm=>har n (by simp[hx'];exact hm)),hd];exact h2
theorem b3e:∀{l:List (D κ El)} {x d:D κ El},c0s x l=some d→o9 (x::l)=true:=by
 intro l
 induction l with
 |nil=>intro x d h;cases x<;>simp[c0s]at h;simp[o9,solid]
 |cons y l ih=>
  intro x d h;cases x<;>cases y<;>simp only[c0s,reduceCtorEq]at h
  rw[c6]at h;split at h
  ·have:=ih h;simp[o9,solid]at this ⊢;exact this
  ·cases h
theorem b3d:∀{l:List (D κ El)} {x d:D κ El},c0r x l=some d→o9 (x::l)=true:=by
 intro l
 induction l with
 |nil=>intro x d h;cases x<;>simp[c0r]at h;simp[o9,solid]
 |cons y l ih=>
  intro x d h;cases x<;>cases y<;>simp only[c0r,reduceCtorEq]at h
  rw[c6]at h;split at h
  ·have:=ih h;simp[o9,solid]at this ⊢;exact this
  ·cases h
theorem c3s {cl:Call} (ho:o.op=.call cl) (hc:cl.callee=.builtin .min) (h:aop P S call q o st k=some r):Loc P S call q o st k r:=by
 have hl:=a0b ho hc;have hw:(d5 o st 0).wr=[]:=by unfold d5;simp only[ho,hc]
 unfold aop at h;simp only[ho,hc]at h;unfold l6 at h;split at h<;>try contradiction
 rename_i tys x l _ hargs;split at h
 ·rename_i d hd;refine .val h hw (fun st₂ hg=>⟨d,.inr rfl,fun k₂ h2=>?_⟩);have e:=hg.opds (l:=cl.args.toList) (fun x hx=>by rw[hl];exact hx) (by rw[hargs];exact b3e hd);unfold aop;simp only[ho,hc,e,hargs,l6,hd];exact h2
 ·cases h
theorem c3r {cl:Call} (ho:o.op=.call cl) (hc:cl.callee=.builtin .max) (h:aop P S call q o st k=some r):Loc P S call q o st k r:=by
 have hl:=a0b ho hc;have hw:(d5 o st 0).wr=[]:=by unfold d5;simp only[ho,hc]
 unfold aop at h;simp only[ho,hc]at h;unfold l6 at h;split at h<;>try contradiction
 rename_i tys x l _ hargs;split at h
 ·rename_i d hd;refine .val h hw (fun st₂ hg=>⟨d,.inr rfl,fun k₂ h2=>?_⟩);have e:=hg.opds (l:=cl.args.toList) (fun x hx=>by rw[hl];exact hx) (by rw[hargs];exact b3d hd);unfold aop;simp only[ho,hc,e,hargs,l6,hd];exact h2
 ·cases h
theorem Agr.ag {fp:List (Nat×Nat)} {xs:List Operand} {st₂:St κ El} (h:Agr fp xs st st₂) {fp':List (Nat×Nat)} (hs:∀p∈fp',p∈fp):AG fp' st st₂:=⟨fun b hb=>h.bx b (hs _ hb),fun n hn=>h.ar n (hs _ hn)⟩
theorem b6g {e:Nat} (ho:o.op=.alloc e) (h:aop P S call q o st k=some r):Loc P S call q o st k r:=by
 unfold aop at h;simp only[ho]at h;cases hb:c5u S e with
 |some B=>
  rw[hb]at h;simp only at h;split at h
  rotate_left
  ·cases h
  rename_i d hdst;have hf:d5 o st 0=⟨0,[],[(0,d),(1,d)]⟩:=by unfold d5;simp only[ho,hdst]
  rw[c6]at h;split at h
  rotate_left
  ·cases h
  rename_i hc;refine ⟨_,h,fun st₂ hg=>⟨{Ev.put st₂ o.dst (.arr d 0) with ar:=(d,⟨B.k,[],0,true,true⟩)::st₂.ar},?_,fun k₂ h2=>?_⟩⟩
  ·rw[hf];refine ⟨fun s hs=>?_,fun s hs=>.inr ?_,fun b hb=>?_,fun b hb=>?_,fun n hn=>?_,fun n hn=>?_⟩
   ·show b9 s (Ev.put st o.dst (.arr d 0)).env=_∧b9 s (Ev.put st₂ o.dst (.arr d 0)).env=_
    rw[j6,j6,yah hs,yah hs];exact ⟨rfl,rfl⟩
   ·show b9 s (Ev.put st₂ o.dst (.arr d 0)).env=b9 s (Ev.put st o.dst (.arr d 0)).env
    rw[j6,j6,yaq hs,yaq hs]
   ·show b9 b (Ev.put st₂ o.dst _).bx=b9 b (Ev.put st o.dst _).bx
    rw[o6,o6];exact hg.bx b (by rw[hf];simpa using hb)
   ·show b9 b (Ev.put st o.dst _).bx=_∧b9 b (Ev.put st₂ o.dst _).bx=_
    rw[o6,o6];exact ⟨rfl,rfl⟩
   ·show b9 n ((d,_)::st₂.ar)=b9 n ((d,_)::st.ar)
    rw[c7,c7];split
    ·rfl
    ·exact hg.ar n (by rw[hf];simpa using hn)
   ·have hne:¬n=d:=fun e=>hn (by simp[e])
    show b9 n ((d,_)::st.ar)=_∧b9 n ((d,_)::st₂.ar)=_
    rw[c7,c7,yah hne,yah hne];exact ⟨rfl,rfl⟩
  ·have hfr₂:b9 d st₂.ar=b9 d st.ar:=hg.ar d (by rw[hf];simp);unfold aop;simp only[ho,hdst,hb,hfr₂,hc,yai];rw[hdst]at h2;exact h2
 |none=>
 rw[hb]at h;simp only at h;split at h
 ·rename_i d cs hdst hz;have hf:d5 o st 0=⟨0,[],[(0,d),(1,d)]⟩:=by unfold d5;simp only[ho,hdst]
  rw[c6]at h;split at h
  ·rename_i hfr;refine ⟨_,h,fun st₂ hg=>⟨{Ev.put st₂ o.dst (.ptr d 0) with bx:=(d,cs)::st₂.bx},?_,fun k₂ h2=>?_⟩⟩
   ·have hga:∀n,(1,n)∈(d5 o st 0).wr→b9 n st₂.ar=b9 n st.ar:=fun n hn=>hg.ar n (yao _ hn)
    have hgb:∀n,(0,n)∈(d5 o st 0).wr→b9 n st₂.bx=b9 n st.bx:=fun n hn=>hg.bx n (yao _ hn)
    rw[hf]at hga hgb ⊢;refine ⟨fun s hs=>?_,fun s hs=>.inr ?_,fun b hb=>?_,fun b hb=>?_,fun n hn=>?_,fun n hn=>?_⟩
    ·show b9 s (Ev.put st o.dst (.ptr d 0)).env=_∧b9 s (Ev.put st₂ o.dst (.ptr d 0)).env=_
     rw[j6,j6,yah hs,yah hs];exact ⟨rfl,rfl⟩
    ·show b9 s (Ev.put st₂ o.dst (.ptr d 0)).env=b9 s (Ev.put st o.dst (.ptr d 0)).env
     rw[j6,j6,yaq hs,yaq hs]
    ·show b9 b ((d,cs)::st₂.bx)=b9 b ((d,cs)::st.bx)
     rw[c7,c7];split
     ·rfl
     ·exact hgb b hb
    ·have hne:¬b=d:=fun e=>hb (by simp[e])
     show b9 b ((d,cs)::st.bx)=_∧b9 b ((d,cs)::st₂.bx)=_
     rw[c7,c7,yah hne,yah hne];exact ⟨rfl,rfl⟩
    ·show b9 n (Ev.put st₂ o.dst _).ar=b9 n (Ev.put st o.dst _).ar
     rw[p9,p9];exact hga n hn
    ·show b9 n (Ev.put st o.dst _).ar=_∧b9 n (Ev.put st₂ o.dst _).ar=_
     rw[p9,p9];exact ⟨rfl,rfl⟩
   ·have hfr₂:a03 (b9 d st₂.bx)=true:=by rw[hg.bx d (by rw[hf];simp)];exact hfr
    unfold aop;simp only[ho,hdst,hb,hz,hfr₂,yai];rw[hdst]at h2;exact h2
  ·cases h
 ·cases h
end
end
section
section
variable {κ:Type} {El:κ→Type} {S:Sg κ El} {P:Program}
variable {st:St κ El} {R:Type} [KdEq κ]
variable {o:Oper} {q:Bool} {call:Nat→List (D κ El)→List (List (D κ El))→(D κ El→List (List (D κ El))→Option R)→Option R} {k:St κ El→Option R} {r:R}
theorem Dlt.newBox {dst:Option Nat} {wr:List (Nat×Nat)} {st1 st₂ st₂1:St κ El} {d:Nat} {v:D κ El} {cs:List (D κ El)} (hd:(0,d)∈wr) (D1:DD wr st st1 st₂ st₂1) :
 Dlt dst wr st {Ev.put st1 dst v with bx:=(d,cs)::st1.bx} st₂ {Ev.put st₂1 dst v with bx:=(d,cs)::st₂1.bx}:=by
 refine ⟨fun s hs=>?_,fun s hs=>.inr ?_,fun b hb=>?_,fun b hb=>?_,fun n hn=>?_,fun n hn=>?_⟩
 ·show b9 s (Ev.put st1 dst v).env=_∧b9 s (Ev.put st₂1 dst v).env=_
  rw[j6,j6,yah hs,yah hs,D1.env.1,D1.env.2];exact ⟨rfl,rfl⟩
 ·show b9 s (Ev.put st₂1 dst v).env=b9 s (Ev.put st1 dst v).env
  rw[j6,j6,yaq hs,yaq hs]
 ·show b9 b ((d,cs)::st₂1.bx)=b9 b ((d,cs)::st1.bx)
  rw[c7,c7];split
  ·rfl
  ·exact D1.ag.bx b hb
 ·have hne:¬b=d:=fun e=>hb (by rw[e];exact hd)
  show b9 b ((d,cs)::st1.bx)=_∧b9 b ((d,cs)::st₂1.bx)=_
  rw[c7,c7,yah hne,yah hne,D1.bx.1,D1.bx.2];exact ⟨rfl,rfl⟩
 ·show b9 n (Ev.put st₂1 dst v).ar=b9 n (Ev.put st1 dst v).ar
  rw[p9,p9];exact D1.ag.ar n hn
 ·show b9 n (Ev.put st1 dst v).ar=_∧b9 n (Ev.put st₂1 dst v).ar=_
  rw[p9,p9];exact D1.ark n hn
theorem Dlt.setAr {dst:Option Nat} {wr:List (Nat×Nat)} {st1 st₂ st₂1:St κ El} {v:D κ El} {ar' ar₂':List (Nat×Ar κ El)} (D1:DD wr st st1 st₂ st₂1)
 (hw:∀n,(1,n)∈wr→b9 n ar₂'=b9 n ar') (hk:∀n,(1,n)∉wr→b9 n ar'=b9 n st1.ar∧b9 n ar₂'=b9 n st₂1.ar) :
 Dlt dst wr st {Ev.put st1 dst v with ar:=ar'} st₂ {Ev.put st₂1 dst v with ar:=ar₂'}:=by
 refine ⟨fun s hs=>?_,fun s hs=>.inr ?_,fun b hb=>?_,fun b hb=>?_,hw,fun n hn=>⟨(hk n hn).1.trans (D1.ark n hn).1,(hk n hn).2.trans (D1.ark n hn).2⟩⟩
 ·show b9 s (Ev.put st1 dst v).env=_∧b9 s (Ev.put st₂1 dst v).env=_
  rw[j6,j6,yah hs,yah hs,D1.env.1,D1.env.2];exact ⟨rfl,rfl⟩
 ·show b9 s (Ev.put st₂1 dst v).env=b9 s (Ev.put st1 dst v).env
  rw[j6,j6,yaq hs,yaq hs]
 ·show b9 b (Ev.put st₂1 dst v).bx=b9 b (Ev.put st1 dst v).bx
  rw[o6,o6];exact D1.ag.bx b hb
 ·show b9 b (Ev.put st1 dst v).bx=_∧b9 b (Ev.put st₂1 dst v).bx=_
  rw[o6,o6,D1.bx.1,D1.bx.2];exact ⟨rfl,rfl⟩
theorem DD.put {dst:Option Nat} {wr:List (Nat×Nat)} {st1 st₂ st₂1:St κ El} {v:D κ El} (D1:DD wr st st1 st₂ st₂1):Dlt dst wr st (Ev.put st1 dst v) st₂ (Ev.put st₂1 dst v):=
 .put (.inr rfl) (fun s=>by rw[D1.env.1,D1.env.2];exact ⟨rfl,rfl⟩) (fun b hb=>D1.ag.bx b hb) (fun b _=>by rw[D1.bx.1,D1.bx.2];exact ⟨rfl,rfl⟩) (fun n hn=>D1.ag.ar n hn) (fun n hn=>D1.ark n hn)
theorem c3p {e:Nat} {x:Operand} (ho:o.op=.box e x) (h:aop P S call q o st k=some r):Loc P S call q o st k r:=by
 have hl:x∈looks o:=by simp[looks,Op.operands,ho]
 unfold aop at h;simp only[ho]at h;split at h
 ·rename_i d hdst;have hf:d5 o st 0=⟨0,[],[(0,d)]⟩:=by unfold d5;simp only[ho,hdst]
  rw[c6]at h;split at h
  ·rename_i hfr;refine ⟨_,h,fun st₂ hg=>⟨{Ev.put st₂ o.dst (.ptr d 0) with bx:=(d,m0 (opd st x))::st₂.bx},?_,fun k₂ h2=>?_⟩⟩
   ·rw[hf];refine Dlt.newBox (st1:=st) (st₂1:=st₂) (by simp) (.refl (hg.ag (fun p hp=>by rw[hf];simpa using hp)))
   ·have hfr':=hfr;rw[yab]at hfr';have e:=hg.eq hl rfl (x6 hfr'.2);have hfr₂:b9 d st₂.bx=b9 d st.bx:=hg.bx d (by rw[hf];simp);unfold aop;simp only[ho,hdst,e,hfr₂,hfr,yai];rw[hdst]at h2;exact h2
  ·cases h
 ·cases h
theorem a6q {fp:List (Nat×Nat)} {xs:List Operand} {st₂:St κ El} (hg:Agr fp xs st st₂) {lo:Option Operand} (hl:∀x,lo=some x→x∈xs) {d i:Int} (h:y4 (lo.map (opd st)) d=some i):y4 (lo.map (opd st₂)) d=some i:=by
 cases lo with
 |none=>exact h
 |some x=>
  simp only[Option.map_some]at h ⊢;rw[hg.eq (hl x rfl) rfl (fun e=>by rw[e]at h;simp[y4]at h)];exact h
theorem b04 {t:Nat} {x:D κ El} {lo hi mx:Option (D κ El)} {k:St κ El→D κ El→Option R} {r:R} (h:a0s P S t x lo hi mx st k=some r) :
 mx=none∧∃st1 d n l h',(∀a v,x=.arr a v→∃kd s,k5 st x=some (st1,.lst kd s)∧n=s.length)∧((∀a v,x≠.arr a v)→st1=st)∧y4 lo 0=some l∧y4 hi (n:Int)=some h'∧k st1 d=some r∧
  ∀{lo₂ hi₂:Option (D κ El)} st₂ st₂1 k₂,y4 lo₂ 0=some l→y4 hi₂ (n:Int)=some h'→(∀a v,x=.arr a v→∀y,k5 st x=some (st1,y)→k5 st₂ x=some (st₂1,y))→((∀a v,x≠.arr a v)→st₂1=st₂)→k₂ st₂1 d=some r→a0s P S t x lo₂ hi₂ none st₂ k₂=some r:=by
 unfold a0s at h;split at h
 ·cases h
 refine ⟨rfl,?_⟩;split at h
 ·rename_i s;rw[c6]at h;split at h
  ·rename_i ht;split at h
   ·rename_i l h' hl hh;rw[c6]at h;split at h
    ·rename_i hb;refine ⟨st,_,s.length,l,h',fun a v e=>(by cases e),fun _=>rfl,hl,hh,h,fun st₂ st₂1 k₂ h1 h2 h3 h4 h5=>?_⟩;rw[h4 (fun a v e=>by cases e)]at h5;unfold a0s;simp only[ht,yai,h1,h2,hb];exact h5
    ·cases h
   ·cases h
  ·cases h
 ·rename_i kd s;rw[c6]at h;split at h
  ·rename_i ht;split at h
   ·rename_i l h' hl hh;rw[c6]at h;split at h
    ·rename_i hb;refine ⟨st,_,s.length,l,h',fun a v e=>(by cases e),fun _=>rfl,hl,hh,h,fun st₂ st₂1 k₂ h1 h2 h3 h4 h5=>?_⟩;rw[h4 (fun a v e=>by cases e)]at h5;unfold a0s;simp only[ht,yai,h1,h2,hb];exact h5
    ·cases h
   ·cases h
  ·cases h
 ·rename_i a v;split at h
  ·rename_i st1 kd s hd;rw[c6]at h;split at h
   ·rename_i ht;split at h
    ·rename_i l h' hl hh;rw[c6]at h;split at h
     ·rename_i hb;refine ⟨st1,_,s.length,l,h',fun a' v' e=>⟨kd,s,hd,rfl⟩,fun hne=>absurd rfl (hne a v),hl,hh,h,fun st₂ st₂1 k₂ h1 h2 h3 h4 h5=>?_⟩;have e:=h3 a v rfl _ hd;unfold a0s;simp only[e,ht,yai,h1,h2,hb];exact h5
     ·cases h
    ·cases h
   ·cases h
  ·cases h
 ·cases h
theorem b6m {t:Nat} {x:Operand} {lo hi mx:Option Operand} (ho:o.op=.slice t x lo hi mx) (h:aop P S call q o st k=some r):Loc P S call q o st k r:=by
 have hl:looks o=[x]++lo.toList++hi.toList++mx.toList:=by simp[looks,Op.operands,ho]
 have hf:d5 o st 0=⟨0,[],d6 (opd st x)⟩:=by unfold d5;simp only[ho]
 unfold aop at h;simp only[ho]at h;have hx:opd st x≠.undef:=fun e=>by rw[e]at h;unfold a0s at h;split at h<;>cases h
 obtain ⟨hmx,st1,d,n,l,h',hA,hN,hlo,hhi,hk,hall⟩:=b04 h;have hmx:mx=none:=by cases mx<;>simp_all
 subst hmx;refine ⟨_,hk,fun st₂ hg=>?_⟩;have ag:AG (d6 (opd st x)) st st₂:=hg.ag (fun p hp=>by rw[hf];simpa using hp);have e:=hg.eq (x:=x) (by rw[hl];simp) rfl hx;obtain ⟨st₂1,D1,hd1,hd2⟩:∃st₂1,DD (d6 (opd st x)) st st1 st₂ st₂1∧(∀a v,opd st x=.arr a v→∀y,k5 st (opd st x)=some (st1,y)→k5 st₂ (opd st x)=some (st₂1,y))∧((∀a v,opd st x≠.arr a v)→st₂1=st₂):=by
  by_cases ha:∃a v,opd st x=.arr a v
  ·obtain ⟨a,v,ha⟩:=ha;obtain ⟨kd,s,hd,_⟩:=hA a v ha;obtain ⟨t1,e1,D1⟩:=a2f hd ag (fun p hp=>hp);refine ⟨t1,D1,fun a' v' _ y hy=>?_,fun hne=>absurd ha (hne a v)⟩;rw[hd]at hy;cases hy;exact e1
  ·have hne:∀a v,opd st x≠.arr a v:=fun a v e=>ha ⟨a,v,e⟩
   rw[hN hne];exact ⟨st₂,.refl ag,fun a v e=>absurd e (hne a v),fun _=>rfl⟩
 refine ⟨_,by rw[hf];exact D1.put (dst:=o.dst) (v:=d),fun k₂ h2=>?_⟩;unfold aop;simp only[ho,e];exact hall st₂ st₂1 _ (a6q hg (fun y hy=>by rw[hl,hy];simp) hlo) (a6q hg (fun y hy=>by rw[hl,hy];simp) hhi) hd1 hd2 h2
end
end
section
section
variable {κ:Type} {El:κ→Type} {S:Sg κ El} {P:Program}
variable {st:St κ El} {R:Type} [KdEq κ]
variable {o:Oper} {q:Bool} {call:Nat→List (D κ El)→List (List (D κ El))→(D κ El→List (List (D κ El))→Option R)→Option R} {k:St κ El→Option R} {r:R}
theorem a4o {d e:D κ El} (he:e∈m0 d) (hs:o9 (m0 d)=true):∀p∈d6 e,p∈a14 d:=by
 intro p hp;unfold m0 at he hs;split at he
 ·simp only[a14,a02,yaK];exact ⟨e,he,hp⟩
 ·rename_i hne;simp only[ya2]at he;subst he;cases e<;>simp[d6]at hp<;>simp[a14,a02,d6,hp]
theorem b6n {t:Nat} {x y:Operand} (ho:o.op=.store t x y) (h:aop P S call q o st k=some r):Loc P S call q o st k r:=by
 have hl:looks o=[x,y]:=by simp[looks,Op.operands,ho]
 have hf:d5 o st 0=⟨0,[],d6 (opd st x)++a14 (opd st y)⟩:=by unfold d5;simp only[ho]
 unfold aop at h;simp only[ho]at h;rw[c6]at h;split at h
 rotate_left
 ·cases h
 rename_i hdn;have hdst:=f8 hdn;unfold a9d at h;rw[c6]at h;split at h
 rotate_left
 ·cases h
 rename_i hc;have hc':=hc;rw[yab]at hc';have ey:∀{st₂},Agr ((d5 o st 0).rd++(d5 o st 0).wr) (looks o) st st₂→opd st₂ y=opd st y:=fun hg=>hg.eq (by simp[hl]) rfl (x6 hc'.2)
 split at h
 ·rename_i b off hx;split at h
  ·rename_i cs hb;split at h
   ·rename_i cs' hsp;refine ⟨_,h,fun st₂ hg=>⟨{st₂ with bx:=m7 b cs' st₂.bx},?_,fun k₂ h2=>?_⟩⟩
    ·have hm:(0,b)∈(d5 o st 0).wr:=by rw[hf,hx];simp[d6]
     have hb₂:b9 b st₂.bx=some cs:=(hg.bx b (yao _ hm)).trans hb;rw[hdst];refine ⟨fun s _=>⟨rfl,rfl⟩,fun s hs=>(by cases hs),fun b' hb'=>?_,fun b' hb'=>?_,fun n hn=>hg.ar n (yao _ hn),fun n hn=>⟨rfl,rfl⟩⟩
     ·show b9 b' (m7 b cs' st₂.bx)=b9 b' (m7 b cs' st.bx)
      rw[b8 hb,b8 hb₂];split
      ·rfl
      ·exact hg.bx b' (yao _ hb')
     ·have hne:¬b'=b:=fun e=>hb' (by rw[e];exact hm)
      show b9 b' (m7 b cs' st.bx)=_∧b9 b' (m7 b cs' st₂.bx)=_
      rw[b8 hb,b8 hb₂,yah hne,yah hne];exact ⟨rfl,rfl⟩
    ·have hm:(0,b)∈(d5 o st 0).wr:=by rw[hf,hx];simp[d6]
     have hb₂:b9 b st₂.bx=some cs:=(hg.bx b (yao _ hm)).trans hb;have ex:opd st₂ x=.ptr b off:=hg.eq (by simp[hl]) hx (by simp);unfold aop;simp only[ho,hdn,yai,ex,ey hg];unfold a9d;simp only[hc,yai,hb₂,hsp];exact h2
   ·cases h
  ·cases h
 ·rename_i a ver i off hx;split at h
  ·rename_i st1 new hdat;split at h
   ·rename_i A hA;rw[c6]at h;split at h
    ·rename_i hok;split at h
     ·rename_i xi hxi;split at h
      ·rename_i cs' hsp;split at h
       ·rename_i yv hdec;have hm:(1,a)∈(d5 o st 0).wr:=by rw[hf,hx];simp[d6]
        have main:∀st₂,Agr ((d5 o st 0).rd++(d5 o st 0).wr) (looks o) st st₂→∃t1,g6 st₂ (m0 (opd st y))=some (t1,new)∧DD (d5 o st 0).wr st st1 st₂ t1:=fun st₂ hg=>
         x7 hdat (hg.ag (fun p hp=>yao _ hp)) (fun d hd p hp=>by rw[hf];exact yao _ (a4o hd hc'.2 p hp))
        refine ⟨_,h,fun st₂ hg=>?_⟩;obtain ⟨t1,e1,D1⟩:=main st₂ hg;have hA₂:b9 a t1.ar=some A:=(D1.ag.ar a hm).trans hA;refine ⟨{t1 with ar:=m7 a {A with xs:=A.xs.set i yv} t1.ar},?_,fun k₂ h2=>?_⟩
        ·rw[hdst];exact Dlt.setAr (dst:=none) (v:=.undef) D1 (fun n hn=>by
          rw[b8 hA,b8 hA₂];split
          ·rfl
          ·exact D1.ag.ar n hn) (fun n hn=>by
          have hne:¬n=a:=fun e=>hn (by rw[e];exact hm)
          rw[b8 hA,b8 hA₂,yah hne,yah hne];exact ⟨rfl,rfl⟩)
        ·have ex:opd st₂ x=.aptr a ver i off:=hg.eq (by simp[hl]) hx (by simp);unfold aop;simp only[ho,hdn,yai,ex,ey hg];unfold a9d;simp only[hc,yai,e1,hA₂,hok,hxi,hsp,hdec];exact h2
       ·cases h
      ·cases h
     ·cases h
    ·cases h
   ·cases h
  ·cases h
 ·cases h
theorem a8l {fp:List (Nat×Nat)} {fp':List (Nat×Nat)} {xs:List Operand} {kd:κ} {n:Nat} {st0 st₀:St κ El} (hg:Agr fp' xs st0 st₀):∀{ps:List (Nat×Operand)} {i:Nat} {st st1 st₂:St κ El} {ys:List (El kd)},
 st.env=st0.env→st₂.env=st₀.env→(∀p∈ps,p.2∈xs)→(∀p∈ps,∀z∈a14 (opd st0 p.2),z∈fp)→a0a S kd st n i ps=some (st1,ys)→AG fp st st₂→
 ∃st₂1,a0a S kd st₂ n i ps=some (st₂1,ys)∧DD fp st st1 st₂ st₂1:=by
 intro ps
 induction ps with
 |nil=>
  intro i st st1 st₂ ys _ _ _ _ h ha;simp only[a0a]at h ⊢;rw[c6]at h;split at h
  ·rename_i hi;cases h
   exact ⟨st₂,by rw[hi];rfl,.refl ha⟩
  ·cases h
 |cons p ps ih=>
  obtain ⟨j,x⟩:=p;intro i st st1 st₂ ys he he₂ hl hfp h ha;have opd_env:∀{s s':St κ El} (y:Operand),s.env=s'.env→opd s y=opd s' y:=fun y e=>by cases y<;>simp[opd,e]
  simp only[a0a]at h ⊢;rw[c6]at h;split at h
  ·rename_i hi;rw[hi,yai];split at h
   ·rename_i s1 cs hdat;split at h
    ·rename_i yv hdec;split at h
     ·rename_i s2 ys2 hrest;cases h
      have hsol:=a19 hdat;have e0:opd st x=opd st0 x:=opd_env x he;have e2:opd st₂ x=opd st x:=by
       rw[opd_env x he₂,e0];exact hg.eq (hl (j,x) (by simp)) rfl (by rw[←e0];exact x6 hsol)
      obtain ⟨t1,e1,D1⟩:=x7 hdat ha (fun d hd p hp=>hfp (j,x) (by simp) p (by rw[←e0];exact a4o hd hsol p hp));obtain ⟨t2,e3,D2⟩:=ih (D1.env.1.trans he) (D1.env.2.trans he₂) (fun p hp=>hl p (by simp[hp])) (fun p hp=>hfp p (by simp[hp])) hrest D1.ag;exact ⟨t2,by simp only[e2,e1,hdec,e3],D1.trans D2⟩
     ·cases h
    ·cases h
   ·cases h
  ·cases h
theorem a58 {t n:Nat} {ps:Array (Nat×Operand)} (ho:o.op=.buildSlice t n ps) (h:aop P S call q o st k=some r):Loc P S call q o st k r:=by
 have hl:looks o=ps.toList.map (·.2):=by simp[looks,Op.operands,ho]
 unfold aop at h;simp only[ho]at h;split at h
 rotate_left
 ·cases h
 rename_i e d he hdst;have hf:d5 o st 0=⟨0,[],ps.toList.flatMap (fun p=>a14 (opd st p.2))++[(1,d)]⟩:=by unfold d5;simp only[ho,hdst]
 split at h
 rotate_left
 ·cases h
 rename_i kd hkd;rw[c6]at h;split at h
 rotate_left
 ·cases h
 rename_i hfit;split at h
 rotate_left
 ·cases h
 rename_i st1 xs hdec;rw[c6]at h;split at h
 rotate_left
 ·cases h
 rename_i hfr;have hm:(1,d)∈(d5 o st 0).wr:=by rw[hf];simp
 refine ⟨_,h,fun st₂ hg=>?_⟩;obtain ⟨t1,e1,D1⟩:=a8l (fp:=(d5 o st 0).wr) (S:=S) (kd:=kd) (n:=n) (i:=0) (ps:=ps.toList) hg rfl rfl (fun p hp=>by rw[hl];exact ya1.2 ⟨p,hp,rfl⟩)
  (fun p hp z hz=>by rw[hf];exact yaJ _ (yaK.2 ⟨p,hp,hz⟩)) hdec (hg.ag (fun p hp=>yao _ hp))
 have hfr₂:b9 d t1.ar=b9 d st1.ar:=D1.ag.ar d hm;refine ⟨{Ev.put t1 o.dst (.arr d 0) with ar:=(d,⟨kd,xs,0,false,false⟩)::t1.ar},Dlt.setAr D1 (fun m hm'=>?_) (fun m hm'=>?_),fun k₂ h2=>?_⟩
 ·rw[c7,c7];split
  ·rfl
  ·exact D1.ag.ar m hm'
 ·have hne:¬m=d:=fun e=>hm' (by rw[e];exact hm)
  rw[c7,c7,yah hne,yah hne];exact ⟨rfl,rfl⟩
 ·unfold aop;simp only[ho,he,hdst,hkd,hfit,yai,e1,hfr₂,hfr];rw[hdst]at h2;exact h2
theorem a7b {t:Nat} {x y:Operand} (ho:o.op=.makeSlice t x y) (h:aop P S call q o st k=some r):Loc P S call q o st k r:=by
 have hl:looks o=[x,y]:=by simp[looks,Op.operands,ho]
 unfold aop at h;simp only[ho]at h;split at h
 rotate_left
 ·cases h
 rename_i e d n m he hdst hx hy;have hf:d5 o st 0=⟨0,[],[(1,d)]⟩:=by unfold d5;simp only[ho,hdst]
 split at h
 rotate_left
 ·cases h
 rename_i kd zc hkd hz;rw[c6]at h;split at h
 rotate_left
 ·cases h
 rename_i hfit;split at h
 rotate_left
 ·cases h
 rename_i yv hdec;rw[c6]at h;split at h
 rotate_left
 ·cases h
 rename_i hc;have hm:(1,d)∈(d5 o st 0).wr:=by rw[hf];simp
 refine ⟨_,h,fun st₂ hg=>?_⟩;have ag:AG (d5 o st 0).wr st st₂:=hg.ag (fun p hp=>yao _ hp);have hfr₂:b9 d st₂.ar=b9 d st.ar:=ag.ar d hm;refine ⟨{Ev.put st₂ o.dst (.arr d 0) with ar:=(d,⟨kd,List.replicate n.toNat yv,0,false,false⟩)::st₂.ar},Dlt.setAr (st1:=st) (st₂1:=st₂) (.refl ag) (fun m hm'=>?_) (fun m hm'=>?_),fun k₂ h2=>?_⟩
 ·rw[c7,c7];split
  ·rfl
  ·exact ag.ar m hm'
 ·have hne:¬m=d:=fun e=>hm' (by rw[e];exact hm)
  rw[c7,c7,yah hne,yah hne];exact ⟨rfl,rfl⟩
 ·unfold aop;simp only[ho,he,hdst,hg.eq (x:=x) (by simp[hl]) hx (by simp),hg.eq (x:=y) (by simp[hl]) hy (by simp),hkd,hz,hfit,yai,hdec,hfr₂,hc];rw[hdst]at h2;exact h2
end
end
section
section
variable {κ:Type} {El:κ→Type} {S:Sg κ El} {P:Program}
variable {st:St κ El} {R:Type} [KdEq κ]
variable {o:Oper} {q:Bool} {call:Nat→List (D κ El)→List (List (D κ El))→(D κ El→List (List (D κ El))→Option R)→Option R} {k:St κ El→Option R} {r:R}
theorem b0k {kd:κ} {d:D κ El} {st₂:St κ El} (ha:∀n,(1,n)∈d6 d→b9 n st₂.ar=b9 n st.ar):a0g st₂ kd d=a0g st kd d:=by
 unfold a0g;cases d<;>try rfl
 rename_i a v;simp only[ha a (by simp[d6])]
theorem b3a {cl:Call} (ho:o.op=.call cl) (hc:cl.callee=.builtin .append) (h:aop P S call q o st k=some r):Loc P S call q o st k r:=by
 have hl:=a0b ho hc;unfold aop at h;simp only[ho,hc]at h;unfold l6 at h;split at h<;>try contradiction
 rename_i t u l x y _ hty hargs;obtain ⟨x',y',hx',rfl,rfl⟩:∃x' y',cl.args.toList=[x',y']∧opd st x'=x∧opd st y'=y:=by
  obtain ⟨z,zs,e1,e2,e3⟩:=a2q hargs;cases zs with
  |nil=>simp at e3
  |cons z2 zs2=>
   simp at e3;exact ⟨z,z2,by rw[e1,e3.2],e2,e3.1⟩
 split at h
 rotate_left
 ·cases h
 rename_i eu heu;unfold a4f at h;split at h
 rotate_left
 ·cases h
 rename_i e d he hdst;have hf:d5 o st 0=⟨0,d6 (opd st x')++d6 (opd st y'),[(1,d)]++(d6 (opd st x')++d6 (opd st y'))⟩:=by
  unfold d5;simp only[ho,hc,hx',hdst];simp
 split at h
 rotate_left
 ·cases h
 rename_i kd hkd;rw[c6]at h;split at h
 rotate_left
 ·cases h
 rename_i hfit;split at h
 rotate_left
 ·cases h
 rename_i ky ys0 hit;split at h
 rotate_left
 ·cases h
 rename_i ys hcy;have hy:opd st y'≠.undef:=fun e=>by rw[e]at hit;simp[a0g]at hit
 simp only at h;have hm:(1,d)∈(d5 o st 0).wr:=by rw[hf];simp
 have hall:∀{st₂},Agr ((d5 o st 0).rd++(d5 o st 0).wr) (looks o) st st₂→AG (d5 o st 0).wr st st₂∧a0g st₂ kd (opd st y')=some ⟨ky,ys0⟩∧opd st₂ y'=opd st y':=fun hg=>by
  refine ⟨hg.ag (fun p hp=>yao _ hp),?_,hg.eq (by rw[hl,hx'];simp) rfl hy⟩;rw[b0k (st:=st) (fun n hn=>hg.ar n (by rw[hf];simp[hn]))];exact hit
 split at h
 ·rename_i hxn;rw[c6]at h;split at h
  ·rename_i hcond;refine ⟨_,h,fun st₂ hg=>?_⟩;obtain ⟨ag,hit₂,ey⟩:=hall hg;have ex:opd st₂ x'=.nil:=hg.eq (by rw[hl,hx'];simp) hxn (by simp);have hfr₂:b9 d st₂.ar=b9 d st.ar:=ag.ar d hm;refine ⟨{Ev.put st₂ o.dst (.arr d 0) with ar:=(d,⟨kd,ys,0,false,false⟩)::st₂.ar},Dlt.setAr (st1:=st) (st₂1:=st₂) (.refl ag) (fun m hm'=>?_) (fun m hm'=>?_),fun k₂ h2=>?_⟩
   ·rw[c7,c7];split
    ·rfl
    ·exact ag.ar m hm'
   ·have hne:¬m=d:=fun e=>hm' (by rw[e];exact hm)
    rw[c7,c7,yah hne,yah hne];exact ⟨rfl,rfl⟩
   ·unfold aop;simp only[ho,hc,hty,hx',yaP,List.map_nil,l6,heu,a4f,he,hdst,hkd,hfit,yai,ey,hit₂,hcy,ex,hfr₂,hcond];rw[hdst]at h2;exact h2
  ·cases h
 ·rename_i a v hxa;split at h
  rotate_left
  ·cases h
  rename_i A hA;rw[c6]at h;split at h
  rotate_left
  ·cases h
  rename_i hok;split at h
  rotate_left
  ·cases h
  rename_i xs hcx;rw[c6]at h;split at h
  rotate_left
  ·cases h
  rename_i hlim;have hma:(1,a)∈(d5 o st 0).wr:=by rw[hf,hxa];simp[d6]
  refine ⟨_,h,fun st₂ hg=>?_⟩;obtain ⟨ag,hit₂,ey⟩:=hall hg;have ex:opd st₂ x'=.arr a v:=hg.eq (by rw[hl,hx'];simp) hxa (by simp);have hA₂:b9 a st₂.ar=some A:=(ag.ar a hma).trans hA;refine ⟨{Ev.put st₂ o.dst (.arr a (v+1)) with ar:=m7 a ⟨kd,xs++ys,v+1,A.sealed,false⟩ st₂.ar},Dlt.setAr (st1:=st) (st₂1:=st₂) (.refl ag) (fun m hm'=>?_) (fun m hm'=>?_),fun k₂ h2=>?_⟩
  ·rw[b8 hA,b8 hA₂];split
   ·rfl
   ·exact ag.ar m hm'
  ·have hne:¬m=a:=fun e=>hm' (by rw[e];exact hma)
   rw[b8 hA,b8 hA₂,yah hne,yah hne];exact ⟨rfl,rfl⟩
  ·unfold aop;simp only[ho,hc,hty,hx',yaP,List.map_nil,l6,heu,a4f,he,hdst,hkd,hfit,yai,ey,hit₂,hcy,ex,hA₂,hok,hcx,hlim];rw[hdst]at h2;exact h2
 ·cases h
end
end
section
section
variable {κ:Type} {El:κ→Type} {S:Sg κ El} {P:Program}
variable {st:St κ El} {R:Type} [KdEq κ]
variable {o:Oper} {q:Bool} {call:Nat→List (D κ El)→List (List (D κ El))→(D κ El→List (List (D κ El))→Option R)→Option R} {k:St κ El→Option R} {r:R}
theorem b0p {t:Nat} {z:Option Operand} (ho:o.op=.makeMap t z) (h:aop P S call q o st k=some r):Loc P S call q o st k r:=by
 unfold aop at h;simp only[ho]at h;cases z with
 |some z=>cases h
 |none=>
  simp only at h;split at h
  rotate_left
  ·cases h
  rename_i M d hM hdst;have hf:d5 o st 0=⟨0,[],[(1,d)]⟩:=by unfold d5;simp only[ho,hdst]
  rw[c6]at h;split at h
  rotate_left
  ·cases h
  rename_i hc;have hm:(1,d)∈(d5 o st 0).wr:=by rw[hf];simp
  refine ⟨_,h,fun st₂ hg=>?_⟩;have ag:AG (d5 o st 0).wr st st₂:=hg.ag (fun p hp=>yao _ hp);have hfr₂:b9 d st₂.ar=b9 d st.ar:=ag.ar d hm;refine ⟨{Ev.put st₂ o.dst (.arr d 0) with ar:=(d,⟨M.k,[],0,true,true⟩)::st₂.ar},Dlt.setAr (st1:=st) (st₂1:=st₂) (.refl ag) (fun m hm'=>?_) (fun m hm'=>?_),fun k₂ h2=>?_⟩
  ·rw[c7,c7];split
   ·rfl
   ·exact ag.ar m hm'
  ·have hne:¬m=d:=fun e=>hm' (by rw[e];exact hm)
   rw[c7,c7,yah hne,yah hne];exact ⟨rfl,rfl⟩
  ·unfold aop;simp only[ho,hdst,hM,hfr₂,hc,yai];rw[hdst]at h2;exact h2
theorem b3c {t:Nat} {x i:D κ El} {ok:Bool} {k:D κ El→Option R}:a3y S st t x i ok k=(a3y S st t x i ok some).bind k:=by
 unfold a3y;simp only[c6]
 repeat' split
 all_goals simp_all
theorem b6o {t:Nat} {d i:D κ El} {ok:Bool} {st₂:St κ El} (ha:∀n,(1,n)∈d6 d→b9 n st₂.ar=b9 n st.ar) (k:D κ El→Option R):a3y S st₂ t d i ok k=a3y S st t d i ok k:=by
 unfold a3y;cases d<;>try rfl
 cases i<;>try rfl
 rename_i a v kk n;cases kk<;>try rfl
 simp only[ha a (by simp[d6])]
theorem b3b {t:Nat} {x i:Operand} {ok:Bool} (ho:o.op=.lookup t x i ok) (h:aop P S call q o st k=some r):Loc P S call q o st k r:=by
 have hl:looks o=[x,i]:=by simp[looks,Op.operands,ho]
 have hf:d5 o st 0=⟨0,d6 (opd st x),[]⟩:=by unfold d5;simp only[ho]
 have ha:∀(st:St κ El) (k:St κ El→Option R),aop P S call q o st k=(a3y S st t (opd st x) (opd st i) ok some).bind (fun d=>k (put st o.dst d)):=fun st k=>by unfold aop;simp only[ho];rw[b3c]
 rw[ha]at h;obtain ⟨d,hd,hk⟩:=yaD.1 h;have hx:opd st x≠.undef:=fun e=>by rw[e]at hd;unfold a3y at hd;cases hd
 have hi:opd st i≠.undef:=fun e=>by rw[e]at hd;unfold a3y at hd;split at hd<;>simp_all
 refine .val hk (by rw[hf]) (fun st₂ hg=>⟨d,.inr rfl,fun k₂ h2=>?_⟩);have har:=hg.ar;rw[hf]at har;rw[ha,hg.eq (x:=x) (by simp[hl]) rfl hx,hg.eq (x:=i) (by simp[hl]) rfl hi,b6o (st:=st) (fun n hm=>har n (by simpa using hm)),hd];exact h2
theorem a2y {t:Nat} {x i y:Operand} (ho:o.op=.mapUpdate t x i y∨o.op=.insert t x i y) (h:aop P S call q o st k=some r):Loc P S call q o st k r:=by
 have hl:looks o=[x,i,y]:=by rcases ho with ho|ho<;>simp[looks,Op.operands,ho]
 have hf:d5 o st 0=⟨0,[],d6 (opd st x)⟩:=by rcases ho with ho|ho<;>(unfold d5;simp only[ho])
 have hau:∀(st:St κ El) (k:St κ El→Option R),aop P S call q o st k=(bif a03 o.dst then c4z S st t (opd st x) (opd st i) (opd st y) k else none):=fun st k=>by rcases ho with ho|ho<;>(unfold aop;simp only[ho])
 rw[hau]at h;rw[c6]at h;split at h
 rotate_left
 ·cases h
 rename_i hdn;have hdst:=f8 hdn;obtain ⟨a,v,m,M,A,xs,ys,hx,hi,hM,hA,hok,hso,hxs,hys,hk⟩:=b7n h;have hyu:opd st y≠.undef:=fun e=>by rw[e]at hso;cases hso
 have hm:(1,a)∈(d5 o st 0).wr:=by rw[hf,hx];simp[d6]
 refine ⟨_,hk,fun st₂ hg=>⟨{st₂ with ar:=m7 a ⟨M.k,ys,v,true,true⟩ st₂.ar},?_,fun k₂ h2=>?_⟩⟩
 ·have hA₂:b9 a st₂.ar=some A:=(hg.ar a (yao _ hm)).trans hA;rw[hdst];refine ⟨fun s _=>⟨rfl,rfl⟩,fun s hs=>(by cases hs),fun b' hb'=>hg.bx b' (yao _ hb'),fun b' hb'=>⟨rfl,rfl⟩,fun n hn=>?_,fun n hn=>?_⟩
  ·show b9 n (m7 a _ st₂.ar)=b9 n (m7 a _ st.ar)
   rw[b8 hA,b8 hA₂];split
   ·rfl
   ·exact hg.ar n (yao _ hn)
  ·have hne:¬n=a:=fun e=>hn (by rw[e];exact hm)
   show b9 n (m7 a _ st.ar)=_∧b9 n (m7 a _ st₂.ar)=_
   rw[b8 hA,b8 hA₂,yah hne,yah hne];exact ⟨rfl,rfl⟩
 ·have hA₂:b9 a st₂.ar=some A:=(hg.ar a (yao _ hm)).trans hA;rw[hau];simp only[hdn,yai,hg.eq (x:=x) (by simp[hl]) hx (by simp),hg.eq (x:=i) (by simp[hl]) hi (by simp),hg.eq (x:=y) (by simp[hl]) rfl hyu];unfold c4z;simp only[hM,hA₂,hok,hso,hxs,hys,ybe,yai];exact h2
end
end
section
section
variable {κ:Type} {El:κ→Type} {S:Sg κ El} {P:Program}
variable {st:St κ El} {R:Type} [KdEq κ]
variable {o:Oper} {q:Bool} {call:Nat→List (D κ El)→List (List (D κ El))→(D κ El→List (List (D κ El))→Option R)→Option R} {k:St κ El→Option R} {r:R}
theorem a8i {st st':St κ El} {d d':D κ El} (h:a00 st d=some (st',d')):d≠.undef:=fun e=>by subst e;cases h
theorem p7:∀{cs cs':List (D κ El)} {st st':St κ El},m6 st cs=some (st',cs')→∀d∈cs,d≠.undef:=by
 intro cs
 induction cs with
 |nil=>intro cs' st st' h d hd;cases hd
 |cons c cs ih=>
  intro cs' st st' h d hd;simp only[m6]at h;split at h
  ·rename_i s1 d1 h1;split at h
   ·rename_i s2 cs2 h2;rcases yau.1 hd with rfl|hd
    ·exact a8i h1
    ·exact ih h2 d hd
   ·cases h
  ·cases h
theorem b3g:∀{cs cs':List (D κ El)} {j:Nat} {ns bss} {st st':St κ El},n7 st j cs=some (st',cs',ns,bss)→∀d∈cs,d≠.undef:=by
 intro cs
 induction cs with
 |nil=>intro cs' j ns bss st st' h d hd;cases hd
 |cons c cs ih=>
  intro cs' j ns bss st st' h d hd;unfold n7 at h;split at h
  ·rename_i heq;cases heq
  ·rename_i b off cs0 heq;obtain ⟨rfl,rfl⟩:=ybq heq;split at h
   ·split at h
    ·split at h
     ·rename_i h2;rcases yau.1 hd with rfl|hd
      ·simp
      ·exact ih h2 d hd
     ·cases h
    ·cases h
   ·cases h
  ·rename_i d0 cs0 hne heq;obtain ⟨rfl,rfl⟩:=ybq heq;split at h
   ·rename_i h1;split at h
    ·rename_i h2;rcases yau.1 hd with rfl|hd
     ·exact a8i h1
     ·exact ih h2 d hd
    ·cases h
   ·cases h
theorem Agr.opds' {fp:List (Nat×Nat)} {xs:List Operand} {st₂:St κ El} (h:Agr fp xs st st₂):∀{l:List Operand},(∀x∈l,x∈xs)→(∀x∈l,Ev.opd st x≠.undef)→l.map (Ev.opd st₂)=l.map (Ev.opd st):=by
 intro l
 induction l with
 |nil=>intros;rfl
 |cons x l ih=>
  intro hl hs;simp only[yaP];rw[h.eq (hl x (by simp)) rfl (hs x (by simp)),ih (fun y hy=>hl y (by simp[hy])) (fun y hy=>hs y (by simp[hy]))]
theorem s8 {cl:Call} {fo:Operand} {f:Nat} {pre caps:List (D κ El)} (ho:o.op=.call cl) (hc:cl.callee=.value fo) (hf:opd st fo=.fn f pre caps) {st₂:St κ El}
 (hg:Agr ((d5 o st 0).rd++(d5 o st 0).wr) (looks o) st st₂) (hne:∀d∈cl.args.toList.map (opd st),d≠.undef) :
 opd st₂ fo=.fn f pre caps∧cl.args.toList.map (opd st₂)=cl.args.toList.map (opd st)∧AG (d5 o st 0).wr st st₂:=by
 have hl:=b0q ho hc;refine ⟨hg.eq (by rw[hl];simp) hf (by simp),hg.opds' (fun x hx=>by rw[hl];simp[hx]) (fun x hx=>hne _ (ya1.2 ⟨x,hx,rfl⟩)),hg.ag (fun p hp=>yao _ hp)⟩
theorem w8 {cl:Call} {fo:Operand} {f:Nat} {pre caps:List (D κ El)} (ho:o.op=.call cl) (hc:cl.callee=.value fo) (hf:opd st fo=.fn f pre caps) :
 (∀d∈pre++cl.args.toList.map (opd st)++caps,n5 st (d5 o st 0).wr d)∧∀d,o.dst=some d→(0,d)∈(d5 o st 0).wr∧(1,d)∈(d5 o st 0).wr:=by
 have hw:(d5 o st 0).wr=(match o.dst with|some d=>[(0,d),(1,d)]|none=>[])++(fo::cl.args.toList).flatMap (fun x=>w4 st (opd st x)):=by unfold d5;simp only[ho,hc,List.flatMap_cons];cases o.dst<;>rfl
 rw[hw];constructor
 ·intro d hd;have hfn:∀e∈pre++caps,n5 st ((match o.dst with|some d=>[(0,d),(1,d)]|none=>[])++(fo::cl.args.toList).flatMap (fun x=>w4 st (opd st x))) e:=fun e he=>
   n5.elem (f:=f) (pre:=pre) (caps:=caps) (fun p hp=>yao _ (yaK.2 ⟨fo,by simp,by rw[hf];exact hp⟩)) he
  rcases yaA.1 hd with h1|h1
  ·rcases yaA.1 h1 with h2|h2
   ·exact hfn d (yaJ _ h2)
   ·obtain ⟨x,hx,rfl⟩:=ya1.1 h2;exact n5.of (fun p hp=>yao _ (yaK.2 ⟨x,by simp[hx],hp⟩))
  ·exact hfn d (yao _ h1)
 ·intro d hd;rw[hd];exact ⟨yaJ _ (by simp),yaJ _ (by simp)⟩
theorem w5 {l:List (D κ El)} {pre caps:List (D κ El)} {d:D κ El} (h:d∈l):d∈pre++l++caps:=by simp[h]
theorem m8 {cl:Call} {fo:Operand} {f:Nat} {pre caps:List (D κ El)} (ho:o.op=.call cl) (hc:cl.callee=.value fo) {st:St κ El} {k:St κ El→Option R} (hf:opd st fo=.fn f pre caps) :
 aop P S call q o st k=g8 S call q st o.dst f (pre++cl.args.toList.map (opd st)++caps) k:=by
 unfold aop;simp only[ho,hc,hf]
theorem b8x (cn:f7 call) {cl:Call} {fo:Operand} {f:Nat} {pre caps:List (D κ El)} (ho:o.op=.call cl) (hc:cl.callee=.value fo) (hf:opd st fo=.fn f pre caps) (hm:S.md f=.data)
 (h:g8 S call q st o.dst f (pre++cl.args.toList.map (opd st)++caps) k=some r):Loc P S call q o st k r:=by
 have hK:∀(st:St κ El) (args:List (D κ El)) (k:St κ El→Option R),g8 S call q st o.dst f args k=(match m6 st args with
  |some (st,ds)=>call f ds [] (fun d bs=>match bs with | []=>k (put st o.dst d)|_=>none)
  |none=>none):=fun st args k=>by unfold g8;rw[hm];cases q<;>rfl
 rw[hK]at h;obtain ⟨hdeep,-⟩:=w8 ho hc hf;split at h
 ·rename_i st1 ds hdat;obtain ⟨d,bs',hk,hall⟩:=cn _ _ _ _ _ h;split at hk
  ·refine ⟨_,hk,fun st₂ hg=>?_⟩;obtain ⟨e1,e2,ag⟩:=s8 ho hc hf hg (fun d hd=>p7 hdat d (w5 hd));obtain ⟨st₂1,hdat₂,D1⟩:=m9 hdat ag hdeep;refine ⟨_,D1.put (dst:=o.dst) (v:=d),fun k₂ h2=>?_⟩;rw[m8 ho hc e1,hK,e2,hdat₂];exact hall _ h2
  ·cases hk
 ·cases h
theorem Dlt.newAr {dst:Option Nat} {wr:List (Nat×Nat)} {st1 st₂ st₂1:St κ El} {d:Nat} {v:D κ El} {A:Ar κ El} (hd:(1,d)∈wr) (D1:DD wr st st1 st₂ st₂1) :
 Dlt dst wr st {Ev.put st1 dst v with ar:=(d,A)::st1.ar} st₂ {Ev.put st₂1 dst v with ar:=(d,A)::st₂1.ar}:=by
 refine Dlt.setAr D1 (fun m hm'=>?_) (fun m hm'=>?_)
 ·rw[c7,c7];split
  ·rfl
  ·exact D1.ag.ar m hm'
 ·have hne:¬m=d:=fun e=>hm' (by rw[e];exact hd)
  rw[c7,c7,yah hne,yah hne];exact ⟨rfl,rfl⟩
theorem b6k (cn:f7 call) {cl:Call} {fo:Operand} {f:Nat} {pre caps:List (D κ El)} (ho:o.op=.call cl) (hc:cl.callee=.value fo) (hf:opd st fo=.fn f pre caps) (hm:S.md f=.fresh)
 (h:g8 S call q st o.dst f (pre++cl.args.toList.map (opd st)++caps) k=some r):Loc P S call q o st k r:=by
 cases q with
 |true=>unfold g8 at h;rw[hm]at h;cases h
 |false=>
  obtain ⟨hdeep,hdst'⟩:=w8 ho hc hf;unfold g8 at h;rw[hm]at h;simp only at h;split at h
  ·rename_i st1 ds n hdat hdst;obtain ⟨d,bs',hk,hall⟩:=cn _ _ _ _ _ h;split at hk
   ·split at hk
    ·rename_i kd xs;rw[c6]at hk;split at hk
     ·rename_i hfr;refine ⟨_,hk,fun st₂ hg=>?_⟩;obtain ⟨e1,e2,ag⟩:=s8 ho hc hf hg (fun d hd=>p7 hdat d (w5 hd));obtain ⟨st₂1,hdat₂,D1⟩:=m9 hdat ag hdeep;have hm1:=(hdst' n hdst).2;have hfr₂:b9 n st₂1.ar=b9 n st1.ar:=D1.ag.ar n hm1;rw[hdst];refine ⟨_,Dlt.newAr (D1:=D1) hm1 (v:=.arr n 0) (dst:=some n) (A:=⟨kd,xs,0,false,false⟩),fun k₂ h2=>?_⟩;rw[m8 ho hc e1];unfold g8;rw[hm,hdst];simp only[e2,hdat₂];refine hall _ ?_;simp only[hfr₂,hfr,yai];exact h2
     ·cases hk
    ·cases hk
   ·cases hk
  ·cases h
theorem b80 (cn:f7 call) {cl:Call} {fo:Operand} {f:Nat} {pre caps:List (D κ El)} (ho:o.op=.call cl) (hc:cl.callee=.value fo) (hf:opd st fo=.fn f pre caps) (hm:S.md f=.newb)
 (h:g8 S call q st o.dst f (pre++cl.args.toList.map (opd st)++caps) k=some r):Loc P S call q o st k r:=by
 cases q with
 |true=>unfold g8 at h;rw[hm]at h;cases h
 |false=>
  obtain ⟨hdeep,hdst'⟩:=w8 ho hc hf;unfold g8 at h;rw[hm]at h;simp only at h;split at h
  ·rename_i st1 ds n hdat hdst;obtain ⟨d,bs',hk,hall⟩:=cn _ _ _ _ _ h;split at hk
   ·rename_i cs;rw[c6]at hk;split at hk
    ·rename_i hfr;refine ⟨_,hk,fun st₂ hg=>?_⟩;obtain ⟨e1,e2,ag⟩:=s8 ho hc hf hg (fun d hd=>p7 hdat d (w5 hd));obtain ⟨st₂1,hdat₂,D1⟩:=m9 hdat ag hdeep;have hm0:=(hdst' n hdst).1;have hfr₂:b9 n st₂1.bx=b9 n st1.bx:=D1.ag.bx n hm0;rw[hdst];refine ⟨_,Dlt.newBox (D1:=D1) hm0 (v:=.ptr n 0) (dst:=some n) (cs:=cs),fun k₂ h2=>?_⟩;rw[m8 ho hc e1];unfold g8;rw[hm,hdst];simp only[e2,hdat₂];refine hall _ ?_;simp only[hfr₂,hfr,yai];exact h2
    ·cases hk
   ·cases hk
  ·cases h
theorem a9a:∀{ns:List Nat} {bs:List (List (D κ El))} {bx bx' bx₂:List (Nat×List (D κ El))},a0c bx ns bs=some bx'→(∀n∈ns,b9 n bx₂=b9 n bx)→
 ∃bx₂',a0c bx₂ ns bs=some bx₂'∧(∀n,b9 n bx₂=b9 n bx→b9 n bx₂'=b9 n bx')∧∀n,n∉ns→b9 n bx'=b9 n bx∧b9 n bx₂'=b9 n bx₂:=by
 intro ns
 induction ns with
 |nil=>
  intro bs bx bx' bx₂ h ha;cases bs with
  |nil=>cases h;exact ⟨bx₂,rfl,fun n hn=>hn,fun n _=>⟨rfl,rfl⟩⟩
  |cons b bs=>cases h
 |cons n ns ih=>
  intro bs bx bx' bx₂ h ha;cases bs with
  |nil=>cases h
  |cons b bs=>
   simp only[a0c]at h ⊢;split at h
   ·rename_i old hold;rw[c6]at h;split at h
    ·rename_i hlen;have h₂:b9 n bx₂=some old:=(ha n (by simp)).trans hold;have hstep:∀m,b9 m bx₂=b9 m bx→b9 m (m7 n b bx₂)=b9 m (m7 n b bx):=fun m hm=>by
      rw[b8 hold,b8 h₂];split
      ·rfl
      ·exact hm
     obtain ⟨bx₂',e,h3,h4⟩:=ih h (fun m hm=>hstep m (ha m (by simp[hm])));refine ⟨bx₂',by simp only[h₂,hlen,yai,e],fun m hm=>h3 m (hstep m hm),fun m hm=>?_⟩;have hne:¬m=n:=fun e=>hm (by rw[e];simp)
     obtain ⟨h5,h6⟩:=h4 m (fun h=>hm (by simp[h]));rw[b8 hold,yah hne]at h5;rw[b8 h₂,yah hne]at h6;exact ⟨h5,h6⟩
    ·cases h
   ·cases h
theorem c3t (cn:f7 call) {cl:Call} {fo:Operand} {f:Nat} {pre caps:List (D κ El)} (ho:o.op=.call cl) (hc:cl.callee=.value fo) (hf:opd st fo=.fn f pre caps) (hm:S.md f=.mut)
 (h:g8 S call q st o.dst f (pre++cl.args.toList.map (opd st)++caps) k=some r):Loc P S call q o st k r:=by
 have hK:∀(st:St κ El) (args:List (D κ El)) (k:St κ El→Option R),g8 S call q st o.dst f args k=(match n7 st 0 args with
  |some (st,ds,ns,bss)=>bif args.all (a2p ns) then call f ds bss (fun d bs=>match a0c st.bx ns bs with
   |some bx=>k (put {st with bx:=bx} o.dst d)
   |none=>none) else none
  |none=>none):=fun st args k=>by unfold g8;rw[hm];cases q<;>rfl
 ·obtain ⟨hdeep,hdst'⟩:=w8 ho hc hf;rw[hK]at h;split at h
  ·rename_i st1 ds ns bss hdat;rw[c6]at h;split at h
   ·rename_i hap;obtain ⟨d,bs',hk,hall⟩:=cn _ _ _ _ _ h;split at hk
    ·rename_i bx hbx;refine ⟨_,hk,fun st₂ hg=>?_⟩;obtain ⟨e1,e2,ag⟩:=s8 ho hc hf hg (fun d hd=>b3g hdat d (w5 hd));obtain ⟨⟨st₂1,hdat₂,D1⟩,hns⟩:=b0r hdat ag hdeep;obtain ⟨bx₂,hbx₂,h3,h4⟩:=a9a hbx (bx₂:=st₂1.bx) (fun n hn=>D1.ag.bx n (hns n hn));refine ⟨_,Dlt.put (dst:=o.dst) (d:=d) (d₂:=d) (st1:={st1 with bx:=bx}) (st₂1:={st₂1 with bx:=bx₂}) (.inr rfl) (fun s=>?_) (fun b hb=>?_) (fun b hb=>?_) (fun n hn=>?_) (fun n hn=>?_),fun k₂ h2=>?_⟩
     ·show b9 s st1.env=_∧b9 s st₂1.env=_
      rw[D1.env.1,D1.env.2];exact ⟨rfl,rfl⟩
     ·exact h3 b (D1.ag.bx b hb)
     ·have hnb:b∉ns:=fun h=>hb (hns b h)
      have:=h4 b hnb;rw[D1.bx.1]at this;rw[D1.bx.2]at this;exact this
     ·exact D1.ag.ar n hn
     ·exact D1.ark n hn
     ·rw[m8 ho hc e1,hK];simp only[e2,hdat₂,hap,yai];refine hall _ ?_;simp only[hbx₂];exact h2
    ·cases hk
   ·cases h
  ·cases h
theorem b8w (cn:f7 call) {cl:Call} {fo:Operand} {f:Nat} {pre caps:List (D κ El)} (ho:o.op=.call cl) (hc:cl.callee=.value fo) (hf:opd st fo=.fn f pre caps) (hm:S.md f=.cons)
 (h:g8 S call q st o.dst f (pre++cl.args.toList.map (opd st)++caps) k=some r):Loc P S call q o st k r:=by
 cases q with
 |true=>unfold g8 at h;rw[hm]at h;cases h
 |false=>
  obtain ⟨hdeep,hdst'⟩:=w8 ho hc hf;unfold g8 at h;rw[hm]at h;simp only at h;split at h
  ·rename_i a v rest n hargs hdst;split at h
   ·rename_i st1 ds hdat;split at h
    ·rename_i A hA;rw[c6]at h;split at h
     ·rename_i hok;obtain ⟨d,bs',hk,hall⟩:=cn _ _ _ _ _ h;split at hk
      ·split at hk
       ·rename_i kd xs;rw[c6]at hk;split at hk
        ·rename_i hfr;refine ⟨_,hk,fun st₂ hg=>?_⟩;obtain ⟨e1,e2,ag⟩:=s8 ho hc hf hg (fun d hd=>by
          have:=w5 (pre:=pre) (caps:=caps) hd;rw[hargs]at this;rcases yau.1 this with rfl|h'
          ·simp
          ·exact p7 hdat d h')
         obtain ⟨st₂1,hdat₂,D1⟩:=m9 hdat ag (fun d hd=>hdeep d (by rw[hargs];simp[hd]));have hma:(1,a)∈(d5 o st 0).wr:=by
          have:=hdeep (.arr a v) (by rw[hargs];simp);exact this.1 _ (by simp[a02,d6])
         have hA₂:b9 a st₂1.ar=some A:=(D1.ag.ar a hma).trans hA;have hm1:=(hdst' n hdst).2;have hfr₂:b9 n st₂1.ar=b9 n st1.ar:=D1.ag.ar n hm1;rw[hdst];refine ⟨{Ev.put st₂1 (some n) (.arr n 0) with ar:=(n,⟨kd,xs,0,false,false⟩)::m7 a {A with dead:=true} st₂1.ar},Dlt.setAr D1 (fun m hm'=>?_) (fun m hm'=>?_),fun k₂ h2=>?_⟩
         ·rw[c7,c7,b8 hA,b8 hA₂];split
          ·rfl
          ·split
           ·rfl
           ·exact D1.ag.ar m hm'
         ·have hne:¬m=n:=fun e=>hm' (by rw[e];exact hm1)
          have hne':¬m=a:=fun e=>hm' (by rw[e];exact hma)
          rw[c7,c7,b8 hA,b8 hA₂,yah hne,yah hne,yah hne',yah hne'];exact ⟨rfl,rfl⟩
         ·rw[m8 ho hc e1];unfold g8;rw[hm,hdst,e2,hargs];simp only[hdat₂,hA₂,hok,yai];refine hall _ ?_;simp only[hfr₂,hfr,yai];exact h2
        ·cases hk
       ·cases hk
      ·cases hk
     ·cases h
    ·cases h
   ·cases h
  ·rename_i rest n hargs hdst;split at h
   ·rename_i kd st1 ds hik hdat;obtain ⟨d,bs',hk,hall⟩:=cn _ _ _ _ _ h;split at hk
    ·split at hk
     ·rename_i kd' xs;rw[c6]at hk;split at hk
      ·rename_i hfr;refine ⟨_,hk,fun st₂ hg=>?_⟩;obtain ⟨e1,e2,ag⟩:=s8 ho hc hf hg (fun d hd=>by
        have:=w5 (pre:=pre) (caps:=caps) hd;rw[hargs]at this;rcases yau.1 this with rfl|h'
        ·simp
        ·exact p7 hdat d h')
       obtain ⟨st₂1,hdat₂,D1⟩:=m9 hdat ag (fun d hd=>hdeep d (by rw[hargs];simp[hd]));have hm1:=(hdst' n hdst).2;have hfr₂:b9 n st₂1.ar=b9 n st1.ar:=D1.ag.ar n hm1;rw[hdst];refine ⟨_,Dlt.newAr (D1:=D1) hm1 (v:=.arr n 0) (dst:=some n) (A:=⟨kd',xs,0,false,false⟩),fun k₂ h2=>?_⟩;rw[m8 ho hc e1];unfold g8;rw[hm,hdst,e2,hargs];simp only[hik,hdat₂];refine hall _ ?_;simp only[hfr₂,hfr,yai];exact h2
      ·cases hk
     ·cases hk
    ·cases hk
   ·cases h
  ·cases h
theorem b8y (cn:f7 call) {cl:Call} {fo:Operand} {f:Nat} {pre caps:List (D κ El)} (ho:o.op=.call cl) (hc:cl.callee=.value fo) (hf:opd st fo=.fn f pre caps) (hm:S.md f=.inpl)
 (h:g8 S call q st o.dst f (pre++cl.args.toList.map (opd st)++caps) k=some r):Loc P S call q o st k r:=by
 cases q with
 |true=>unfold g8 at h;rw[hm]at h;cases h
 |false=>
  obtain ⟨hdeep,hdst'⟩:=w8 ho hc hf;unfold g8 at h;rw[hm]at h;simp only at h;split at h
  ·rename_i a v rest hargs;split at h
   ·rename_i st1 ds hdat;split at h
    ·rename_i A hA;rw[c6]at h;split at h
     ·rename_i hok;obtain ⟨d,bs',hk,hall⟩:=cn _ _ _ _ _ h;split at hk
      ·split at hk
       ·rename_i kd xs;split at hk
        ·rename_i xs1 hcast;refine ⟨_,hk,fun st₂ hg=>?_⟩;obtain ⟨e1,e2,ag⟩:=s8 ho hc hf hg (fun d hd=>by
          have:=w5 (pre:=pre) (caps:=caps) hd;rw[hargs]at this;rcases yau.1 this with rfl|h'
          ·simp
          ·exact p7 hdat d h')
         obtain ⟨st₂1,hdat₂,D1⟩:=m9 hdat ag (fun d hd=>hdeep d (by rw[hargs];simp[hd]));have hma:(1,a)∈(d5 o st 0).wr:=by
          have:=hdeep (.arr a v) (by rw[hargs];simp);exact this.1 _ (by simp[a02,d6])
         have hA₂:b9 a st₂1.ar=some A:=(D1.ag.ar a hma).trans hA;refine ⟨{Ev.put st₂1 o.dst (.tup []) with ar:=m7 a ⟨A.k,xs1,v,false,false⟩ st₂1.ar},Dlt.setAr D1 (fun m hm'=>?_) (fun m hm'=>?_),fun k₂ h2=>?_⟩
         ·rw[b8 hA,b8 hA₂];split
          ·rfl
          ·exact D1.ag.ar m hm'
         ·have hne':¬m=a:=fun e=>hm' (by rw[e];exact hma)
          rw[b8 hA,b8 hA₂,yah hne',yah hne'];exact ⟨rfl,rfl⟩
         ·rw[m8 ho hc e1];unfold g8;rw[hm,e2,hargs];simp only[hdat₂,hA₂,hok,yai];refine hall _ ?_;simp only[hcast];exact h2
        ·cases hk
       ·cases hk
      ·cases hk
     ·cases h
    ·cases h
   ·cases h
  ·rename_i rest hargs;split at h
   ·rename_i kd st1 ds hik hdat;obtain ⟨d,bs',hk,hall⟩:=cn _ _ _ _ _ h;split at hk
    ·split at hk
     ·rename_i kd' xs;split at hk
      ·rename_i ys hcast;refine ⟨_,hk,fun st₂ hg=>?_⟩;obtain ⟨e1,e2,ag⟩:=s8 ho hc hf hg (fun d hd=>by
        have:=w5 (pre:=pre) (caps:=caps) hd;rw[hargs]at this;rcases yau.1 this with rfl|h'
        ·simp
        ·exact p7 hdat d h')
       obtain ⟨st₂1,hdat₂,D1⟩:=m9 hdat ag (fun d hd=>hdeep d (by rw[hargs];simp[hd]));refine ⟨_,D1.put (dst:=o.dst) (v:=.tup []),fun k₂ h2=>?_⟩;rw[m8 ho hc e1];unfold g8;rw[hm,e2,hargs];simp only[hik,hdat₂];refine hall _ ?_;simp only[hcast];exact h2
      ·cases hk
     ·cases hk
    ·cases hk
   ·cases h
  ·cases h
theorem b81 (cn:f7 call) {cl:Call} {fo:Operand} {f:Nat} {pre caps:List (D κ El)} (ho:o.op=.call cl) (hc:cl.callee=.value fo) (hf:opd st fo=.fn f pre caps) (hm:S.md f=.nmap)
 (h:g8 S call q st o.dst f (pre++cl.args.toList.map (opd st)++caps) k=some r):Loc P S call q o st k r:=by
 cases q with
 |true=>unfold g8 at h;rw[hm]at h;cases h
 |false=>
  obtain ⟨hdeep,hdst'⟩:=w8 ho hc hf;unfold g8 at h;rw[hm]at h;simp only at h;split at h
  ·rename_i st1 ds n hdat hdst;obtain ⟨d,bs',hk,hall⟩:=cn _ _ _ _ _ h;split at hk
   ·split at hk
    ·rename_i x kd xs;rw[c6]at hk;split at hk
     ·rename_i hfr;refine ⟨_,hk,fun st₂ hg=>?_⟩;obtain ⟨e1,e2,ag⟩:=s8 ho hc hf hg (fun d hd=>p7 hdat d (w5 hd));obtain ⟨st₂1,hdat₂,D1⟩:=m9 hdat ag hdeep;have hm1:=(hdst' n hdst).2;have hfr₂:b9 n st₂1.ar=b9 n st1.ar:=D1.ag.ar n hm1;rw[hdst];refine ⟨_,Dlt.newAr (D1:=D1) hm1 (v:=.tup [x,.arr n 0]) (dst:=some n) (A:=⟨kd,xs,0,true,true⟩),fun k₂ h2=>?_⟩;rw[m8 ho hc e1];unfold g8;rw[hm,hdst];simp only[e2,hdat₂];refine hall _ ?_;simp only[hfr₂,hfr,yai];exact h2
     ·cases hk
    ·cases hk
   ·cases hk
  ·cases h
theorem c3o {cl:Call} {fo:Operand} {f:Nat} {pre caps:List (D κ El)} (ho:o.op=.call cl) (hc:cl.callee=.value fo) (hf:opd st fo=.fn f pre caps) (hm:S.md f=.bld)
 (h:g8 S call q st o.dst f (pre++cl.args.toList.map (opd st)++caps) k=some r):Loc P S call q o st k r:=by
 cases q with
 |true=>unfold g8 at h;rw[hm]at h;cases h
 |false=>
  obtain ⟨hdeep,hdst'⟩:=w8 ho hc hf;unfold g8 at h;rw[hm]at h;simp only at h;obtain ⟨B,a,v,rest,A,xs,hB,hargs,hA,hok,hxs,hcase⟩:=b4s h;have hma:(1,a)∈(d5 o st 0).wr:=by
   have:=hdeep (.arr a v) (by rw[hargs];simp);exact this.1 _ (by simp[a02,d6])
  have hne:∀d∈cl.args.toList.map (opd st),d≠.undef:=fun d hd=>by
   have:=w5 (pre:=pre) (caps:=caps) hd;rw[hargs]at this;rcases yau.1 this with rfl|h'
   ·simp
   ·rcases hcase with ⟨_,s,rfl,_⟩|⟨_,rfl,_⟩
    ·rw[ya2.1 h'];simp
    ·cases h'
  have hok2:=hok;unfold b2h at hok2;rcases hcase with ⟨h1,s,rfl,hl,hk⟩|⟨h1,rfl,hk⟩
  ·refine ⟨_,hk,fun st₂ hg=>?_⟩;obtain ⟨e1,e2,ag⟩:=s8 ho hc hf hg hne;have hA₂:b9 a st₂.ar=some A:=(ag.ar a hma).trans hA;refine ⟨{Ev.put st₂ o.dst .undef with ar:=m7 a ⟨B.k,xs++B.of s,v,true,true⟩ st₂.ar},Dlt.setAr (.refl ag) (fun m hm'=>?_) (fun m hm'=>?_),fun k₂ h2=>?_⟩
   ·rw[b8 hA,b8 hA₂];split
    ·rfl
    ·exact ag.ar m hm'
   ·have hne':¬m=a:=fun e=>hm' (by rw[e];exact hma)
    rw[b8 hA,b8 hA₂,yah hne',yah hne'];exact ⟨rfl,rfl⟩
   ·rw[m8 ho hc e1];unfold g8;rw[hm,e2,hargs];simp only;unfold c5t;simp only[hB,hA₂,hok2,hxs,h1,decide_eq_true hl,yai];exact h2
  ·refine ⟨_,hk,fun st₂ hg=>?_⟩;obtain ⟨e1,e2,ag⟩:=s8 ho hc hf hg hne;have hA₂:b9 a st₂.ar=some A:=(ag.ar a hma).trans hA;refine ⟨{Ev.put st₂ o.dst (.str (B.to xs)) with ar:=m7 a ⟨B.k,[],v,false,true⟩ st₂.ar},Dlt.setAr (.refl ag) (fun m hm'=>?_) (fun m hm'=>?_),fun k₂ h2=>?_⟩
   ·rw[b8 hA,b8 hA₂];split
    ·rfl
    ·exact ag.ar m hm'
   ·have hne':¬m=a:=fun e=>hm' (by rw[e];exact hma)
    rw[b8 hA,b8 hA₂,yah hne',yah hne'];exact ⟨rfl,rfl⟩
   ·rw[m8 ho hc e1];unfold g8;rw[hm,e2,hargs];simp only;unfold c5t;simp only[hB,hA₂,hok2,hxs,h1,yai];exact h2
theorem c7l (cn:f7 call) (h:aop P S call q o st k=some r):Loc P S call q o st k r:=by
 cases ho:o.op with
 |move x=>exact b16 (.inl ho) h
 |assign x=>exact b16 (.inr ho) h
 |pick x y z=>exact b82 ho h
 |alloc e=>exact b6g ho h
 |box e x=>exact c3p ho h
 |build t ps=>exact b6i ho h
 |buildSlice t n ps=>exact a58 ho h
 |load t x=>exact b8z ho h
 |store t x y=>exact b6n ho h
 |nilCheck x=>exact a8z ho h
 |binOp op t x y u=>exact b6h ho h
 |unOp op t x=>exact b83 ho h
 |convert s t x=>exact b0n ho h
 |makeFunc fn pre caps=>exact a8y ho h
 |makeSlice t x y=>exact a7b ho h
 |slice t x lo hi mx=>exact b6m ho h
 |fieldAddr t x f=>exact a69 ho h
 |field t x f=>exact b6j ho h
 |indexAddr t x i=>exact a7a ho h
 |index t x i=>exact b6l ho h
 |extract x i=>exact b0o ho h
 |makeMap t z=>exact b0p ho h
 |lookup t x i ok=>exact b3b ho h
 |mapUpdate t x i y=>exact a2y (.inl ho) h
 |insert t x i y=>exact a2y (.inr ho) h
 |call cl=>
  cases hc:cl.callee with
  |builtin b=>
   cases b with
   |len=>exact c3q ho hc h
   |min=>exact c3s ho hc h
   |max=>exact c3r ho hc h
   |append=>exact b3a ho hc h
   |_=>unfold aop at h;simp only[ho,hc]at h;unfold l6 at h;split at h<;>first|contradiction|cases h
  |value fo=>
   unfold aop at h;simp only[ho,hc]at h;split at h
   ·rename_i f pre caps hf;cases hm:S.md f with
    |data=>exact b8x cn ho hc hf hm h
    |fresh=>exact b6k cn ho hc hf hm h
    | «mut»=>exact c3t cn ho hc hf hm h
    |cons=>exact b8w cn ho hc hf hm h
    |inpl=>exact b8y cn ho hc hf hm h
    |newb=>exact b80 cn ho hc hf hm h
    |nmap=>exact b81 cn ho hc hf hm h
    |bld=>exact c3o ho hc hf hm h
   ·cases h
  |invoke x m=>unfold aop at h;simp only[ho,hc]at h;cases h
 |_=>unfold aop at h;simp only[ho]at h;cases h
end
end
section
section
variable {κ:Type} {El:κ→Type} {S:Sg κ El} {P:Program}
variable {st:St κ El} {R:Type} [KdEq κ]
variable {o:Oper} {q:Bool} {call:Nat→List (D κ El)→List (List (D κ El))→(D κ El→List (List (D κ El))→Option R)→Option R} {k:St κ El→Option R} {r:R}
def slot (st:St κ El) (s:Nat):D κ El:=opd st (.tmp s)
theorem a5p {st:St κ El} {s:Nat} {d:D κ El} (h:b9 s st.env=some d):slot st s=d:=by simp[slot,opd,h]
theorem m3 {st st':St κ El} {s:Nat} (h:b9 s st'.env=b9 s st.env):slot st' s=slot st s:=by simp[slot,opd,h]
theorem t7 (st:St κ El) (dst:Option Nat) (d:D κ El) (s:Nat):slot (put st dst d) s=if dst=some s then d else slot st s:=by
 simp only[slot,opd,j6];by_cases h:dst=some s
 ·simp only[yaq h]
 ·simp only[yah h]
structure Sub (st C:St κ El):Prop where
 env:∀s,slot st s=.undef∨slot C s=slot st s
 bx:∀b,b9 b C.bx=b9 b st.bx
 ar:∀n,b9 n C.ar=b9 n st.ar
theorem Sub.refl (st:St κ El):Sub st st:=⟨fun _=>.inr rfl,fun _=>rfl,fun _=>rfl⟩
theorem Sub.trans {st C E:St κ El} (h:Sub st C) (h':Sub C E):Sub st E:=
 ⟨fun s=>by
  rcases h.env s with h1|h1
  ·exact .inl h1
  ·rcases h'.env s with h2|h2
   ·exact .inl (by rw[←h1,h2])
   ·exact .inr (h2.trans h1),
  fun b=>(h'.bx b).trans (h.bx b),fun n=>(h'.ar n).trans (h.ar n)⟩
theorem Sub.opd {st C:St κ El} (h:Sub st C) (x:Operand):Ev.opd st x=.undef∨Ev.opd C x=Ev.opd st x:=by
 cases x with
 |tmp s=>exact h.env s
 |_=>exact .inr rfl
theorem Sub.opd_eq {st C:St κ El} (h:Sub st C) {x:Operand} {d:D κ El} (he:Ev.opd st x=d) (hn:d≠.undef):Ev.opd C x=d:=by
 rcases h.opd x with h1|h1
 ·rw[h1]at he;exact absurd he.symm hn
 ·rw[h1,he]
theorem Sub.put_undef {st C:St κ El} (h:Sub st C) (dst:Option Nat) (d:D κ El):Sub (Ev.put st dst .undef) (Ev.put C dst d):=
 ⟨fun s=>by rw[t7,t7];split;exact .inl rfl;exact h.env s,fun b=>by rw[o6,o6];exact h.bx b,fun n=>by rw[p9,p9];exact h.ar n⟩
theorem Sub.put_same {st C:St κ El} (h:Sub st C) (dst:Option Nat) (d:D κ El):Sub (Ev.put st dst d) (Ev.put C dst d):=
 ⟨fun s=>by rw[t7,t7];split;exact .inr rfl;exact h.env s,fun b=>by rw[o6,o6];exact h.bx b,fun n=>by rw[p9,p9];exact h.ar n⟩
theorem Sub.undefs_left {C:St κ El}:∀{l:List Oper} {st:St κ El},Sub st C→Sub (n9 st l) C:=by
 intro l
 induction l with
 |nil=>intro st h;exact h
 |cons o l ih=>
  intro st h;refine ih ⟨fun s=>?_,fun b=>by rw[o6];exact h.bx b,fun n=>by rw[p9];exact h.ar n⟩;rw[t7];split
  ·exact .inl rfl
  ·exact h.env s
theorem Rel.weaken {c:Cx} {st st':St κ El} {g:Gh} {a:Act} {w:World} (h:Rel S c st g a w) (hs:Sub st' st):Rel S c st' g a w where
 nt:=h.nt
 df:=h.df
 env:=fun s d hd=>by
  have:=h.opd (.tmp s);rcases hs.env s with h1|h1
  ·rw[a5p hd]at h1;rw[h1];exact .undef _
  ·rw[a5p hd]at h1;cases hl:b9 s st.env with
   |none=>
    have e:slot st s=.undef:=by simp only[slot,Ev.opd,hl]
    rw[e]at h1;rw[←h1];exact .undef _
   |some d'=>rw[a5p hl]at h1;rw[←h1];exact h.env s d' hl
 bx:=fun b cs hb=>h.bx b cs (by rw[hs.bx];exact hb)
 bd:=fun b blk hb=>by rw[←hs.bx];exact h.bd b blk hb
 ar:=fun n A hn=>h.ar n A (by rw[hs.ar];exact hn)
 ad:=fun n hn=>by rw[←hs.ar];exact h.ad n hn
 ib:=h.ib
 ol:=h.ol
 i0:=h.i0
 i1:=h.i1
 ij:=h.ij
 j0:=h.j0
 j1:=h.j1
 jm:=h.jm
 old:=h.old
 mb:=h.mb
 mo:=h.mo
 pa:=h.pa
 pn:=h.pn
 sz:=h.sz
 os:=h.os
 out:=h.out
 tape:=h.tape
 gl:=h.gl
 gb:=h.gb
def c5e (P:Program) (S:Sg κ El) (o:Oper) (C C1:St κ El) (f:Foot):Prop:=
 ∀st₂,Agr (f.rd++f.wr) (looks o) C st₂→∃st₂',Dlt o.dst f.wr C C1 st₂ st₂'∧OpS P S o st₂ st₂'
theorem a66 {o:Oper} {st:St κ El} {i j:Nat}:(d5 o st i).rd=(d5 o st j).rd∧(d5 o st i).wr=(d5 o st j).wr∧(d5 o st i).i=i:=by
 unfold d5;cases o.op<;>try exact ⟨rfl,rfl,rfl⟩
 rename_i c;simp only;cases c.callee<;>try exact ⟨rfl,rfl,rfl⟩
 rename_i b;cases b<;>exact ⟨rfl,rfl,rfl⟩
theorem Sub.agr {st C:St κ El} (h:Sub st C) (fp:List (Nat×Nat)) (xs:List Operand):Agr fp xs st C:=⟨fun x _=>h.opd x,fun b _=>h.bx b,fun n _=>h.ar n⟩
theorem Sub.agr_trans {st C st₂:St κ El} (h:Sub st C) {fp:List (Nat×Nat)} {xs:List Operand} (ha:Agr fp xs C st₂):Agr fp xs st st₂:=
 ⟨fun x hx=>by
  rcases h.opd x with h1|h1
  ·exact .inl h1
  ·rcases ha.opd x hx with h2|h2
   ·exact .inl (by rw[←h1,h2])
   ·exact .inr (h2.trans h1),
  fun b hb=>(ha.bx b hb).trans (h.bx b),fun n hn=>(ha.ar n hn).trans (h.ar n)⟩
theorem b92 (G:GoodP P S) (cn:f7 call) (cok:j7 P S call) (h:aop P S call q o st k=some r) {C:St κ El} (hs:Sub st C) (i:Nat) :
 ∃st' C1,k st'=some r∧Sub st' C1∧c5e P S o C C1 (d5 o st i)∧(∀s,o.dst≠some s→slot st' s=slot st s):=by
 classical
 obtain ⟨st',hk,hloc⟩:=c7l cn h;obtain ⟨C0,D1,-⟩:=hloc C (hs.agr _ _);have hfi:(d5 o st i).rd=(d5 o st 0).rd∧(d5 o st i).wr=(d5 o st 0).wr:=⟨a66.1,a66.2.1⟩
 obtain ⟨C1,hbx,har,henv,hdst⟩:∃C1:St κ El,C1.bx=C0.bx∧C1.ar=C0.ar∧(∀s,o.dst≠some s→b9 s C1.env=b9 s C0.env)∧(∀s,o.dst=some s→b9 s C1.env=b9 s st'.env):=by
  cases hd:o.dst with
  |none=>exact ⟨C0,rfl,rfl,fun _ _=>rfl,fun s h=>by cases h⟩
  |some d=>
   cases hv:b9 d st'.env with
   |none=>
    refine ⟨C0,rfl,rfl,fun _ _=>rfl,fun s h=>?_⟩;cases h
    rcases D1.dst d hd with h1|h1
    ·rw[hv]at h1;cases h1
    ·exact h1
   |some v=>
    refine ⟨{C0 with env:=(d,v)::C0.env},rfl,rfl,fun s h=>?_,fun s h=>?_⟩
    ·show b9 s ((d,v)::C0.env)=_
     rw[c7,yah (fun e=>h (by rw[e]))]
    ·cases h
     show b9 d ((d,v)::C0.env)=_
     rw[c7,yaq rfl,hv]
 refine ⟨st',C1,hk,⟨fun s=>?_,fun b=>?_,fun n=>?_⟩,fun st₂ ha=>?_,fun s hs'=>m3 (D1.env s hs').1⟩
 ·by_cases hd:o.dst=some s
  ·exact .inr (m3 (hdst s hd))
  ·rw[m3 (henv s hd),m3 (D1.env s hd).1,m3 (D1.env s hd).2];exact hs.env s
 ·rw[hbx];by_cases hb:(0,b)∈(d5 o st 0).wr
  ·exact D1.bxw b hb
  ·rw[(D1.bxk b hb).1,(D1.bxk b hb).2];exact hs.bx b
 ·rw[har];by_cases hn:(1,n)∈(d5 o st 0).wr
  ·exact D1.arw n hn
  ·rw[(D1.ark n hn).1,(D1.ark n hn).2];exact hs.ar n
 ·rw[hfi.1,hfi.2]at ha;obtain ⟨st₂',D2,hall⟩:=hloc st₂ (hs.agr_trans ha);refine ⟨st₂',?_,?_⟩
  ·rw[hfi.2];refine ⟨fun s hs'=>⟨?_,(D2.env s hs').2⟩,fun s hd=>?_,fun b hb=>?_,fun b hb=>⟨?_,(D2.bxk b hb).2⟩,fun n hn=>?_,fun n hn=>⟨?_,(D2.ark n hn).2⟩⟩
   ·rw[henv s hs',(D1.env s hs').2]
   ·rcases D2.dst s hd with h1|h1
    ·exact .inl (by rw[hdst s hd,h1])
    ·exact .inr (by rw[h1,hdst s hd])
   ·rw[D2.bxw b hb,hbx,D1.bxw b hb]
   ·rw[hbx,(D1.bxk b hb).2]
   ·rw[D2.arw n hn,har,D1.arw n hn]
   ·rw[har,(D1.ark n hn).2]
  ·have h2:=hall (fun s=>if s=st₂' then some r else none) (by simp);obtain ⟨st'',hk'',hop⟩:=c5o G cok h2;simp only at hk'';split at hk''
   ·rename_i e;rw[←e];exact hop
   ·cases hk''
def u1 (all:List Oper) (o:Oper) (C:St κ El) (b:Bool):Prop:=
 match o.guard,b with
 |none,b=>b=true
 |some (j,w),true=>∃d,(all[j]?).bind (·.dst)=some d∧slot C d=.bool w
 |some (j,w),false=>∃d,(all[j]?).bind (·.dst)=some d∧(slot C d=.bool (!w)∨slot C d=.tup [])
inductive Fl (P:Program) (S:Sg κ El) (all:List Oper):Nat→List Oper→St κ El→List Foot→St κ El→List Foot→Prop
 |nil (i C fp):Fl P S all i [] C fp C fp
 |run (i o os C C1 C' fp f fp') (hg:u1 all o C true) (hi:f.i=i) (hl:c5e P S o C C1 f) (h:Fl P S all (i+1) os C1 (f::fp) C' fp'):Fl P S all i (o::os) C fp C' fp'
 |quiet (i o os C C1 C' fp fp') (hg:u1 all o C true) (hl:c5e P S o C C1 ⟨i,[],[]⟩) (h:Fl P S all (i+1) os C1 fp C' fp'):Fl P S all i (o::os) C fp C' fp'
 |skip (i o os C C' fp fp') (hg:u1 all o C false) (h:Fl P S all (i+1) os (put C o.dst (.tup [])) fp C' fp'):Fl P S all i (o::os) C fp C' fp'
theorem Fl.append {all:List Oper} {i j:Nat} {l m:List Oper} {C C1 C':St κ El} {fp fp1 fp':List Foot} (h:Fl P S all i l C fp C1 fp1) (hj:j=i+l.length) (h':Fl P S all j m C1 fp1 C' fp') :
 Fl P S all i (l++m) C fp C' fp':=by
 induction h generalizing j with
 |nil i C fp=>simp at hj;subst hj;exact h'
 |run i o os C C1 C2 fp f fp2 hg hi hl h ih=>exact .run _ _ _ _ _ _ _ _ _ hg hi hl (ih (by simp at hj ⊢;omega) h')
 |quiet i o os C C1 C2 fp fp2 hg hl h ih=>exact .quiet _ _ _ _ _ _ _ _ hg hl (ih (by simp at hj ⊢;omega) h')
 |skip i o os C C2 fp fp2 hg h ih=>exact .skip _ _ _ _ _ _ _ hg (ih (by simp at hj ⊢;omega) h')
theorem a67 {a b:Option (Nat×Bool)} (h:gEq a b=true):a=b:=by
 unfold gEq at h;split at h<;>first|rfl|(simp only[yav]at h;rw[h])|cases h
theorem b3z {ctx:Option (Nat×Bool)}:∀{l seg rest:List Oper},b3y ctx l=(seg,rest)→l=seg++rest∧(∀p rest',rest=p::rest'→p.guard=ctx):=by
 intro l
 induction l with
 |nil=>intro seg rest h;simp only[b3y,ybb]at h;obtain ⟨rfl,rfl⟩:=h;exact ⟨rfl,fun p r h=>by cases h⟩
 |cons o l ih=>
  intro seg rest h;simp only[b3y,c6]at h;split at h
  ·rename_i hg;simp only[ybb]at h;obtain ⟨rfl,rfl⟩:=h;exact ⟨rfl,fun p r h=>by cases h;exact a67 hg⟩
  ·cases hsp:b3y ctx l with
   |mk a b=>
    rw[hsp]at h;simp only[ybb]at h;obtain ⟨rfl,rfl⟩:=h;obtain ⟨e,h2⟩:=ih hsp;exact ⟨by rw[e];rfl,h2⟩
def b9t (C:St κ El):List Oper→St κ El
 | []=>C
 |o::os=>b9t (put C o.dst (.tup [])) os
theorem a2i {g:Nat} {o:Oper} (h:a81 g o=true):o.dst≠some g:=by
 unfold a81 at h;cases ho:o.dst with
 |none=>simp
 |some d=>rw[ho]at h;intro e;cases e;simp[a2h]at h
theorem b9u {all:List Oper} {gi g:Nat} {w:Bool} (hgd:(all[gi]?).bind (·.dst)=some g):∀{l:List Oper} {acc:List Nat} {i:Nat} {C:St κ El} {fp:List Foot},
 slot C g=.bool (!w)→l.all (a81 g)=true→b2k all gi w acc l=true→(∀d∈acc,slot C d=.tup [])→Fl P S all i l C fp (b9t C l) fp:=by
 intro l
 induction l with
 |nil=>intros;exact .nil _ _ _
 |cons o l ih=>
  intro acc i C fp hb hn hk ha;simp only[ybc,yab]at hn;simp only[b2k,yab]at hk;have hne:=a2i hn.1;refine .skip _ _ _ _ _ _ _ ?_ (ih (acc:=(match o.dst with|some d=>d::acc|none=>acc)) ?_ hn.2 hk.2 ?_)
  ·unfold u1;cases hg:o.guard with
   |none=>rw[hg]at hk;simp at hk
   |some jw=>
    obtain ⟨j,w'⟩:=jw;have h1:=hk.1;rw[hg]at h1;simp only[yaO]at h1;rcases h1 with h1|h1
    ·have:=a67 h1;cases this
     exact ⟨g,hgd,.inl hb⟩
    ·split at h1
     ·rename_i d hd;obtain ⟨x,hx,he⟩:=List.any_eq_true.1 h1;rw[yav]at he;subst he;exact ⟨d,hd,.inr (ha d hx)⟩
     ·cases h1
  ·rw[t7,yah hne];exact hb
  ·intro d hd;rw[t7];split
   ·rfl
   ·rename_i hne';cases ho:o.dst with
    |none=>rw[ho]at hd;exact ha d hd
    |some d'=>
     rw[ho]at hd hne';rcases yau.1 hd with rfl|hd
     ·exact absurd rfl hne'
     ·exact ha d hd
theorem a9g:∀{l:List Oper} {st C:St κ El},Sub st C→Sub (n9 st l) (b9t C l):=by
 intro l
 induction l with
 |nil=>intro st C h;exact h
 |cons o l ih=>intro st C h;exact ih (h.put_undef _ _)
theorem a5q {s:Nat}:∀{l:List Oper} {st:St κ El},(∀o∈l,o.dst≠some s)→slot (n9 st l) s=slot st s:=by
 intro l
 induction l with
 |nil=>intros;rfl
 |cons o l ih=>
  intro st h;rw[n9,ih (fun o ho=>h o (by simp[ho])),t7,yah (h o (by simp))]
def a4b (all:List Oper) (ctx:Option (Nat×Bool)) (os:List Oper) (st:St κ El):Prop:=
 match ctx with
 |none=>True
 |some (gi,w)=>∃g,(all[gi]?).bind (·.dst)=some g∧slot st g=.bool w∧∀o∈os,o.dst≠some g
theorem a4b.guard {all:List Oper} {ctx:Option (Nat×Bool)} {os:List Oper} {st C:St κ El} (h:a4b all ctx os st) (hs:Sub st C) (hg:o.guard=ctx):u1 all o C true:=by
 unfold u1;rw[hg];unfold a4b at h;cases ctx with
 |none=>rfl
 |some p=>
  obtain ⟨gi,w⟩:=p;obtain ⟨g,h1,h2,h3⟩:=h;exact ⟨g,h1,hs.opd_eq (x:=.tmp g) h2 (by simp)⟩
theorem a4b.next {all:List Oper} {ctx:Option (Nat×Bool)} {os os':List Oper} {st st':St κ El} (h:a4b all ctx os st) (hsub:∀o∈os',o∈os) (he:∀s,(∀o∈os,o.dst≠some s)→slot st' s=slot st s):a4b all ctx os' st':=by
 unfold a4b at *;cases ctx with
 |none=>trivial
 |some p=>
  obtain ⟨gi,w⟩:=p;obtain ⟨g,h1,h2,h3⟩:=h;exact ⟨g,h1,(he g h3).trans h2,fun o ho=>h3 o (hsub o ho)⟩
theorem b6w (G:GoodP P S) (cn:f7 call) (cok:j7 P S call) {p:Oper} {c:Nat} {x y:Operand} (hp:p.op=.pick (.tmp c) x y) {C:St κ El} (hs:Sub st C) {t v:Bool} (ht:slot st c=.bool t) (hv:opd st (bif t then x else y)=.bool v) (i:Nat) (r:R) :
 ∃C1,Sub (put st p.dst (.bool v)) C1∧c5e P S p C C1 ⟨i,[],[]⟩:=by
 classical
 have h:aop P S call false p st (fun s=>if s=put st p.dst (.bool v) then some r else none)=some r:=by
  unfold aop;have ht':opd st (.tmp c)=.bool t:=ht;simp only[hp,ht'];cases t with
  |true=>simp only[yai]at hv ⊢;rw[hv];simp
  |false=>simp only[yas]at hv ⊢;rw[hv];simp
 obtain ⟨st',C1,hk,hsub,hl,-⟩:=b92 G cn cok h hs i;have e:st'=put st p.dst (.bool v):=by
  by_cases he:st'=put st p.dst (.bool v)
  ·exact he
  ·rw[yah he]at hk;cases hk
 subst e;refine ⟨C1,hsub,?_⟩;have:d5 p st i=⟨i,[],[]⟩:=by unfold d5;simp only[hp]
 rw[←this];exact hl
theorem b33 {o:Oper} {v:Bool} {d:Nat} {l:List Oper} {st C:St κ El} (h:Sub (put st (some d) (.bool v)) C):Sub (put (n9 st l) (some d) (.bool v)) C:=by
 refine Sub.trans ?_ h;exact (Sub.undefs_left (Sub.refl st)).put_same _ _
theorem c1o (G:GoodP P S) (cn:f7 call) (cok:j7 P S call) {all:List Oper}:∀(n:Nat) {ctx:Option (Nat×Bool)} {os:List Oper} {i:Nat} {fp:List Foot} {st C:St κ El} {k:St κ El→List Foot→Option R},
 a9r P S call all n ctx os i fp st k=some r→Sub st C→a4b all ctx os st→∃st' fp' C',k st' fp'=some r∧Sub st' C'∧Fl P S all i os C fp C' fp'∧(∀s,(∀o∈os,o.dst≠some s)→slot st' s=slot st s):=by
 intro n
 induction n with
 |zero=>intro ctx os i fp st C k h;cases h
 |succ n ih=>
  intro ctx os i fp st C k h hs hc;cases os with
  |nil=>exact ⟨st,fp,C,h,hs,.nil _ _ _,fun _ _=>rfl⟩
  |cons o os=>
   simp only[a9r]at h;rw[c6]at h;split at h
   ·rename_i hg;have hg:=a67 hg;obtain ⟨st1,C1,hk,hs1,hl,hfr⟩:=b92 G cn cok h hs i;have hc1:a4b all ctx os st1:=hc.next (fun o ho=>by simp[ho]) (fun s hs'=>hfr s (hs' o (by simp)));obtain ⟨st',fp',C',hk',hs',hfl,hfr'⟩:=ih hk hs1 hc1;exact ⟨st',fp',C',hk',hs',.run _ _ _ _ _ _ _ _ _ (hc.guard hs hg) (a66 (j:=0)).2.2 hl hfl,fun s hs'=>(hfr' s (fun o' ho'=>hs' o' (by simp[ho']))).trans (hfr s (hs' o (by simp)))⟩
   ·split at h
    ·cases h
    ·rename_i gi w hgd;split at h
     ·rename_i seg p rest hsp;obtain ⟨hos,hpg⟩:=b3z hsp;have hpg:=hpg p rest rfl;split at h
      ·rename_i c x y d g hpo hpd hall;rw[c6]at h;split at h
       rotate_left
       ·cases h
       rename_i hchk;simp only[yab,yav]at hchk;obtain ⟨rfl,hcalm,hnd,hskip⟩:=hchk;have hnd':∀o'∈o::seg,o'.dst≠some c:=fun o' ho'=>a2i (yae.1 hnd o' ho')
       split at h
       rotate_left
       ·cases h
       rename_i gv hgv;have hsl:slot st c=.bool gv:=hgv;have hlist:o::os=(o::seg)++p::rest:=by rw[hos];rfl
       have active:∀{st1:St κ El} {C1:St κ El} {fp1:List Foot} {t v:Bool},Fl P S all i (o::seg) C fp C1 fp1→Sub st1 C1→slot st1 c=.bool t→opd st1 (bif t then x else y)=.bool v→(∀s,(∀o'∈o::seg,o'.dst≠some s)→slot st1 s=slot st s)→
        a9r P S call all n ctx rest (i+seg.length+2) fp1 (put (n9 st1 (o::seg)) (some d) (.bool v)) k=some r→
        ∃st' fp' C',k st' fp'=some r∧Sub st' C'∧Fl P S all i (o::os) C fp C' fp'∧(∀s,(∀o'∈o::os,o'.dst≠some s)→slot st' s=slot st s):=by
        intro st1 C1 fp1 t v hfl1 hs1 ht hv hfr1 hrest;obtain ⟨C2,hs2,hl2⟩:=b6w G cn cok hpo hs1 ht hv (i+seg.length+1) r;rw[hpd]at hs2;have hs3:=b33 (o:=o) (l:=o::seg) hs2;have hfr2:∀s,(∀o'∈o::os,o'.dst≠some s)→slot (put (n9 st1 (o::seg)) (some d) (.bool v)) s=slot st s:=by
         intro s hs';rw[hlist]at hs';have hd:¬(some d=some s):=fun e=>hs' p (by simp) (by rw[hpd];exact e)
         rw[t7,yah hd,a5q (fun o' ho'=>hs' o' (yaJ _ ho')),hfr1 s (fun o' ho'=>hs' o' (yaJ _ ho'))]
        have hc3:a4b all ctx rest (put (n9 st1 (o::seg)) (some d) (.bool v)):=hc.next (fun o' ho'=>by rw[hlist];simp[ho']) hfr2;obtain ⟨st',fp',C',hk',hs',hfl',hfr'⟩:=ih hrest hs3 hc3;refine ⟨st',fp',C',hk',hs',?_,fun s hs'=>?_⟩
        ·rw[hlist];refine hfl1.append (j:=i+seg.length+1) (by simp;omega) ?_;refine .quiet _ _ _ _ C2 _ _ _ ((hc.next (os':=[p]) (st':=st1) (fun o' ho'=>by rw[hlist];simp at ho';simp[ho']) (fun s hs'=>?_)).guard hs1 hpg) hl2 ?_
         ·exact hfr1 s (fun o' ho'=>hs' o' (by rw[hlist];exact yaJ _ ho'))
         ·exact hfl'
        ·rw[hfr' s (fun o' ho'=>hs' o' (by rw[hlist];simp[ho'])),hfr2 s hs']
       have taken:∀{z:Operand},slot st c=.bool w→(z=bif w then x else y)→
        a9r P S call all n (some (gi,w)) (o::seg) i fp st (fun st' fp'=>match opd st' z with | .bool v=>a9r P S call all n ctx rest (i+seg.length+2) fp' (put (n9 st' (o::seg)) (some d) (.bool v)) k|_=>none)=some r→
        ∃st' fp' C',k st' fp'=some r∧Sub st' C'∧Fl P S all i (o::os) C fp C' fp'∧(∀s,(∀o'∈o::os,o'.dst≠some s)→slot st' s=slot st s):=by
        intro z hw hz h1;obtain ⟨st1,fp1,C1,hk1,hs1,hfl1,hfr1⟩:=ih h1 hs ⟨c,hall,hw,hnd'⟩;split at hk1
        ·rename_i v hv;exact active hfl1 hs1 ((hfr1 c hnd').trans hw) (by rw[←hz];exact hv) hfr1 hk1
        ·cases hk1
       have left:∀{z:Operand},slot st c=.bool (!w)→(z=bif !w then x else y)→
        (match opd (n9 st (o::seg)) z with | .bool v=>a9r P S call all n ctx rest (i+seg.length+2) fp (put (n9 st (o::seg)) (some d) (.bool v)) k|_=>none)=some r→
        ∃st' fp' C',k st' fp'=some r∧Sub st' C'∧Fl P S all i (o::os) C fp C' fp'∧(∀s,(∀o'∈o::os,o'.dst≠some s)→slot st' s=slot st s):=by
        intro z hw hz h1;split at h1
        ·rename_i v hv;have hcg:slot C c=.bool (!w):=hs.opd_eq (x:=.tmp c) hw (by simp);have hfr1:∀s,(∀o'∈o::seg,o'.dst≠some s)→slot (n9 st (o::seg)) s=slot st s:=fun s hs'=>a5q hs'
         have hs1:Sub (n9 st (o::seg)) (b9t C (o::seg)):=a9g hs;obtain ⟨C2,hs2,hl2⟩:=b6w G cn cok hpo hs1 ((hfr1 c hnd').trans hw) (by rw[←hz];exact hv) (i+seg.length+1) r;rw[hpd]at hs2;have hfr2:∀s,(∀o'∈o::os,o'.dst≠some s)→slot (put (n9 st (o::seg)) (some d) (.bool v)) s=slot st s:=by
          intro s hs';rw[hlist]at hs';have hd:¬(some d=some s):=fun e=>hs' p (by simp) (by rw[hpd];exact e)
          rw[t7,yah hd,hfr1 s (fun o' ho'=>hs' o' (yaJ _ ho'))]
         have hc3:a4b all ctx rest (put (n9 st (o::seg)) (some d) (.bool v)):=hc.next (fun o' ho'=>by rw[hlist];simp[ho']) hfr2;obtain ⟨st',fp',C',hk',hs',hfl',hfr'⟩:=ih h1 hs2 hc3;refine ⟨st',fp',C',hk',hs',?_,fun s hs'=>?_⟩
         ·rw[hlist];refine (b9u (fp:=fp) hall hcg hnd hskip (fun d hd=>by cases hd)).append (j:=i+seg.length+1) (by simp;omega) ?_;refine .quiet _ _ _ _ C2 _ _ _ ((hc.next (os':=[p]) (st':=n9 st (o::seg)) (fun o' ho'=>by rw[hlist];simp at ho';simp[ho']) (fun s hs'=>?_)).guard hs1 hpg) hl2 ?_
          ·exact hfr1 s (fun o' ho'=>hs' o' (by rw[hlist];exact yaJ _ ho'))
          ·exact hfl'
         ·rw[hfr' s (fun o' ho'=>hs' o' (by rw[hlist];simp[ho'])),hfr2 s hs']
        ·cases h1
       cases w with
       |true=>
        simp only[c6]at h;split at h
        ·rename_i hgt;subst hgt;exact taken hsl rfl h
        ·rename_i hgt;have hgt:gv=false:=by simpa using hgt
         subst hgt;exact left hsl rfl h
       |false=>
        simp only[c6]at h;split at h
        ·rename_i hgt;subst hgt;exact left hsl rfl h
        ·rename_i hgt;have hgt:gv=false:=by simpa using hgt
         subst hgt;exact taken hsl rfl h
      ·cases h
     ·cases h
end
end
section
section
variable {κ:Type} {El:κ→Type} {S:Sg κ El} {P:Program}
variable {st:St κ El} {R:Type} [KdEq κ]
variable {o:Oper} {c:Cx} {g:Gh} {a:Act} {w:World}
theorem Rel.drew (h:Rel S c st g a w) (n:Nat):Rel S c st g a {w with drawn:=n}:=by
 have le:Le w g {w with drawn:=n} g:=⟨fun b o hi=>⟨rfl,hi⟩,fun b o hj=>⟨rfl,hj⟩,fun _ _ h=>h,fun _ h=>h,fun _ _=>yal _,fun _ _ _ _ _ h=>h,fun _ _=>rfl⟩
 refine h.step (M:=fun _=>False) (w':={w with drawn:=n}) (g':=g) ?_ h.nt h.df (fun s d hs=>(h.env s d hs).mono le) (fun b cs hb=>.inl ⟨hb,fun _ _ h=>h⟩) h.bd
  (fun n A hA=>.inl ⟨hA,fun _=>rfl,rfl,fun _ _ h=>h,fun _ _ _ h=>h⟩) h.ad
 exact ⟨yal _,rfl,rfl,rfl,fun b _ _=>⟨rfl,rfl⟩,fun b h=>h.elim,fun b o hi=>⟨hi,fun _=>rfl⟩,fun b o hi _=>.inl hi,h.ib,h.ol,
  fun b o=>⟨.inr,fun hh=>hh.elim (h.ij b o) id⟩,fun _ _ h=>h,fun _ h=>h,fun _ _=>yal _,fun _ _ _ _ _ h=>h,fun _ _=>rfl,fun _ h=>h⟩
theorem a9b (h:Rel S c st g a w) (s:Nat):VR S w g (a.tmps.getD s undef) (slot st s):=h.opd (.tmp s)
theorem a3v (h:Rel S c st g a w) {ops:Array Oper} {j d:Nat} {b:Bool} (hd:(ops.toList[j]?).bind (·.dst)=some d) (hs:slot st d=.bool b):yielded ops a.tmps j=some b:=by
 have hv:=a9b h d;rw[hs]at hv;have e:=hv.bool_inv;rw[yan]at hd;unfold yielded;rw[hd];simp only[ya9];rcases ya4 d a.tmps.size with hlt|hge
 ·rw[yaT,yag hlt,Option.getD_some]at e;rw[yag hlt,e]
 ·rw[yaT,Array.getElem?_eq_none hge]at e;cases e
theorem VR.tup0 {v:Value} (h:VR S w g v (.tup [])):v=.tuple #[]:=by
 obtain ⟨vs,rfl,hs,_⟩:=h.tup_inv;have:vs = #[]:=by simpa using hs
 rw[this]
theorem a9j (h:Rel S c st g a w) {ops:Array Oper} {j d:Nat} (hd:(ops.toList[j]?).bind (·.dst)=some d) (hs:slot st d=.tup []):yielded ops a.tmps j=none:=by
 have hv:=a9b h d;rw[hs]at hv;have e:=hv.tup0;rw[yan]at hd;unfold yielded;rw[hd];simp only[ya9];rcases ya4 d a.tmps.size with hlt|hge
 ·rw[yaT,yag hlt,Option.getD_some]at e;rw[yag hlt,e]
 ·rw[Array.getElem?_eq_none hge]
theorem a9h (h:Rel S c st g a w) {ops:Array Oper} {b:Bool} (hg:u1 ops.toList o st b):Region.wanted o (yielded ops a.tmps)=b:=by
 unfold u1 at hg;unfold Region.wanted;cases ho:o.guard with
 |none=>rw[ho]at hg;cases b<;>simp_all
 |some p=>
  obtain ⟨j,x⟩:=p;rw[ho]at hg;cases b with
  |true=>
   obtain ⟨d,hd,hs⟩:=hg;simp only[a3v h hd hs];simp
  |false=>
   obtain ⟨d,hd,hs|hs⟩:=hg
   ·simp only[a3v h hd hs];cases x<;>decide
   ·simp only[a9j h hd hs];cases x<;>decide
theorem Dlt.sub {dst:Option Nat} {wr:List (Nat×Nat)} {C C1 σ σ':St κ El} (h:Dlt dst wr C C1 σ σ') (hs:Sub C σ):Sub C1 σ' where
 env:=fun s=>by
  by_cases hd:dst=some s
  ·rcases h.dst s hd with h1|h1
   ·exact .inl (a5p h1)
   ·exact .inr (m3 h1)
  ·rw[m3 (h.env s hd).1,m3 (h.env s hd).2];exact hs.env s
 bx:=fun b=>by
  by_cases hb:(0,b)∈wr
  ·exact h.bxw b hb
  ·rw[(h.bxk b hb).1,(h.bxk b hb).2];exact hs.bx b
 ar:=fun n=>by
  by_cases hn:(1,n)∈wr
  ·exact h.arw n hn
  ·rw[(h.ark n hn).1,(h.ark n hn).2];exact hs.ar n
def a1k (P:Program) (S:Sg κ El) (all:List Oper) (o:Oper) (C C1:St κ El) (f:Foot):Prop:=
 (u1 all o C true∧c5e P S o C C1 f)∨(u1 all o C false∧C1=put C o.dst (.tup [])∧f.wr=[])
theorem a1k.wp {ops:Array Oper} {C C1:St κ El} {f:Foot} (h:a1k P S ops.toList o C C1 f) {i:Nat} (hi:ops[i]?=some o) {σ:St κ El}
 (hag:Agr (f.rd++f.wr) (looks o) C σ) (hgd:∀j x,o.guard=some (j,x)→∀d,(ops.toList[j]?).bind (·.dst)=some d→slot C d=.undef∨slot σ d=slot C d) (hr:Rel S c σ g a w) (hd:∀t,o.dst=some t→t<c.nt) :
 ∃σ',Dlt o.dst f.wr C C1 σ σ'∧∀{K:Act→World→Prop} {Q:Exit→Act→World→Prop},(∀g' a' w',Rel S c σ' g' a' w'→K a' w')→wpOp P ops Q i K a w:=by
 have hgi:∀b,u1 ops.toList o C b→u1 ops.toList o σ b:=by
  intro b hb;unfold u1 at *;cases ho:o.guard with
  |none=>rw[ho]at hb;exact hb
  |some p=>
   obtain ⟨j,x⟩:=p;rw[ho]at hb;cases b with
   |true=>
    obtain ⟨d,h1,h2⟩:=hb;rcases hgd j x ho d h1 with h3|h3
    ·rw[h3]at h2;cases h2
    ·exact ⟨d,h1,by rw[h3,h2]⟩
   |false=>
    obtain ⟨d,h1,h2⟩:=hb;rcases hgd j x ho d h1 with h3|h3
    ·rcases h2 with h2|h2<;>(rw[h3]at h2;cases h2)
    ·exact ⟨d,h1,by rw[h3];exact h2⟩
 rcases h with ⟨hg,hl⟩|⟨hg,rfl,hw⟩
 ·obtain ⟨σ',hD,hop⟩:=hl σ hag;refine ⟨σ',hD,fun {K Q} hK=>?_⟩;unfold wpOp;simp only[hi,a9h hr (hgi true hg),ybr];exact .inl (hop c g a w hr hd K Q hK)
 ·refine ⟨put σ o.dst (.tup []),?_,fun {K Q} hK=>?_⟩
  ·rw[hw];exact .put (.inr rfl) (fun s=>⟨rfl,rfl⟩) (fun b hb=>by cases hb) (fun b _=>⟨rfl,rfl⟩) (fun b hb=>by cases hb) (fun b _=>⟨rfl,rfl⟩)
  ·unfold wpOp;simp only[hi,a9h hr (hgi false hg),ya3,if_false];exact hK g _ w (hr.put (.data (.tup #[] [] rfl (fun i v d h1 h2=>by simp at h2))) hd)
theorem Fl.steps {all:List Oper} {i:Nat} {os:List Oper} {C C':St κ El} {fp fp':List Foot} (h:Fl P S all i os C fp C' fp') :
 ∃Cs:Nat→St κ El,∃fs:Nat→Foot,Cs i=C∧Cs (i+os.length)=C'∧(∀f∈fp,f∈fp')∧
  ∀(j:Nat) o,os[j]?=some o→a1k P S all o (Cs (i+j)) (Cs (i+j+1)) (fs (i+j))∧(((fs (i+j)).i=i+j∧fs (i+j)∈fp')∨((fs (i+j)).wr=[]∧(fs (i+j)).rd=[])):=by
 have step:∀{i:Nat} {o:Oper} {os:List Oper} {C C1 C':St κ El} {fp fp':List Foot} (f:Foot),(∀f'∈fp,f'∈fp')→a1k P S all o C C1 f→((f.i=i∧f∈fp')∨(f.wr=[]∧f.rd=[]))→
  (∃Cs:Nat→St κ El,∃fs:Nat→Foot,Cs (i+1)=C1∧Cs (i+1+os.length)=C'∧
   ∀(j:Nat) o,os[j]?=some o→a1k P S all o (Cs (i+1+j)) (Cs (i+1+j+1)) (fs (i+1+j))∧(((fs (i+1+j)).i=i+1+j∧fs (i+1+j)∈fp')∨((fs (i+1+j)).wr=[]∧(fs (i+1+j)).rd=[])))→
  ∃Cs:Nat→St κ El,∃fs:Nat→Foot,Cs i=C∧Cs (i+(o::os).length)=C'∧(∀f∈fp,f∈fp')∧
   ∀(j:Nat) o',(o::os)[j]?=some o'→a1k P S all o' (Cs (i+j)) (Cs (i+j+1)) (fs (i+j))∧(((fs (i+j)).i=i+j∧fs (i+j)∈fp')∨((fs (i+j)).wr=[]∧(fs (i+j)).rd=[])):=by
  intro i o os C C1 C' fp fp' f hfp hst hf ⟨Cs,fs,h1,h2,h3⟩;refine ⟨fun n=>if n=i then C else Cs n,fun n=>if n=i then f else fs n,by simp,?_,hfp,fun j o' hj=>?_⟩
  ·have:¬(i+(o::os).length=i):=by simp
   simp only[yah this];rw[←h2];congr 1;simp;omega
  ·cases j with
   |zero=>
    simp only[yaj,yaf]at hj;subst hj;have e:¬(i+0+1=i):=by omega
    simp only[yaW,ybr,yah e]at *;rw[h1];exact ⟨hst,hf⟩
   |succ j=>
    simp only[yaw]at hj;have:=h3 j o' hj;have e1:i+1+j=i+(j+1):=by omega
    rw[e1]at this;have e2:¬(i+(j+1)=i):=by omega
    have e3:¬(i+(j+1)+1=i):=by omega
    simp only[yah e2,yah e3];exact this
 induction h with
 |nil i C fp=>exact ⟨fun _=>C,fun _=>⟨0,[],[]⟩,rfl,rfl,fun f h=>h,fun j o h=>by simp at h⟩
 |run i o os C C1 C' fp f fp' hg hi hl h ih=>
  obtain ⟨Cs,fs,h1,h2,h3,h4⟩:=ih;exact step f (fun f' hf'=>h3 f' (by simp[hf'])) (.inl ⟨hg,hl⟩) (.inl ⟨hi,h3 f (by simp)⟩) ⟨Cs,fs,h1,h2,h4⟩
 |quiet i o os C C1 C' fp fp' hg hl h ih=>
  obtain ⟨Cs,fs,h1,h2,h3,h4⟩:=ih;exact step ⟨i,[],[]⟩ h3 (.inl ⟨hg,hl⟩) (.inr ⟨rfl,rfl⟩) ⟨Cs,fs,h1,h2,h4⟩
 |skip i o os C C' fp fp' hg h ih=>
  obtain ⟨Cs,fs,h1,h2,h3,h4⟩:=ih;exact step ⟨i,[],[]⟩ h3 (.inr ⟨hg,rfl,rfl⟩) (.inr ⟨rfl,rfl⟩) ⟨Cs,fs,h1,h2,h4⟩
theorem Fl.order {ops:Array Oper} {Q:Exit→Act→World→Prop} {Cs:Nat→St κ El} {fs:Nat→Foot}
 (hst:∀(j:Nat) o,ops[j]?=some o→a1k P S ops.toList o (Cs j) (Cs (j+1)) (fs j)) (hd:∀(j:Nat) o,ops[j]?=some o→∀t,o.dst=some t→t<c.nt) :
 ∀(m i:Nat),i+m=ops.size→∀{σ:St κ El} {g:Gh} {a:Act} {w:World},Sub (Cs i) σ→Rel S c σ g a w→(∀g' a' w',Rel S c (Cs ops.size) g' a' w'→Q .normal a' w')→wpOps P ops Q (List.range' i m) a w:=by
 intro m
 induction m with
 |zero=>
  intro i hi σ g a w hs hr hQ;have:i=ops.size:=by omega
  subst this;exact hQ g a w (hr.weaken hs)
 |succ m ih=>
  intro i hi σ g a w hs hr hQ;rw[List.range'_succ,wpOps_cons];have hlt:i<ops.size:=by omega
  have hio:ops[i]?=some ops[i]:=yag hlt;obtain ⟨σ',hD,hwp⟩:=(hst i _ hio).wp hio (hs.agr _ _) (fun j x _ d _=>hs.env d) hr (hd i _ hio);exact hwp (fun g' a' w' hr'=>ih (i+1) (by omega) (hD.sub hs) hr' hQ)
end
end
section
section cur
variable {α:Type} {n:Nat} {wrt:Nat→Prop} {v:Nat→α} {Rr:α→α→Prop}
def Cur (n:Nat) (wrt:Nat→Prop) (v:Nat→α) (Rr:α→α→Prop) (L:Nat→Prop) (x:α):Prop:=
 (∃i,i<n∧L i∧wrt i∧(∀j,i<j→j<n→L j→¬wrt j)∧Rr (v (i+1)) x)∨((∀j,j<n→L j→¬wrt j)∧Rr (v 0) x)
theorem a0r (hv:∀i,i<n→¬wrt i→v (i+1)=v i):∀(d i:Nat),i+d≤n→(∀j,i≤j→j<i+d→¬wrt j)→v (i+d)=v i:=by
 intro d
 induction d with
 |zero=>intros;rfl
 |succ d ih=>
  intro i hi h;rw[←ih i (by omega) (fun j h1 h2=>h j h1 (by omega))];exact hv (i+d) (by omega) (h (i+d) (by omega) (by omega))
theorem Cur.read (hv:∀i,i<n→¬wrt i→v (i+1)=v i) {L:Nat→Prop} {x:α} (h:Cur n wrt v Rr L x) {i:Nat} (hi:i≤n) (hL:¬L i) (hlt:∀j,j<i→wrt j→L j) (hgt:∀j,i<j→j<n→L j→¬wrt j):Rr (v i) x:=by
 rcases h with ⟨k,hk,hLk,hwk,hmax,hx⟩|⟨hno,hx⟩
 ·have hki:k<i:=by
   rcases Nat.lt_trichotomy k i with h1|h1|h1
   ·exact h1
   ·subst h1;exact absurd hLk hL
   ·exact absurd hwk (hgt k h1 hk hLk)
  have:=a0r hv (i-(k+1)) (k+1) (by omega) (fun j h1 h2 hw=>hmax j (by omega) (by omega) (hlt j (by omega) hw) hw);rw[show k+1+(i-(k+1))=i by omega]at this;rw[this];exact hx
 ·have:=a0r hv i 0 (by omega) (fun j h1 h2 hw=>hno j (by omega) (hlt j (by omega) hw) hw);rw[yaH]at this;rw[this];exact hx
theorem Cur.last (hv:∀i,i<n→¬wrt i→v (i+1)=v i) {L:Nat→Prop} {x:α} (h:Cur n wrt v Rr L x) (hall:∀j,j<n→L j):Rr (v n) x:=by
 rcases h with ⟨k,hk,hLk,hwk,hmax,hx⟩|⟨hno,hx⟩
 ·have:=a0r hv (n-(k+1)) (k+1) (by omega) (fun j h1 h2 hw=>hmax j (by omega) (by omega) (hall j (by omega)) hw);rw[show k+1+(n-(k+1))=n by omega]at this;rw[this];exact hx
 ·have:=a0r hv n 0 (by omega) (fun j h1 h2 hw=>hno j (by omega) (hall j (by omega)) hw);rw[yaH]at this;rw[this];exact hx
theorem Cur.write {L L':Nat→Prop} {x':α} {i:Nat} (hi:i<n) (hL':∀j,L' j↔L j∨j=i) (hw:wrt i) (hgt:∀j,i<j→j<n→L j→¬wrt j) (hx:Rr (v (i+1)) x'):Cur n wrt v Rr L' x':=
 .inl ⟨i,hi,(hL' i).2 (.inr rfl),hw,fun j h1 h2 h3=>((hL' j).1 h3).elim (fun h=>hgt j h1 h2 h) (fun h=>by omega),hx⟩
theorem Cur.keep {L L':Nat→Prop} {x x':α} {i:Nat} (hL':∀j,L' j↔L j∨j=i) (hw:¬wrt i) (h:Cur n wrt v Rr L x) (hx:x'=x):Cur n wrt v Rr L' x':=by
 subst hx;rcases h with ⟨k,hk,hLk,hwk,hmax,hx⟩|⟨hno,hx⟩
 ·exact .inl ⟨k,hk,(hL' k).2 (.inl hLk),hwk,fun j h1 h2 h3=>((hL' j).1 h3).elim (fun h=>hmax j h1 h2 h) (fun h=>by subst h;exact hw),hx⟩
 ·exact .inr ⟨fun j h1 h2=>((hL' j).1 h2).elim (fun h=>hno j h1 h) (fun h=>by subst h;exact hw),hx⟩
theorem Cur.start {L:Nat→Prop} {x:α} (h:∀j,¬L j) (hx:Rr (v 0) x):Cur n wrt v Rr L x:=.inr ⟨fun j _ hj=>absurd hj (h j),hx⟩
end cur
theorem b1j:∀(l:List Oper) (acc:List Nat) (j:Nat),j<acc.length→(a7z acc l)[j]?=acc[j]?:=by
 intro l
 induction l with
 |nil=>intro acc j _;rfl
 |cons o l ih=>intro acc j hj;simp only[a7z];rw[ih _ _ (by simp;omega),yar hj]
theorem b8o {acc:List Nat} {i:Nat}:∀(l:List Edge) (s:Nat),(l.foldl (fun s e=>bif Region.binds .any e then s ||| 2 ^ e.on ||| acc.getD e.on 0 else s) s).testBit i=true→
 s.testBit i=true∨∃e∈l,Region.binds .any e=true∧(i=e.on∨(acc.getD e.on 0).testBit i=true):=by
 intro l
 induction l with
 |nil=>intro s h;exact .inl h
 |cons e l ih=>
  intro s h;rcases ih _ h with h1|⟨e',he',h1⟩
  ·simp only[c6]at h1;split at h1
   ·rename_i hb;simp only[Nat.testBit_or,yaO,Nat.testBit_two_pow,yac]at h1;rcases h1 with (h1|h1)|h1
    ·exact .inl h1
    ·exact .inr ⟨e,by simp,hb,.inl h1.symm⟩
    ·exact .inr ⟨e,by simp,hb,.inr h1⟩
   ·exact .inl h1
  ·exact .inr ⟨e',by simp[he'],h1⟩
theorem b77:∀(l:List Oper) (acc:List Nat) (j:Nat) (o:Oper),l[j]?=some o→∀i,((a7z acc l).getD (acc.length+j) 0).testBit i=true→
 ∃e∈o.after,Region.binds .any e=true∧(i=e.on∨(((a7z acc l).take (acc.length+j)).getD e.on 0).testBit i=true):=by
 intro l
 induction l with
 |nil=>intro acc j o h;simp at h
 |cons o l ih=>
  intro acc j o' hj i hb;simp only[a7z]at hb ⊢;generalize hx:(o.after.toList.foldl (fun s e=>bif Region.binds .any e then s ||| 2 ^ e.on ||| acc.getD e.on 0 else s) 0)=x at hb ⊢;cases j with
  |zero=>
   simp only[yaj,yaf]at hj;subst hj;have e1:(a7z (acc++[x]) l).getD (acc.length+0) 0=x:=by
    rw[ya8,b1j _ _ _ (by simp),yaW,yax (yal _)];simp
   rw[e1,←hx]at hb;rcases b8o _ _ hb with h1|⟨e,he,hbd,h1⟩
   ·simp at h1
   ·refine ⟨e,by simpa using he,hbd,h1.imp id (fun h2=>?_)⟩;have ht:(a7z (acc++[x]) l).take (acc.length+0)=acc:=by
     apply List.ext_getElem?;intro m;rw[yaN];by_cases hm:m<acc.length
     ·rw[yaq (by omega),b1j _ _ _ (by simp;omega),yar hm]
     ·rw[yah (by omega),List.getElem?_eq_none (by omega)]
    rw[ht];exact h2
  |succ j=>
   simp only[yaw]at hj;have e1:acc.length+(j+1)=(acc++[x]).length+j:=by simp;omega
   rw[e1]at hb ⊢;exact ih (acc++[x]) j o' hj i hb
theorem a3t {all:List Oper} {bef:List Nat} {j:Nat} {y:Oper}:∀{l:List Oper} {i:Nat},a5o all bef j y i l=true→∀(m:Nat) x,l[m]?=some x→i+m<j→(bef.getD j 0).testBit (i+m)=true∨b1g all x y=true:=by
 intro l
 induction l with
 |nil=>intro i _ m x h;simp at h
 |cons z l ih=>
  intro i h m x hm hlt;simp only[a5o,yaO,yab,Nat.ble_eq]at h;rcases h with h|⟨h1,h2⟩
  ·omega
  ·cases m with
   |zero=>simp only[yaj,yaf]at hm;subst hm;simpa using h1
   |succ m=>
    simp only[yaw]at hm;have:=ih h2 m x hm (by omega);rw[show i+1+m=i+(m+1) by omega]at this;exact this
theorem e9 {all:List Oper} {bef:List Nat}:∀{l:List Oper} {j:Nat},a39 all bef j l=true→∀(m:Nat) y,l[m]?=some y→(∀e∈y.after,Region.binds .any e=true→e.on<j+m)∧a5o all bef (j+m) y 0 all=true:=by
 intro l
 induction l with
 |nil=>intro j _ m y h;simp at h
 |cons z l ih=>
  intro j h m y hm;simp only[a39,yab]at h;cases m with
  |zero=>
   simp only[yaj,yaf]at hm;subst hm;refine ⟨fun e he hb=>?_,h.1.2⟩;have:=yae.1 h.1.1 e (by simpa using he);simp only[hb,yaL,Bool.false_or,Nat.ble_eq]at this;omega
  |succ m=>
   simp only[yaw]at hm;have:=ih h.2 m y hm;rw[show j+1+m=j+(m+1) by omega]at this;exact this
def c41 (all:List Oper) (o:Oper) (s:Nat):Prop:=(Operand.tmp s)∈looks o∨∃j x,o.guard=some (j,x)∧(all[j]?).bind (·.dst)=some s
theorem a3s {all:List Oper} {d:Nat} {o:Oper} (h:a7i all d o=false):¬c41 all o d:=by
 unfold a7i at h;rw[ybg]at h;rintro (h1|⟨j,x,hg,hd⟩)
 ·have:=List.any_eq_false.1 h.1 _ h1;simp[a2h]at this
 ·have h2:=h.2;rw[hg]at h2;simp only[hd,a2h]at h2;simp at h2
theorem a4d {all:List Oper} {x y:Oper} (h:b1g all x y=true):(∀d,x.dst=some d→¬c41 all y d∧y.dst≠some d)∧(∀d,y.dst=some d→¬c41 all x d):=by
 unfold b1g at h;rw[yab]at h;constructor
 ·intro d hd;have h1:=h.1;rw[hd]at h1;simp only[yab,yaC]at h1;exact ⟨a3s h1.1,a2i h1.2⟩
 ·intro d hd;have h1:=h.2;rw[hd]at h1;simp only[yaC]at h1;exact a3s h1
theorem a8m {l m:List (Nat×Nat)} (h:c9u l m=true):∀p∈l,p∉m:=by
 intro p hp hm;have:=yae.1 (yae.1 h p hp) p hm;simp[a2h]at this
section
variable {κ:Type} {El:κ→Type} {S:Sg κ El} {P:Program}
variable [KdEq κ] {c:Cx}
structure Inv (ops:Array Oper) (Cs:Nat→St κ El) (fs:Nat→Foot) (L:Nat→Prop) (σ:St κ El):Prop where
 env:∀s,Cur ops.size (fun i=>∃o,ops[i]?=some o∧o.dst=some s) (fun i=>slot (Cs i) s) (fun u v=>u=.undef∨v=u) L (slot σ s)
 bx:∀b,Cur ops.size (fun i=>(0,b)∈(fs i).wr) (fun i=>b9 b (Cs i).bx) (fun u v=>v=u) L (b9 b σ.bx)
 ar:∀n,Cur ops.size (fun i=>(1,n)∈(fs i).wr) (fun i=>b9 n (Cs i).ar) (fun u v=>v=u) L (b9 n σ.ar)
def Bef (ops:Array Oper) (i j:Nat):Prop:=((a7z [] ops.toList).getD j 0).testBit i=true
theorem p6 {ops:Array Oper} (hs:a7j ops.toList=true) {L:Nat→Prop} (hL:∀(j:Nat) o,ops[j]?=some o→L j→∀e∈o.after,Region.binds .any e=true→L e.on) :
 ∀(j:Nat),j<ops.size→∀i,Bef ops i j→(∀o,ops[j]?=some o→∀e∈o.after,Region.binds .any e=true→L e.on)→L i:=by
 intro j
 induction j using Nat.strongRecOn with
 |_ j ih=>
  intro hj i hb he;have hjo:ops[j]?=some ops[j]:=yag hj;have hjl:ops.toList[j]?=some ops[j]:=by rw[yan];exact hjo
  unfold Bef at hb;obtain ⟨e,hem,hbd,h1⟩:=b77 ops.toList [] j ops[j] hjl i (by simpa using hb);have hon:=(e9 hs j ops[j] hjl).1 e hem hbd;simp only[yaH]at hon;have hLe:=he _ hjo e hem hbd;rcases h1 with rfl|h1
  ·exact hLe
  ·refine ih e.on hon (by omega) i ?_ (fun o ho e' he' hb'=>hL e.on o ho hLe e' he' hb');unfold Bef;rw[ya8,yaN,yaq (by simpa using hon),←ya8]at h1;exact h1
theorem a99 {bef:List Nat} {fp:List Foot} (h:b1t bef fp=true) {x y:Foot} (hx:x∈fp) (hy:y∈fp) (hne:x.i≠y.i):x.wr=[]∨(bef.getD x.i 0).testBit y.i=true∨(bef.getD y.i 0).testBit x.i=true∨((∀p∈x.wr,p∉y.rd)∧∀p∈x.wr,p∉y.wr):=by
 have h1:=yae.1 h x hx;simp only[yaO]at h1;rcases h1 with h1|h1
 ·exact .inl (by simpa using h1)
 ·have h2:=yae.1 h1 y hy;simp only[yaO,yab,a2h,yac]at h2;rcases h2 with ((h2|h2)|h2)|h2
  ·exact absurd h2 hne
  ·exact .inr (.inl h2)
  ·exact .inr (.inr (.inl h2))
  ·exact .inr (.inr (.inr ⟨a8m h2.1,a8m h2.2⟩))
theorem Fl.any {ops:Array Oper} {Q:Exit→Act→World→Prop} {Cs:Nat→St κ El} {fs:Nat→Foot} {fp:List Foot}
 (hst:∀(j:Nat) o,ops[j]?=some o→a1k P S ops.toList o (Cs j) (Cs (j+1)) (fs j)) (hfp:∀(j:Nat) o,ops[j]?=some o→((fs j).i=j∧fs j∈fp)∨((fs j).wr=[]∧(fs j).rd=[]))
 (hd:∀(j:Nat) o,ops[j]?=some o→∀t,o.dst=some t→t<c.nt)
 (hs:a7j ops.toList=true) (hw:b1t (a7z [] ops.toList) fp=true)
 (hve:∀i,i<ops.size→∀s,(¬∃o,ops[i]?=some o∧o.dst=some s)→slot (Cs (i+1)) s=slot (Cs i) s)
 (hvb:∀i,i<ops.size→∀b,(0,b)∉(fs i).wr→b9 b (Cs (i+1)).bx=b9 b (Cs i).bx)
 (hva:∀i,i<ops.size→∀n,(1,n)∉(fs i).wr→b9 n (Cs (i+1)).ar=b9 n (Cs i).ar)
 (hQ:∀g' a' w',Rel S c (Cs ops.size) g' a' w'→Q .normal a' w') :
 ∀(fuel:Nat) (listed:Array Bool) {σ:St κ El} {g:Gh} {a:Act} {w:World},listed.size=ops.size→((List.range ops.size).filter (fun i=>!listed.getD i true)).length≤fuel→
  (∀(j:Nat) o,ops[j]?=some o→listed.getD j false=true→∀e∈o.after,Region.binds .any e=true→listed.getD e.on false=true)→
  Inv ops Cs fs (fun i=>listed.getD i false=true) σ→Rel S c σ g a w→wpAny P .any ops Q fuel listed a w:=by
 have pair:∀{L:Nat→Prop},(∀(j:Nat) o,ops[j]?=some o→L j→∀e∈o.after,Region.binds .any e=true→L e.on)→∀{i:Nat} {oi:Oper},ops[i]?=some oi→¬L i→(∀e∈oi.after,Region.binds .any e=true→L e.on)→
  ∀{j:Nat} {oj:Oper},ops[j]?=some oj→j≠i→(Bef ops j i∧L j)∨(¬Bef ops j i∧Bef ops i j∧¬L j)∨(¬Bef ops i j∧¬Bef ops j i∧(∀d,oj.dst=some d→¬c41 ops.toList oi d∧oi.dst≠some d)):=by
  intro L hL i oi hi hLi he j oj hj hne;have hil:i<ops.size:=(yad.1 hi).1;have hjl:j<ops.size:=(yad.1 hj).1;by_cases h1:Bef ops j i
  ·exact .inl ⟨h1,p6 hs hL i hil j h1 (fun o ho=>by rw[hi]at ho;cases ho;exact he)⟩
  ·by_cases h2:Bef ops i j
   ·refine .inr (.inl ⟨h1,h2,fun hLj=>hLi (p6 hs hL j hjl i h2 (fun o ho e' he' hb'=>hL j o ho hLj e' he' hb'))⟩)
   ·refine .inr (.inr ⟨h2,h1,?_⟩);have hl1:ops.toList[i]?=some oi:=by rw[yan];exact hi
    have hl2:ops.toList[j]?=some oj:=by rw[yan];exact hj
    rcases Nat.lt_or_gt_of_ne hne with hlt|hgt
    ·have h3:=a3t (e9 hs i oi hl1).2 j oj hl2 (by omega);simp only[yaH]at h3;exact (a4d (h3.resolve_left h1)).1
    ·have h3:=a3t (e9 hs j oj hl2).2 i oi hl1 (by omega);simp only[yaH]at h3;have h4:=a4d (h3.resolve_left h2);intro d hd';refine ⟨h4.2 d hd',fun e=>(h4.1 d e).2 hd'⟩
 intro fuel
 induction fuel with
 |zero=>
  intro listed σ g a w hsz hcnt hcl hinv hr;have hall:∀j,j<ops.size→listed.getD j false=true:=by
   intro j hj;have h0:(List.range ops.size).filter (fun i=>!listed.getD i true)=[]:=yap (by omega);have:=List.filter_eq_nil_iff.1 h0 j (by simpa using hj);have hlt:j<listed.size:=by omega
   simp[hlt]at this ⊢;exact this
  refine ⟨?_,hQ g a w (hr.weaken ⟨fun s=>?_,fun b=>?_,fun n=>?_⟩)⟩
  ·apply List.eq_nil_iff_forall_not_mem.2;intro j hj;obtain ⟨h1,o,ho,-⟩:=mem_ready.1 hj;have hlt:=(yad.1 ho).1;have:=hall j hlt;have hlt':j<listed.size:=by omega
   simp[hlt']at h1 this;rw[h1]at this;cases this
  ·exact (hinv.env s).last (fun i hi h=>hve i hi s h) hall
  ·exact (hinv.bx b).last (fun i hi h=>hvb i hi b h) hall
  ·exact (hinv.ar n).last (fun i hi h=>hva i hi n h) hall
 |succ fuel ih=>
  intro listed σ g a w hsz hcnt hcl hinv hr;constructor
  ·
   intro hnil;have hall:∀j,j<ops.size→listed.getD j false=true:=by
    intro j
    induction j using Nat.strongRecOn with
    |_ j ihj=>
     intro hj;cases hl:listed.getD j false with
     |true=>rfl
     |false=>
      exfalso;have hjo:ops[j]?=some ops[j]:=yag hj;have hlt:j<listed.size:=by omega
      have:j∈Region.ready .any ops listed:=by
       rw[mem_ready];refine ⟨by simp[hlt]at hl ⊢;exact hl,ops[j],hjo,fun e he hb=>?_⟩;have hon:=(e9 hs j ops[j] (by rw[yan];exact hjo)).1 e he hb;simp only[yaH]at hon;exact ihj e.on hon (by omega)
      rw[hnil]at this;cases this
   refine hQ g a w (hr.weaken ⟨fun s=>?_,fun b=>?_,fun n=>?_⟩)
   ·exact (hinv.env s).last (fun i hi h=>hve i hi s h) hall
   ·exact (hinv.bx b).last (fun i hi h=>hvb i hi b h) hall
   ·exact (hinv.ar n).last (fun i hi h=>hva i hi n h) hall
  ·intro i hi;obtain ⟨hun,oi,hio,hedge⟩:=mem_ready.1 hi;have hil:i<ops.size:=(yad.1 hio).1;have hill:i<listed.size:=by omega
   have hnL:¬(listed.getD i false=true):=by simp[hill]at hun ⊢;exact hun
   have two:=fun {j:Nat} {oj:Oper} (hj:ops[j]?=some oj) (hne:j≠i)=>pair (L:=fun i=>listed.getD i false=true) hcl hio hnL hedge hj hne
   have slotB:∀s,(c41 ops.toList oi s∨oi.dst=some s)→(∀j,j<i→(∃o,ops[j]?=some o∧o.dst=some s)→listed.getD j false=true)∧(∀j,i<j→j<ops.size→listed.getD j false=true→¬∃o,ops[j]?=some o∧o.dst=some s):=by
    intro s hsee;constructor
    ·rintro j hj ⟨oj,hjo,hds⟩;rcases two hjo (by omega) with h1|h1|h1
     ·exact h1.2
     ·exfalso;have hjl:j<ops.size:=(yad.1 hjo).1;have:i<j:=p6 hs (L:=fun m=>m<j) (fun m o ho hm e he hb=>by
       have:=(e9 hs m o (by rw[yan];exact ho)).1 e he hb;omega) j hjl i h1.2.1 (fun o ho e he hb=>by
        have:=(e9 hs j o (by rw[yan];exact ho)).1 e he hb;omega)
      omega
     ·have h2:=h1.2.2 s hds;rcases hsee with h3|h3
      ·exact absurd h3 h2.1
      ·exact absurd h3 h2.2
    ·rintro j hj hjl hLj ⟨oj,hjo,hds⟩;rcases two hjo (by omega) with h1|h1|h1
     ·have:j<i:=p6 hs (L:=fun m=>m<i) (fun m o ho hm e he hb=>by
       have:=(e9 hs m o (by rw[yan];exact ho)).1 e he hb;omega) i hil j h1.1 (fun o ho e he hb=>by
        have:=(e9 hs i o (by rw[yan];exact ho)).1 e he hb;omega)
      omega
     ·exact h1.2.2 hLj
     ·have h2:=h1.2.2 s hds;rcases hsee with h3|h3
      ·exact absurd h3 h2.1
      ·exact absurd h3 h2.2
   have memB:∀p,(p∈(fs i).rd∨p∈(fs i).wr)→(∀j,j<i→p∈(fs j).wr→listed.getD j false=true)∧(∀j,i<j→j<ops.size→listed.getD j false=true→p∉(fs j).wr):=by
    intro p hp;have hfi:(fs i).i=i∧fs i∈fp:=by
     rcases hfp i oi hio with h1|h1
     ·exact h1
     ·rw[h1.1,h1.2]at hp;simp at hp
    have key:∀{j:Nat} {oj:Oper},ops[j]?=some oj→j≠i→p∈(fs j).wr→Bef ops j i∨Bef ops i j:=by
     intro j oj hjo hne hpj;have hfj:(fs j).i=j∧fs j∈fp:=by
      rcases hfp j oj hjo with h1|h1
      ·exact h1
      ·rw[h1.1]at hpj;cases hpj
     have:=a99 hw hfj.2 hfi.2 (by rw[hfj.1,hfi.1];exact hne);rw[hfj.1,hfi.1]at this;rcases this with h1|h1|h1|h1
     ·rw[h1]at hpj;cases hpj
     ·exact .inr h1
     ·exact .inl h1
     ·rcases hp with h2|h2
      ·exact absurd h2 (h1.1 p hpj)
      ·exact absurd h2 (h1.2 p hpj)
    constructor
    ·intro j hj hpj;have hjl:j<ops.size:=by omega
     have hjo:ops[j]?=some ops[j]:=yag hjl;rcases key hjo (by omega) hpj with h1|h1
     ·exact p6 hs hcl i hil j h1 (fun o ho=>by rw[hio]at ho;cases ho;exact hedge)
     ·exfalso;have:i<j:=p6 hs (L:=fun m=>m<j) (fun m o ho hm e he hb=>by
       have:=(e9 hs m o (by rw[yan];exact ho)).1 e he hb;omega) j hjl i h1 (fun o ho e he hb=>by
        have:=(e9 hs j o (by rw[yan];exact ho)).1 e he hb;omega)
      omega
    ·intro j hj hjl hLj hpj;have hjo:ops[j]?=some ops[j]:=yag hjl;rcases key hjo (by omega) hpj with h1|h1
     ·have:j<i:=p6 hs (L:=fun m=>m<i) (fun m o ho hm e he hb=>by
       have:=(e9 hs m o (by rw[yan];exact ho)).1 e he hb;omega) i hil j h1 (fun o ho e he hb=>by
        have:=(e9 hs i o (by rw[yan];exact ho)).1 e he hb;omega)
      omega
     ·exact hnL (p6 hs hcl j hjl i h1 (fun o ho e' he' hb'=>hcl j o ho hLj e' he' hb'))
   have rdS:∀s,c41 ops.toList oi s→slot (Cs i) s=.undef∨slot σ s=slot (Cs i) s:=fun s hsee=>
    (hinv.env s).read (fun i hi h=>hve i hi s h) (Nat.le_of_lt hil) hnL (slotB s (.inl hsee)).1 (slotB s (.inl hsee)).2
   have hag:Agr ((fs i).rd++(fs i).wr) (looks oi) (Cs i) σ:=by
    refine ⟨fun x hx=>?_,fun b hb=>?_,fun n hn=>?_⟩
    ·cases x with
     |tmp s=>exact rdS s (.inl hx)
     |_=>exact .inr rfl
    ·have:=memB (0,b) (yaA.1 hb);exact (hinv.bx b).read (fun i hi h=>hvb i hi b h) (Nat.le_of_lt hil) hnL this.1 this.2
    ·have:=memB (1,n) (yaA.1 hn);exact (hinv.ar n).read (fun i hi h=>hva i hi n h) (Nat.le_of_lt hil) hnL this.1 this.2
   obtain ⟨σ',hD,hwp⟩:=(hst i oi hio).wp hio hag (fun j x hg d hd'=>rdS d (.inr ⟨j,x,hg,hd'⟩)) hr (hd i oi hio);have hL':∀j,(listed.setIfInBounds i true).getD j false=true↔listed.getD j false=true∨j=i:=by
    intro j;by_cases hji:j=i
    ·subst hji;simp[hill]
    ·rw[getD_set_ne false (Ne.symm hji)];simp[hji]
   refine hwp (fun g' a' w' hr'=>ih (listed.setIfInBounds i true) (by simpa using hsz) ?_ (fun j o ho hj e he hb=>?_) ⟨fun s=>?_,fun b=>?_,fun n=>?_⟩ hr')
   ·
    have hlt:((List.range ops.size).filter (fun j=>!(listed.setIfInBounds i true).getD j true)).length<((List.range ops.size).filter (fun j=>!listed.getD j true)).length:=by
     have hsub:(List.range ops.size).filter (fun j=>!(listed.setIfInBounds i true).getD j true)=((List.range ops.size).filter (fun j=>!listed.getD j true)).filter (fun j=>decide (j≠i)):=by
      rw[List.filter_filter];apply List.filter_congr;intro j hj;by_cases hji:j=i
      ·subst hji;simp[hill]
      ·rw[getD_set_ne true (Ne.symm hji)];simp[hji]
     rw[hsub];apply List.length_filter_lt_length_iff_exists.2;exact ⟨i,by rw[List.mem_filter];exact ⟨by simpa using hil,by rw[hun];rfl⟩,by simp⟩
    omega
   ·rcases (hL' j).1 hj with h1|h1
    ·exact (hL' e.on).2 (.inl (hcl j o ho h1 e he hb))
    ·subst h1;rw[hio]at ho;cases ho
     exact (hL' e.on).2 (.inl (hedge e he hb))
   ·by_cases hds:oi.dst=some s
    ·refine Cur.write (L:=fun i=>listed.getD i false=true) hil hL' ⟨oi,hio,hds⟩ (slotB s (.inr hds)).2 ?_;rcases hD.dst s hds with h1|h1
     ·exact .inl (a5p h1)
     ·exact .inr (m3 h1)
    ·refine Cur.keep (L:=fun i=>listed.getD i false=true) hL' (fun ⟨o,ho,h⟩=>by rw[hio]at ho;cases ho;exact hds h) (hinv.env s) (m3 (hD.env s hds).2)
   ·by_cases hb:(0,b)∈(fs i).wr
    ·exact Cur.write (L:=fun i=>listed.getD i false=true) hil hL' hb (memB (0,b) (.inr hb)).2 (hD.bxw b hb)
    ·exact Cur.keep (L:=fun i=>listed.getD i false=true) hL' hb (hinv.bx b) (hD.bxk b hb).2
   ·by_cases hn:(1,n)∈(fs i).wr
    ·exact Cur.write (L:=fun i=>listed.getD i false=true) hil hL' hn (memB (1,n) (.inr hn)).2 (hD.arw n hn)
    ·exact Cur.keep (L:=fun i=>listed.getD i false=true) hL' hn (hinv.ar n) (hD.ark n hn).2
theorem a1k.keeps {all:List Oper} {o:Oper} {C C1:St κ El} {f:Foot} (h:a1k P S all o C C1 f) :
 (∀s,o.dst≠some s→slot C1 s=slot C s)∧(∀b,(0,b)∉f.wr→b9 b C1.bx=b9 b C.bx)∧(∀n,(1,n)∉f.wr→b9 n C1.ar=b9 n C.ar):=by
 rcases h with ⟨-,hl⟩|⟨-,rfl,hw⟩
 ·obtain ⟨σ',hD,-⟩:=hl C ((Sub.refl C).agr _ _);exact ⟨fun s hs=>m3 (hD.env s hs).1,fun b hb=>(hD.bxk b hb).1,fun n hn=>(hD.ark n hn).1⟩
 ·exact ⟨fun s hs=>by rw[t7,yah hs],fun b _=>by rw[o6],fun n _=>by rw[p9]⟩
theorem b66 {R:Type} {r:R} {call:Nat→List (D κ El)→List (List (D κ El))→(D κ El→List (List (D κ El))→Option R)→Option R} (G:GoodP P S) (cn:f7 call) (cok:j7 P S call) (hmix:P.follows .mixedOrders=true)
 {id:Nat} {ops:Array Oper} {draw:Bool} {st:St κ El} {k:St κ El→Option R}
 (h:a9r P S call ops.toList (ops.toList.length+1) none ops.toList 0 [] st (fun st' fp=>bif !draw||(b1t (a7z [] ops.toList) fp&&a7j ops.toList) then k st' else none)=some r) :
 ∃st',k st'=some r∧∀{c:Cx} {g:Gh} {a:Act} {w:World},Rel S c st g a w→(∀o∈ops.toList,∀t,o.dst=some t→t<c.nt)→
  ∀{Q:Exit→Act→World→Prop},(∀g' a' w',Rel S c st' g' a' w'→Q .normal a' w')→(Code.region id ops draw).wp P Q a w:=by
 obtain ⟨st',fp',C',hk,hsub,hfl,-⟩:=c1o G cn cok _ h (Sub.refl st) trivial;rw[c6]at hk;split at hk
 rotate_left
 ·cases hk
 rename_i hcheck;refine ⟨st',hk,fun {c g a w} hr hd {Q} hQ=>?_⟩;obtain ⟨Cs,fs,h1,h2,h3,h4⟩:=hfl.steps;simp only[yaH]at h2 h4;have hsz:ops.toList.length=ops.size:=by simp
 have hst:∀(j:Nat) o,ops[j]?=some o→a1k P S ops.toList o (Cs j) (Cs (j+1)) (fs j):=fun j o ho=>(h4 j o (by rw[yan];exact ho)).1
 have hdt:∀(j:Nat) o,ops[j]?=some o→∀t,o.dst=some t→t<c.nt:=fun j o ho=>hd o (by rw[Array.mem_toList_iff];exact Array.mem_of_getElem? ho)
 have hfin:∀g' a' w',Rel S c (Cs ops.size) g' a' w'→Q .normal a' w':=fun g' a' w' hr'=>hQ g' a' w' (hr'.weaken (by rw[←hsz,h2];exact hsub))
 cases draw with
 |false=>
  refine wp_region ?_;rw[List.range_eq_range'];exact Fl.order hst hdt ops.size 0 (by omega) (σ:=st) (by rw[h1];exact Sub.refl st) hr hfin
 |true=>
  simp only[yaL,Bool.false_or,yab]at hcheck;refine wp_region_any hmix ?_;refine Fl.any hst (fun j o ho=>(h4 j o (by rw[yan];exact ho)).2) hdt hcheck.2 hcheck.1 ?_ ?_ ?_ hfin ops.size _ (σ:=st) (by simp) ?_ ?_ ?_ (hr.drew _)
  ·intro i hi s hno;exact (hst i _ (yag hi)).keeps.1 s (fun e=>hno ⟨_,yag hi,e⟩)
  ·intro i hi b hb;exact (hst i _ (yag hi)).keeps.2.1 b hb
  ·intro i hi n hn;exact (hst i _ (yag hi)).keeps.2.2 n hn
  ·exact ybj (List.length_filter_le _ _) (by simp)
  ·intro j o ho hj;have hlt:=(yad.1 ho).1;simp[hlt]at hj
  ·have hno:∀j,¬((Array.replicate ops.size false).getD j false=true):=by
    intro j;rcases ya4 j ops.size with h|h<;>simp[h]
   exact ⟨fun s=>Cur.start hno (by rw[h1];exact .inr rfl),fun b=>Cur.start hno (by rw[h1]),fun n=>Cur.start hno (by rw[h1])⟩
end
end
section
section
variable {κ:Type} {El:κ→Type} {S:Sg κ El} {P:Program}
variable [KdEq κ]
def c1d:Ex→Exit
 |.normal=>.normal
 |.exit i=>.exit i
 |.ret=>.ret
def a1i (nt:Nat):Code→Prop
 |.region _ ops _=>∀o∈ops.toList,∀t,o.dst=some t→t<nt
 |.seq a b=>a1i nt a∧a1i nt b
 |.cond _ a b=>a1i nt a∧a1i nt b
 |.block _ c=>a1i nt c
 |.loop c=>a1i nt c
 |.scope c=>a1i nt c
 |_=>True
def b5m (nt:Nat):Code→Bool
 |.region _ ops _=>ops.toList.all fun o=>match o.dst with|some t=>Nat.ble (t+1) nt|none=>true
 |.seq a b=>b5m nt a&&b5m nt b
 |.cond _ a b=>b5m nt a&&b5m nt b
 |.block _ c=>b5m nt c
 |.loop c=>b5m nt c
 |.scope c=>b5m nt c
 |_=>true
theorem b5n {nt:Nat}:∀{c:Code},b5m nt c=true→a1i nt c:=by
 intro c
 induction c with
 |region id ops draw=>
  intro h o ho t ht;have:=yae.1 h o ho;rw[ht]at this;simpa[Nat.lt_iff_add_one_le]using this
 |seq a b iha ihb=>intro h;simp only[b5m,yab]at h;exact ⟨iha h.1,ihb h.2⟩
 |cond c a b iha ihb=>intro h;simp only[b5m,yab]at h;exact ⟨iha h.1,ihb h.2⟩
 |block id c ih=>intro h;exact ih h
 |loop c ih=>intro h;exact ih h
 |scope c ih=>intro h;exact ih h
 |_=>intro _;trivial
theorem a1i.body {nt:Nat}:∀{c b:Code},a1i nt c→b∈c8 c→a1i nt b:=by
 intro c
 induction c with
 |seq a b iha ihb=>intro b' h hb;simp only[c8,yaA]at hb;exact hb.elim (iha h.1) (ihb h.2)
 |cond c a b iha ihb=>intro b' h hb;simp only[c8,yaA]at hb;exact hb.elim (iha h.1) (ihb h.2)
 |block id c ih=>intro b h hb;exact ih h hb
 |loop c ih=>
  intro b h hb;simp only[c8,yau]at hb;rcases hb with rfl|hb
  ·exact h
  ·exact ih h hb
 |scope c ih=>intro b h hb;exact ih h hb
 |_=>intro b h hb;simp[c8]at hb
theorem y8:∀{c b b':Code},b∈c8 c→b'∈c8 b→b'∈c8 c:=by
 intro c
 induction c with
 |seq a b iha ihb=>intro x y h hb;simp only[c8,yaA]at h ⊢;exact h.imp (fun h=>iha h hb) (fun h=>ihb h hb)
 |cond c a b iha ihb=>intro x y h hb;simp only[c8,yaA]at h ⊢;exact h.imp (fun h=>iha h hb) (fun h=>ihb h hb)
 |block id c ih=>intro x y h hb;exact ih h hb
 |loop c ih=>
  intro x y h hb;simp only[c8,yau]at h ⊢;rcases h with rfl|h
  ·exact .inr hb
  ·exact .inr (ih h hb)
 |scope c ih=>intro x y h hb;exact ih h hb
 |_=>intro x y h hb;simp[c8]at h
def c84 (P:Program) (S:Sg κ El) (nt m:Nat) (code:Code) (st:St κ El) (e:Ex) (st':St κ El):Prop:=
 ∀{c:Cx} {g:Gh} {a:Act} {w:World},Rel S c st g a w→c.nt=nt→c.ar=m→∀{Q:Exit→Act→World→Prop},(∀g' a' w',Rel S c st' g' a' w'→Q (c1d e) a' w')→code.wp P Q a w
def b1c (P:Program) (S:Sg κ El) (nt m:Nat) (fn:Func) (loops:{R:Type}→Nat→St κ El→(Ex→St κ El→Option R)→Option R) (id:Nat):Prop:=
 ∀{R:Type} (st:St κ El) (k:Ex→St κ El→Option R) (r:R),loops id st k=some r→∃e st',k e st'=some r∧c84 P S nt m (.loop (j8 fn id)) st e st'
theorem b5p {nt m:Nat} {fn:Func} {loops:{R:Type}→Nat→St κ El→(Ex→St κ El→Option R)→Option R} (G:GoodP P S) (hmix:P.follows .mixedOrders=true)
 {R:Type} {call:Nat→List (D κ El)→List (List (D κ El))→(D κ El→List (List (D κ El))→Option R)→Option R} (cn:f7 call) (cok:j7 P S call) {r:R} :
 ∀{code:Code} {st:St κ El} {k:Ex→St κ El→Option R},a1i nt code→(∀b∈c8 code,j8 fn (d8 b)=b∧b1c P S nt m fn @loops (d8 b))→
  evc P S call (loops (R:=R)) code st k=some r→∃e st',k e st'=some r∧c84 P S nt m code st e st':=by
 intro code
 induction code with
 |skip=>intro st k _ _ h;exact ⟨.normal,st,h,fun {c g a w} hr _ _ {Q} hQ=>wp_skip (hQ g a w hr)⟩
 |region id ops draw=>
  intro st k hd _ h;obtain ⟨st',hk,hw⟩:=b66 G cn cok hmix h;exact ⟨.normal,st',hk,fun {c g a w} hr hnt _ {Q} hQ=>hw hr (fun o ho t ht=>by rw[hnt];exact hd o ho t ht) hQ⟩
 |seq x y ihx ihy=>
  intro st k hd hl h;simp only[evc]at h;obtain ⟨e,st1,hk,h1⟩:=ihx hd.1 (fun b hb=>hl b (by simp[c8,hb])) h;cases e with
  |normal=>
   obtain ⟨e2,st2,hk2,h2⟩:=ihy hd.2 (fun b hb=>hl b (by simp[c8,hb])) hk;exact ⟨e2,st2,hk2,fun {c g a w} hr hnt hm {Q} hQ=>wp_seq (h1 hr hnt hm (fun g' a' w' hr'=>h2 hr' hnt hm hQ))⟩
  |exit i=>exact ⟨.exit i,st1,hk,fun {c g a w} hr hnt hm {Q} hQ=>wp_seq (h1 hr hnt hm (fun g' a' w' hr'=>hQ g' a' w' hr'))⟩
  |ret=>exact ⟨.ret,st1,hk,fun {c g a w} hr hnt hm {Q} hQ=>wp_seq (h1 hr hnt hm (fun g' a' w' hr'=>hQ g' a' w' hr'))⟩
 |cond cd x y ihx ihy=>
  intro st k hd hl h;simp only[evc]at h;split at h
  ·rename_i v hv;rw[c6]at h;split at h
   ·rename_i hvt;obtain ⟨e,st1,hk,h1⟩:=ihx hd.1 (fun b hb=>hl b (by simp[c8,hb])) h;refine ⟨e,st1,hk,fun {c g a w} hr hnt hm {Q} hQ=>?_⟩;have hb:=hr.opd cd;rw[hv,hvt]at hb;exact wp_cond_true hb.bool_inv (h1 hr hnt hm hQ)
   ·rename_i hvf;have hvf:v=false:=by simpa using hvf
    obtain ⟨e,st1,hk,h1⟩:=ihy hd.2 (fun b hb=>hl b (by simp[c8,hb])) h;refine ⟨e,st1,hk,fun {c g a w} hr hnt hm {Q} hQ=>?_⟩;have hb:=hr.opd cd;rw[hv,hvf]at hb;exact wp_cond_false hb.bool_inv (h1 hr hnt hm hQ)
  ·cases h
 |block id c ih=>
  intro st k hd hl h;simp only[evc]at h;obtain ⟨e,st1,hk,h1⟩:=ih hd hl h;cases e with
  |normal=>exact ⟨.normal,st1,hk,fun {c g a w} hr hnt hm {Q} hQ=>wp_block (h1 hr hnt hm (fun g' a' w' hr'=>hQ g' a' w' hr'))⟩
  |ret=>exact ⟨.ret,st1,hk,fun {c g a w} hr hnt hm {Q} hQ=>wp_block (h1 hr hnt hm (fun g' a' w' hr'=>hQ g' a' w' hr'))⟩
  |exit j=>
   simp only[c6]at hk;split at hk
   ·rename_i hj;rw[yav]at hj;refine ⟨.normal,st1,hk,fun {c g a w} hr hnt hm {Q} hQ=>wp_block (h1 hr hnt hm (fun g' a' w' hr'=>?_))⟩;show (if j=id then Q .normal a' w' else Q (.exit j) a' w')
    rw[yaq hj];exact hQ g' a' w' hr'
   ·rename_i hj;rw[yav]at hj;refine ⟨.exit j,st1,hk,fun {c g a w} hr hnt hm {Q} hQ=>wp_block (h1 hr hnt hm (fun g' a' w' hr'=>?_))⟩;show (if j=id then Q .normal a' w' else Q (.exit j) a' w')
    rw[yah hj];exact hQ g' a' w' hr'
 |loop c ih=>
  intro st k hd hl h;simp only[evc]at h;have hc:=hl c (by simp[c8]);obtain ⟨e,st',hk,h1⟩:=hc.2 st k r h;rw[hc.1]at h1;exact ⟨e,st',hk,h1⟩
 |exit id=>intro st k _ _ h;exact ⟨.exit id,st,h,fun {c g a w} hr _ _ {Q} hQ=>wp_exit (hQ g a w hr)⟩
 |ret=>intro st k _ _ h;exact ⟨.ret,st,h,fun {c g a w} hr _ _ {Q} hQ=>wp_ret (hQ g a w hr)⟩
 |_=>intro st k _ _ h;cases h
def b1d (P:Program) (S:Sg κ El) (m:Nat) (st st':St κ El):Prop:=
 ∀{c:Cx} {g:Gh} {a:Act} {w:World},Rel S c st g a w→c.ar=m→∃g',Rel S c st' g' a w
theorem a89 {nt m:Nat} {α β:Type} {body:Code} {step:α→Option (α⊕β)} {enc:α→St κ El} {out:β→Ex×St κ El}
 (hstep:∀a x,step a=some x→match x with
  |.inl a'=>∃st',b1d P S m st' (enc a')∧c84 P S nt m body (enc a) .normal st'
  |.inr b=>∃st' e,e≠.normal∧(out b).1=e∧b1d P S m st' (out b).2∧c84 P S nt m body (enc a) e st') :
 ∀(n:Nat) {a:α} {b:β},y6 step n a=some b→∀{c:Cx} {g:Gh} {act:Act} {w:World},Rel S c (enc a) g act w→c.nt=nt→c.ar=m→
  ∀{Q:Exit→Act→World→Prop},(∀g' a' w',Rel S c (out b).2 g' a' w'→Q (c1d (out b).1) a' w')→Code.rounds P body Q n act w:=by
 intro n
 induction n with
 |zero=>intro a b h;cases h
 |succ n ih=>
  intro a b h c g act w hr hnt hm Q hQ;simp only[y6]at h;split at h
  ·rename_i a' hs;obtain ⟨st',hto,hev⟩:=hstep a _ hs;rw[rounds_succ];refine hev hr hnt hm (fun g' a'' w' hr'=>?_);obtain ⟨g2,hr2⟩:=hto hr' hm;exact ih h hr2 hnt hm hQ
  ·rename_i b' hs;simp only[yaf]at h;subst h;obtain ⟨st',e,hne,he,hto,hev⟩:=hstep a _ hs;rw[rounds_succ];refine hev hr hnt hm (fun g' a'' w' hr'=>?_);obtain ⟨g2,hr2⟩:=hto hr' hm;have:=hQ g2 a'' w' hr2;rw[he]at this;cases e with
   |normal=>exact absurd rfl hne
   |exit i=>exact this
   |ret=>exact this
  ·cases h
theorem c4c {nt m:Nat} {fn:Func} {id:Nat} {α β:Type} {loops:{R:Type}→Nat→St κ El→(Ex→St κ El→Option R)→Option R}
 {call:{R:Type}→Nat→List (D κ El)→List (List (D κ El))→(D κ El→List (List (D κ El))→Option R)→Option R}
 {pr:St κ El→Option (St κ El)} {fc:FC κ El α} {step:α→Option (α⊕β)} {outs:Ex→St κ El→Option β} {outk:{R:Type}→β→(Ex→St κ El→Option R)→Option R} (out:β→Ex×St κ El)
 (G:GoodP P S) (hmix:P.follows .mixedOrders=true) (cn:∀{R:Type},f7 (R:=R) call) (cok:∀{R:Type},j7 (R:=R) P S call)
 (hd:a1i nt (j8 fn id)) (hl:∀b∈c8 (j8 fn id),j8 fn (d8 b)=b∧b1c P S nt m fn @loops (d8 b))
 (el:∀a,evc P S call (loops (R:=α⊕β)) (j8 fn id) (fc.enc a) (b28 pr fc outs)=step a)
 (hp:∀st st1 a,pr st=some st1→fc.dec st1=some a→b1d P S m st (fc.enc a))
 (ho:∀e st b,outs e st=some b→(out b).1=e∧b1d P S m st (out b).2)
 (hk:∀{R:Type} b (k:Ex→St κ El→Option R),outk b k=k (out b).1 (out b).2)
 (heq:∀{R:Type} (st:St κ El) (k:Ex→St κ El→Option R),loops id st k=c8l pr fc step outk st k):b1c P S nt m fn @loops id:=by
 intro R st k r h;rw[heq]at h;unfold c8l at h;split at h
 ·rename_i st1 hpr;split at h
  ·rename_i a hdec;split at h
   ·rename_i b hw;rw[hk]at h;refine ⟨_,_,h,fun {c g act w} hr hnt hm {Q} hQ=>?_⟩;obtain ⟨g',hr'⟩:=hp st st1 a hpr hdec hr hm;refine wp_loop_rounds a7p (a89 (step:=step) (enc:=fc.enc) (out:=out) (fun a x hs=>?_) a7p hw hr' hnt hm hQ);rw[←el a]at hs;obtain ⟨e,st',hleaf,hev⟩:=b5p G hmix cn cok hd hl hs;cases x with
    |inl a'=>
     unfold b28 at hleaf;cases e with
     |normal=>
      simp only at hleaf;split at hleaf
      ·rename_i st2 h1;split at hleaf
       ·rename_i a2 h2;cases hleaf
        exact ⟨st',hp st' st2 a' h1 h2,hev⟩
       ·cases hleaf
      ·cases hleaf
     |exit i=>simp only at hleaf;split at hleaf<;>cases hleaf
     |ret=>simp only at hleaf;split at hleaf<;>cases hleaf
    |inr b'=>
     unfold b28 at hleaf;cases e with
     |normal=>
      simp only at hleaf;split at hleaf
      ·split at hleaf<;>cases hleaf
      ·cases hleaf
     |exit i=>
      simp only at hleaf;split at hleaf
      ·rename_i b2 h1;cases hleaf
       exact ⟨st',.exit i,by simp,(ho _ _ _ h1).1,(ho _ _ _ h1).2,hev⟩
      ·cases hleaf
     |ret=>
      simp only at hleaf;split at hleaf
      ·rename_i b2 h1;cases hleaf
       exact ⟨st',.ret,by simp,(ho _ _ _ h1).1,(ho _ _ _ h1).2,hev⟩
      ·cases hleaf
   ·cases h
  ·cases h
 ·cases h
end
end
end Go.Proofs.YtpdenibljogamaaGreatDoor.Ev
