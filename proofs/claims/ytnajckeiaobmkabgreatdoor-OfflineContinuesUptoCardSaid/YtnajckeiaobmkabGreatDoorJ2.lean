/- OfflineContinues: a part of the proof of the given statement, which is proved without conditions. -/
import Derived.Test.YtnajckeiaobmkabGreatDoorJ1
import Derived.MapKept
import Derived.Carry
import Derived.Laws.IdiomStrings
import Derived.Laws.BytesArg
import Derived.LoopN
set_option linter.all false
namespace Go.Proofs.YtnajckeiaobmkabGreatDoor.Ev
open Go
section
def a1r (P:Program) (f:Nat) (vs:Array Value) (w:World) (Q:Value→World→Prop):Prop:=
 match (callFunc f vs).run P w with
 |.ok (.value v) w'=>Q v w'
 |.ok (.enter f' vs') w'=>Calls P f' vs' w' (λe w''=>match e with | .returned v=>Q v w''|_=>False)
 |_=>False
def a1r.mono {P:Program} {f:Nat} {vs:Array Value} {w:World} {Q Q':Value→World→Prop} (h:a1r P f vs w Q) (hq:∀v w',Q v w'→Q' v w'):a1r P f vs w Q':=by
 unfold a1r at *;generalize (callFunc f vs).run P w=r at *;split at h
 ·exact hq _ _ h
 ·exact Calls.mono h (λe w'' he=>by cases e<;>first|exact hq _ _ he|exact he)
 ·exact h.elim
def a1r.wp {P:Program} {o:Oper} {a:Act} {f:Nat} {vs:Array Value} {w:World} {Qv:Value→World→Prop} {next:Act→World→Prop} {Q:Exit→Act→World→Prop}
 (hrun:(execOp a.eval o).run P w=(callFunc f vs).run P w) (h:a1r P f vs w Qv) (hn:∀v w',Qv v w'→next (a.put o.dst v) w'):o.wp P a w next Q:=by
 unfold Oper.wp;rw[hrun];unfold a1r at h;generalize (callFunc f vs).run P w=r at *;split at h
 ·exact hn _ _ h
 ·exact Calls.mono h (λe w'' he=>by cases e<;>first|exact hn _ _ he|exact he.elim)
 ·exact h.elim
section
variable {κ:Type} {El:κ→Type} {S:Sg κ El} {P:Program}
variable {c:Cx} {st:St κ El} {g:Gh} {a:Act} {w:World} {R:Type} [KdEq κ]
variable {o:Oper} {q:Bool} {call:Nat→List (D κ El)→List (List (D κ El))→(D κ El→List (List (D κ El))→Option R)→Option R} {k:St κ El→Option R} {r:R}
structure Pre (S:Sg κ El) (w:World) (I J:Nat→Nat→Prop) (mb:List Nat):Prop where
 gl:b2m S w I
 ib:∀b o,I b o→b<w.heap.size
 ij:∀b o,I b o→J b o
 jb:∀b o,J b o→b<w.heap.size∧b∉mb
 gb:d3a S w mb
def d60 (S:Sg κ El) (w:World) (I J:Nat→Nat→Prop) (blk:Nat) (cs:List (D κ El)):Prop:=
 ∃vals t,w.heap[blk]?=some (.cells vals t (0,0))∧vals.size=cs.length∧∀(i:Nat) (v:Value) (d:D κ El),vals[i]?=some v→cs[i]?=some d→DR S w I J v d
structure GrowM (mb:List Nat) (w w':World) (I I':Nat→Nat→Prop):Prop where
 size:w.heap.size≤w'.heap.size
 os:w'.os=w.os
 out:w'.output=w.output
 tape:w'.tape=w.tape
 keep:∀b,b<w.heap.size→b∉mb→w'.heap[b]?=w.heap[b]?
 hI:∀b o,I b o→I' b o
 new:∀b o,I' b o→I b o∨w.heap.size≤b
 ib:∀b o,I' b o→b<w'.heap.size
def GrowM.grow {w w':World} {I I':Nat→Nat→Prop} (h:GrowM [] w w' I I'):Grow w w' I I':=⟨h.size,h.os,h.out,h.tape,λb hb=>h.keep b hb (by simp),h.hI,h.new,h.ib⟩
def b50 (S:Sg κ El) (w:World) (I J:Nat→Nat→Prop) (vs:Array Value) (ds:List (D κ El)):Prop:=
 vs.size=ds.length∧∀(i:Nat) v d,vs[i]?=some v→ds[i]?=some d→DR S w I J v d
def g6q (S:Sg κ El) (w:World) (I J:Nat→Nat→Prop) (bls:List Nat) (v:Value) (d:D κ El):Prop:=
 (∃j blk off,d=.ptr (MB+j) off∧bls[j]?=some blk∧v=.pointer (some ⟨blk,off,none⟩))∨DR S w I J v d
def e6c (S:Sg κ El) (w:World) (I J:Nat→Nat→Prop) (mb:List Nat) (k:κ) (xs:List (El k)) (v:Value):Prop:=
 ∃base cap,v=.slice base xs.length cap∧xs.length≤cap∧((cap=0∧mb=[])∨∃blk vals t,mb=[blk]∧base=some ⟨blk,0,none⟩∧w.heap[blk]?=some (.cells vals t (0,0))∧vals.size=cap*S.sz k∧
  ∀i (hi:i<xs.length) j d,(S.enc k xs[i])[j]?=some d→∃v,vals[i*S.sz k+j]?=some v∧DR S w I J v d)
def h4h (S:Sg κ El) (w:World) (I:Nat→Nat→Prop) (lo:Nat) (mb:List Nat) (k:κ) (xs:List (El k)) (v:Value):Prop:=
 ∃base cap,v=.slice base xs.length cap∧xs.length≤cap∧(cap=0∨∃blk vals t,base=some ⟨blk,0,none⟩∧w.heap[blk]?=some (.cells vals t (0,0))∧vals.size=cap*S.sz k∧(lo≤blk∨blk∈mb)∧(∀o,¬I blk o)∧
  ∀i (hi:i<xs.length) j d,(S.enc k xs[i])[j]?=some d→∃v,vals[i*S.sz k+j]?=some v∧DR S w I I v d)
def h4g (S:Sg κ El) (w:World) (I:Nat→Nat→Prop) (lo:Nat) (k:κ) (xs:List (El k)) (v:Value):Prop:=
 S.isb k=false∧∃blk es clk,v=.map (some blk)∧w.heap[blk]?=some (.map es clk)∧lo≤blk∧es.size=xs.length∧
  ∀(i:Nat) (e:MapEntry) (x:El k),es[i]?=some e→xs[i]?=some x→∃kd vd,S.enc k x=[kd,vd]∧DR S w I I e.key kd∧DR S w I I e.val vd
def Con (P:Program) (S:Sg κ El) (f:Nat) (ds:List (D κ El)) (bs:List (List (D κ El))) (d:D κ El) (bs':List (List (D κ El))):Prop:=
 match S.md f with
 |.data=>bs'=[]→∀w I J vs,Pre S w I J []→b50 S w I J vs ds→a1r P f vs w λv w'=>∃I',Grow w w' I I'∧DR S w' I' I' v d
 |.fresh=>bs'=[]→∀k xs,d=.lst k xs→∀w I J vs,Pre S w I J []→b50 S w I J vs ds→a1r P f vs w λv w'=>∃I',Grow w w' I I'∧e6b S w' I' w.heap.size k xs v
 |.newb=>∀cs,bs'=[cs]→∀w I J vs,Pre S w I J []→b50 S w I J vs ds→a1r P f vs w λv w'=>∃I' blk,Grow w w' I I'∧v=.pointer (some ⟨blk,0,none⟩)∧w.heap.size≤blk∧(∀o,¬I' blk o)∧d60 S w' I' I' blk cs
 |.nmap=>bs'=[]→∀x k xs,d=.tup [x,.lst k xs]→∀w I J vs,Pre S w I J []→b50 S w I J vs ds→a1r P f vs w λv w'=>∃I' v1 v2,Grow w w' I I'∧v=.tuple #[v1,v2]∧DR S w' I' I' v1 x∧h4g S w' I' w.heap.size k xs v2
 |.mut=>∀w I J vs bls,Pre S w I J bls→bls.Nodup→bls.length=bs.length→vs.size=ds.length→(∀(i:Nat) v d,vs[i]?=some v→ds[i]?=some d→g6q S w I J bls v d)→
  (∀(j:Nat) blk cs,bls[j]?=some blk→bs[j]?=some cs→d60 S w I J blk cs)→
  a1r P f vs w λv w'=>∃I',GrowM bls w w' I I'∧DR S w' I' I' v d∧bs'.length=bs.length∧(∀(j:Nat) blk cs,bls[j]?=some blk→bs'[j]?=some cs→d60 S w' I' I' blk cs)
 |.cons=>bs'=[]→∀k xs ds0,ds=.lst k xs::ds0→∀k' xs',d=.lst k' xs'→∀w I J mb v0 vs,Pre S w I J mb→e6c S w I J mb k xs v0→b50 S w I J vs ds0→
  a1r P f (#[v0]++vs) w λv w'=>∃I',GrowM mb w w' I I'∧h4h S w' I' w.heap.size mb k' xs' v
 |.inpl=>bs'=[]→∀k xs ds0,ds=.lst k xs::ds0→∀xs',d=.lst k xs'→∀w I J mb v0 vs,Pre S w I J mb→e6c S w I J mb k xs v0→b50 S w I J vs ds0→
  a1r P f (#[v0]++vs) w λv w'=>v=.tuple #[]∧xs'.length=xs.length∧∃I',GrowM mb w w' I I'∧e6c S w' I' I' mb k xs' v0
 |.bld=>True
def a02 (P:Program) (S:Sg κ El) (call:Nat→List (D κ El)→List (List (D κ El))→(D κ El→List (List (D κ El))→Option R)→Option R):Prop:=
 ∀f ds bs k r,call f ds bs k=some r→∃d bs',k d bs'=some r∧Con P S f ds bs d bs'
def a2d {o:Oper} {cl:Call} {fo:Operand} (ho:o.op=.call cl) (hc:cl.callee=.value fo) {a:Act} {f:Nat} {p cp:Array Value} (hf:a.eval fo=.func (.func f) p cp) (w:World) :
 (execOp a.eval o).run P w=(callFunc f (p++cl.args.map a.eval++cp)).run P w:=by
 unfold execOp;simp only[ho,resolve,hc,hf,Deferred.ofValue];rfl
def a2s (hr:Rel S c st g a w) {fo:Operand} {f:Nat} {pre caps:List (D κ El)} {xs:Array Operand} (hf:opd st fo=.fn f pre caps) :
 ∃p cp:Array Value,a.eval fo=.func (.func f) p cp∧(p++xs.map a.eval++cp).size=(pre++xs.toList.map (opd st)++caps).length∧
  ∀(i:Nat) v d,(p++xs.map a.eval++cp)[i]?=some v→(pre++xs.toList.map (opd st)++caps)[i]?=some d→VR S w g v d:=by
 have hv:=hr.opd fo;rw[hf]at hv;obtain ⟨p,cp,e,hp,hc,w1,w2⟩:=hv.fn_inv;refine ⟨p,cp,e,by simp;omega,λi v d h1 h2=>?_⟩;by_cases ha:i<(pre++xs.toList.map (opd st)).length
 ·rw[yat ha]at h2;have ha':i<(p++xs.map a.eval).size:=by simp at ha ⊢;omega
  rw[ybJ ha']at h1;by_cases hb:i<pre.length
  ·rw[yat hb]at h2;rw[ybJ (by omega)]at h1;exact w1 i v d h1 h2
  ·rw[yaG (by omega)]at h2;rw[ybT (by omega),hp]at h1;exact e2a hr xs _ v d h1 h2
 ·rw[yaG (by omega)]at h2;have ha':(p++xs.map a.eval).size≤i:=by simp at ha ⊢;omega
  rw[ybT ha']at h1;have e:(p++xs.map a.eval).size=(pre++xs.toList.map (opd st)).length:=by simp;omega
  rw[e]at h1;exact w2 _ v d h1 h2
def Dat.args {vs:Array Value} {cs cs':List (D κ El)} {g g':Gh} {J:Nat→Nat→Prop} (h:Dat S w g g' J cs cs') (hs:vs.size=cs.length) (hv:∀(i:Nat) v d,vs[i]?=some v→cs[i]?=some d→VR S w g v d):b50 S w g'.I J vs cs':=by
 refine ⟨by rw[hs,h.1],λi v d h1 h2=>?_⟩;have hi:i<cs.length:=by rw[←h.1];exact (zL h2)
 obtain ⟨d2,h3,h4⟩:=h.2 i cs[i] (yab hi);rw[h2]at h3;cases h3
 exact h4 v (hv i v _ h1 (yab hi))
def Rel.j_lt (hr:Rel S c st g a w) {b o:Nat} (hj:g.J b o):b<w.heap.size:=by
 rcases hr.j1 b o hj with hi|hj0
 ·exact hr.ib b o hi
 ·exact yaQ (hr.jm b o hj0).1 hr.sz
def Rel.pre (hr:Rel S c st g a w):Pre S w g.I (LJ (λ_=>True) g) []:=
 ⟨hr.gl,hr.ib,λb o hi=>.inl (hr.ij b o hi),λb o hj=>⟨hj.elim hr.j_lt (λ⟨n,_,hb⟩=>hr.bx_lt hb),by simp⟩,hr.globB (λb hb=>by cases hb)⟩
def DR.gI {w':World} {I':Nat→Nat→Prop} {v:Value} {d:D κ El} (h:DR S w' I' I' v d):DR S w' (gI g I').I (gI g I').J v d:=
 h.mono (λb o hi=>⟨rfl,hi⟩) (λb o hi=>⟨rfl,.inl hi⟩)
def d8b (sgk:SgOk S) (cok:a02 P S call) {cl:Call} {fo:Operand} {f:Nat} {pre caps:List (D κ El)} (ho:o.op=.call cl) (hc:cl.callee=.value fo) (hf:opd st fo=.fn f pre caps) (hm:S.md f=.data)
 (h:a0m S call q st o.dst f (pre++cl.args.toList.map (opd st)++caps) k=some r):a1e P S o st k r:=by
 unfold a0m at h;rw[hm]at h;have h:(match a1x st (pre++cl.args.toList.map (opd st)++caps) with
  |some (st,ds)=>call f ds [] (λd bs=>match bs with | []=>k (put st o.dst d)|_=>none)
  |none=>none)=some r:=by cases q<;>exact h
 split at h
 ·rename_i st1 ds hdat;obtain ⟨d,bs',hk,hcon⟩:=cok _ _ _ _ _ h;split at hk
  ·refine ⟨_,hk,λc g a w hr hd next Q hn=>?_⟩;obtain ⟨p,cp,e,hs,hv⟩:=a2s (xs:=cl.args) hr hf;obtain ⟨g1,r1,l1,b1,e1,x1,hdd⟩:=a28 (N:=λ_=>True) sgk (λ_ _ _ _=>trivial) hdat hr;unfold Con at hcon;rw[hm]at hcon;have hcall:=hcon rfl w g1.I (LJ (λ_=>True) g1) _ r1.pre (hdd.args hs hv);refine a1r.wp (a2d ho hc e w) hcall (λv w' hq=>?_);obtain ⟨I',hg,hdr⟩:=hq;exact hn _ _ _ ((r1.grow hg).1.put (.data hdr.gI) hd)
  ·cases hk
 ·cases h
def Rel.growNewMap (hr:Rel S c st g a w) {w':World} {I':Nat→Nat→Prop} (h:Grow w w' g.I I') {n:Nat} {k:κ} {xs:List (El k)} {v1 v2:Value} {x:D κ El} (hn:c8 n st.ar=none) (hne:n<MA)
 (hx:DR S w' I' I' v1 x) (hv:h4g S w' I' w.heap.size k xs v2) (hdst:n<c.nt) :
 ∃g',Rel S c {Ev.put st (some n) (.tup [x,.arr n 0]) with ar:=(n,⟨k,xs,0,true,true⟩)::st.ar} g' (a.put (some n) (.tuple #[v1,v2])) w':=by
 obtain ⟨hisb,blk,es,clk,rfl,e1,e2,e4,e5⟩:=hv;have s:=h.stepArr (n:=n) (z:=S.sz k) (v:=.map (some blk)) (blk:=some blk) hr.ol (λb hb=>by cases hb;exact (yah.1 e1).1) (hr.ad_not hn) (λb hb=>by cases hb;exact e2);have le:=s.le hr;refine ⟨_,hr.step s (by rw[Act.put_size];exact hr.nt) (by rw[Act.put_defers'];exact hr.df) (λs d' hs=>?_) (λb cs' hb'=>?_) hr.bd (λm A hA=>?_) (λm hm=>?_)⟩
 ·refine hr.env_put le (d:=.tup [x,.arr n 0]) (.tup #[v1,.map (some blk)] _ rfl (λi v d h1 h2=>?_)) (λt ht=>by cases ht;exact hdst) hs
  match i,h1,h2 with
  |0,h1,h2=>
   cases h1;cases h2
   exact .data (hx.mono (λb o hi=>⟨rfl,hi⟩) (λb o hi=>⟨rfl,.inl hi⟩))
  |1,h1,h2=>
   cases h1;cases h2
   refine .arr _ n 0 (.inr (.inl ⟨_,rfl⟩)) (.inl rfl) (ybY _) (λv' hv'=>?_);have hv':(if n=n then (if (0:Nat)=0 then some (Value.map (some blk)) else none) else g.av n 0)=some v':=hv';rw[yaF rfl,yaF rfl]at hv';cases hv';rfl
  |i+2,h1,h2=>simp at h2
 ·have hb':c8 b st.bx=some cs':=by simpa[Ev.put]using hb'
  exact .inl ⟨hb',λ_ _ hf=>hf⟩
 ·replace hA:c8 m ((n,⟨k,xs,0,true,true⟩)::st.ar)=some A:=hA;rw[e8]at hA;split at hA
  ·rename_i e;subst e;cases hA
   refine .inr ⟨.inl rfl,by simp[a9r],by simp[a9r],λh=>(by cases h),λver v hv=>?_,λe=>absurd e (by omega),λ_ _=>.inl ⟨hisb,blk,es,clk,by simp[a9r],e1,by simp[a9r],e4,λi e x he hx=>?_⟩⟩
   ·have hv:(if m=m then (if ver=0 then some (Value.map (some blk)) else none) else g.av m ver)=some v:=hv;rw[yaF rfl]at hv;split at hv
    ·rename_i e;exact ⟨e,.inr rfl⟩
    ·cases hv
   ·obtain ⟨kd,vd,h1,h2,h3⟩:=e5 i e x he hx;exact ⟨kd,vd,h1,h2.mono (λb o hi=>⟨rfl,hi⟩) (λb o hi=>⟨rfl,.inl hi⟩),h3.mono (λb o hi=>⟨rfl,hi⟩) (λb o hi=>⟨rfl,.inl hi⟩)⟩
  ·rename_i e;refine .inl ⟨hA,λver=>?_,?_,λ_ _ hf=>hf,h.keepArr hr⟩
   ·show (if m=n then _ else g.av m ver)=_
    rw[yap e]
   ·show (if m=n then 0 else g.vc m)=_
    rw[yap e]
 ·show ∃A,c8 m ((n,⟨k,xs,0,true,true⟩)::st.ar)=some A
  rw[e8];split
  ·exact ⟨_,rfl⟩
  ·rename_i e;exact hr.ad m (hm.resolve_left e)
def d8e (sgk:SgOk S) (cok:a02 P S call) {cl:Call} {fo:Operand} {f:Nat} {pre caps:List (D κ El)} (ho:o.op=.call cl) (hc:cl.callee=.value fo) (hf:opd st fo=.fn f pre caps) (hm:S.md f=.nmap)
 (h:a0m S call q st o.dst f (pre++cl.args.toList.map (opd st)++caps) k=some r):a1e P S o st k r:=by
 unfold a0m at h;rw[hm]at h;cases q with
 |true=>cases h
 |false=>
  simp only at h;split at h
  ·rename_i st1 ds n hdat hdst;obtain ⟨d,bs',hk,hcon⟩:=cok _ _ _ _ _ h;split at hk
   ·split at hk
    ·rename_i x kd xs;rw[d7]at hk;split at hk
     ·rename_i hfr;rw[yae]at hfr;have hlt:n<MA:=ya4 hfr.2;refine ⟨_,hk,λc g a w hr hd next Q hn=>?_⟩;obtain ⟨p,cp,e,hs,hv⟩:=a2s (xs:=cl.args) hr hf;obtain ⟨g1,r1,l1,b1,e1,x1,hdd⟩:=a28 (N:=λ_=>True) sgk (λ_ _ _ _=>trivial) hdat hr;unfold Con at hcon;rw[hm]at hcon;have hcall:=hcon rfl x kd xs rfl w g1.I (LJ (λ_=>True) g1) _ r1.pre (hdd.args hs hv);refine a1r.wp (a2d ho hc e w) hcall (λv w' hq=>?_);obtain ⟨I',v1,v2,hg,rfl,hx,hnew⟩:=hq;obtain ⟨g',hrel⟩:=r1.growNewMap hg (n:=n) (a0c hfr.1) hlt hx hnew (hd n hdst);refine hn g' _ w' ?_;rw[hdst];exact hrel
     ·cases hk
    ·cases hk
   ·cases hk
  ·cases h
def d3u (sgk:SgOk S) (cok:a02 P S call) {cl:Call} {fo:Operand} {f:Nat} {pre caps:List (D κ El)} (ho:o.op=.call cl) (hc:cl.callee=.value fo) (hf:opd st fo=.fn f pre caps) (hm:S.md f=.fresh)
 (h:a0m S call q st o.dst f (pre++cl.args.toList.map (opd st)++caps) k=some r):a1e P S o st k r:=by
 unfold a0m at h;rw[hm]at h;cases q with
 |true=>cases h
 |false=>
  simp only at h;split at h
  ·rename_i st1 ds n hdat hdst;obtain ⟨d,bs',hk,hcon⟩:=cok _ _ _ _ _ h;split at hk
   ·split at hk
    ·rename_i kd xs;rw[d7]at hk;split at hk
     ·rename_i hfr;refine ⟨_,hk,λc g a w hr hd next Q hn=>?_⟩;obtain ⟨p,cp,e,hs,hv⟩:=a2s (xs:=cl.args) hr hf;obtain ⟨g1,r1,l1,b1,e1,x1,hdd⟩:=a28 (N:=λ_=>True) sgk (λ_ _ _ _=>trivial) hdat hr;unfold Con at hcon;rw[hm]at hcon;have hcall:=hcon rfl kd xs rfl w g1.I (LJ (λ_=>True) g1) _ r1.pre (hdd.args hs hv);refine a1r.wp (a2d ho hc e w) hcall (λv w' hq=>?_);obtain ⟨I',hg,hnew⟩:=hq;obtain ⟨g',hrel⟩:=r1.growArr hg (n:=n) (a0c hfr) hnew (hd n hdst);refine hn g' _ w' ?_;rw[hdst];exact hrel
     ·cases hk
    ·cases hk
   ·cases hk
  ·cases h
def d8d (sgk:SgOk S) (cok:a02 P S call) {cl:Call} {fo:Operand} {f:Nat} {pre caps:List (D κ El)} (ho:o.op=.call cl) (hc:cl.callee=.value fo) (hf:opd st fo=.fn f pre caps) (hm:S.md f=.newb)
 (h:a0m S call q st o.dst f (pre++cl.args.toList.map (opd st)++caps) k=some r):a1e P S o st k r:=by
 unfold a0m at h;rw[hm]at h;cases q with
 |true=>cases h
 |false=>
  simp only at h;split at h
  ·rename_i st1 ds n hdat hdst;obtain ⟨d,bs',hk,hcon⟩:=cok _ _ _ _ _ h;split at hk
   ·rename_i cs;rw[d7]at hk;split at hk
    ·rename_i hfr;refine ⟨_,hk,λc g a w hr hd next Q hn=>?_⟩;obtain ⟨p,cp,e,hs,hv⟩:=a2s (xs:=cl.args) hr hf;obtain ⟨g1,r1,l1,b1,e1,x1,hdd⟩:=a28 (N:=λ_=>True) sgk (λ_ _ _ _=>trivial) hdat hr;unfold Con at hcon;rw[hm]at hcon;have hcall:=hcon cs rfl w g1.I (LJ (λ_=>True) g1) _ r1.pre (hdd.args hs hv);refine a1r.wp (a2d ho hc e w) hcall (λv w' hq=>?_);obtain ⟨I',blk,hg,rfl,hlo,hno,vals,t,hb,hsz,hvals⟩:=hq;obtain ⟨g',hrel⟩:=r1.growBox hg (d:=n) (blk:=blk) (cs:=cs) (a0c hfr) hlo (yah.1 hb).1 hno
      (λg' le hI hJ=>⟨vals,t,hb,hsz,λi v d h1 h2=>.data ((hvals i v d h1 h2).mono (λb o hi=>⟨rfl,by rw[hI];exact hi⟩) (λb o hi=>⟨rfl,hJ b o hi⟩))⟩) (hd n hdst)
     refine hn g' _ w' ?_;rw[hdst];exact hrel
    ·cases hk
   ·cases hk
  ·cases h
end
end
section
section
variable {κ:Type} {El:κ→Type} {S:Sg κ El} {P:Program}
variable {c:Cx} {st:St κ El} {g:Gh} {a:Act} {w:World} {R:Type} [KdEq κ]
variable {o:Oper} {q:Bool} {call:Nat→List (D κ El)→List (List (D κ El))→(D κ El→List (List (D κ El))→Option R)→Option R} {k:St κ El→Option R} {r:R}
def a55 (g:Gh) (n:Nat):Nat:=(g.bl n).getD 0
def d5b (sgk:SgOk S) {N:Nat→Prop}:∀{cs ds:List (D κ El)} {j:Nat} {ns:List Nat} {bss:List (List (D κ El))} {st st':St κ El} {g:Gh},
 (∀d∈cs,(∃b off,d=.ptr b off)∨∀b∈c3b d,N b)→a2c st j cs=some (st',ds,ns,bss)→Rel S c st g a w→
 ∃g',Rel S c st' g' a w∧Le w g w g'∧g'.bl=g.bl∧st'.env=st.env∧st'.bx=st.bx∧ds.length=cs.length∧ns.Nodup∧bss.length=ns.length∧
  (∀n∈ns,∃bs,c8 n st.bx=some bs)∧
  (∀(i:Nat) d,cs[i]?=some d→∃d',ds[i]?=some d'∧∀v,VR S w g v d→DR S w g'.I (LJ N g') v d'∨∃jj n off,d'=.ptr (MB+(j+jj)) off∧ns[jj]?=some n∧v=.pointer (some ⟨a55 g n,off,none⟩))∧
  (∀(jj:Nat) n bs,ns[jj]?=some n→bss[jj]?=some bs→d60 S w g'.I g'.J (a55 g n) bs):=by
 intro cs
 induction cs with
 |nil=>
  intro ds j ns bss st st' g hN h hr;simp only[a2c,yam,ya7]at h;obtain ⟨rfl,rfl,rfl,rfl⟩:=h;exact ⟨g,hr,.refl w g,rfl,rfl,rfl,rfl,List.nodup_nil,rfl,λn hn=>(by cases hn),λi d hd=>by simp at hd,λjj n bs hn=>by simp at hn⟩
 |cons d cs ih=>
  intro ds j ns bss st st' g hN h hr;have tail:∀{st1 st2:St κ El} {cs2 ns2 bss2 j2} {g1:Gh},a2c st1 j2 cs=some (st2,cs2,ns2,bss2)→Rel S c st1 g1 a w→_:=λh2 r1=>ih (λd' hd'=>hN d' (by simp[hd'])) h2 r1
  unfold a2c at h;split at h
  ·rename_i heq;cases heq
  ·
   rename_i b off cs0 heq;obtain ⟨rfl,rfl⟩:=yce heq;split at h
   ·rename_i bs hb;split at h
    ·rename_i st1 bs1 hdat;split at h
     ·rename_i st2 cs2 ns2 bss2 hrest;rw[d7]at h;split at h
      ·rename_i hnot;simp only[yam,ya7]at h;obtain ⟨rfl,rfl,rfl,rfl⟩:=h;obtain ⟨g1,r1,l1,b1,e1,x1,n1,v1⟩:=a0y sgk hdat hr;obtain ⟨g2,r2,l2,b2,e2,x2,len2,nd2,bl2,al2,ar2,bo2⟩:=tail hrest r1;have hnn:b∉ns2:=λhm=>by
        have:=yaj.1 hnot b hm;simp[a82]at this
       have eqb:∀n,a55 g1 n=a55 g n:=λn=>by simp[a55,b1]
       refine ⟨g2,r2,l1.trans l2,b2.trans b1,e2.trans e1,x2.trans x1,by simp[len2],List.nodup_cons.2 ⟨hnn,nd2⟩,by simp[bl2],λn hn=>?_,λi d' hd'=>?_,λjj n bs' hn hbs=>?_⟩
       ·rcases yaM.1 hn with rfl|hn
        ·exact ⟨bs,hb⟩
        ·obtain ⟨bs',h'⟩:=al2 n hn;rw[x1]at h';exact ⟨bs',h'⟩
       ·cases i with
        |zero=>
         simp only[yas,yam]at hd';subst hd';refine ⟨_,rfl,λv hv=>.inr ⟨0,b,off,by simp,rfl,?_⟩⟩;obtain ⟨blk,rfl,hbl⟩:=hv.ptr_inv;simp[a55,hbl]
        |succ i=>
         simp only[yaL]at hd' ⊢;obtain ⟨d2,h2,h3⟩:=ar2 i d' hd';refine ⟨d2,h2,λv hv=>?_⟩;rcases h3 v (hv.mono l1) with h4|⟨jj,n,off',h4,h5,h6⟩
         ·exact .inl h4
         ·refine .inr ⟨jj+1,n,off',?_,by simpa using h5,by rw[h6,eqb]⟩;rw[h4];congr 1;omega
       ·cases jj with
        |zero=>
         simp only[yas,yam]at hn hbs;subst hn hbs;obtain ⟨blk,hbl,how,hno,vals,t,hh,hs,hvals⟩:=hr.bx b bs hb;have:a55 g b=blk:=by simp[a55,hbl]
         rw[this];refine ⟨vals,t,hh,by rw[hs,n1],λi v d h1 h2=>?_⟩;have hi:i<bs.length:=by rw[←n1];exact (zL h2)
         obtain ⟨d2,h3,h4⟩:=v1 i _ (yab hi);rw[h2]at h3;cases h3
         exact (h4 v (hvals i v _ h1 (yab hi))).mono l2.I l2.J
        |succ jj=>
         have:=bo2 jj n bs' (by simpa using hn) (by simpa using hbs)
         rwa [eqb]at this
      ·cases h
     ·cases h
    ·cases h
   ·cases h
  ·
   rename_i d0 cs0 hne heq;obtain ⟨rfl,rfl⟩:=yce heq;split at h
   ·rename_i st1 d1 hdat;split at h
    ·rename_i st2 cs2 ns2 bss2 hrest;simp only[yam,ya7]at h;obtain ⟨rfl,rfl,rfl,rfl⟩:=h;have hlend:∀b∈c3b d,N b:=(hN d (by simp)).resolve_left (λ⟨b,off,hb⟩=>hne b off hb);obtain ⟨g1,r1,l1,b1,e1,x1,v1⟩:=c2g sgk hlend hdat hr;obtain ⟨g2,r2,l2,b2,e2,x2,len2,nd2,bl2,al2,ar2,bo2⟩:=tail hrest r1;have eqb:∀n,a55 g1 n=a55 g n:=λn=>by simp[a55,b1]
     refine ⟨g2,r2,l1.trans l2,b2.trans b1,e2.trans e1,x2.trans x1,by simp[len2],nd2,bl2,λn hn=>?_,λi d' hd'=>?_,λjj n bs' hn hbs=>?_⟩
     ·obtain ⟨bs',h'⟩:=al2 n hn;rw[x1]at h';exact ⟨bs',h'⟩
     ·cases i with
      |zero=>
       simp only[yas,yam]at hd';subst hd';exact ⟨_,rfl,λv hv=>.inl (LJ.mono l2 b2 (v1 v hv))⟩
      |succ i=>
       simp only[yaL]at hd' ⊢;obtain ⟨d2,h2,h3⟩:=ar2 i d' hd';refine ⟨d2,h2,λv hv=>?_⟩;rcases h3 v (hv.mono l1) with h4|⟨jj,n,off',h4,h5,h6⟩
       ·exact .inl h4
       ·exact .inr ⟨jj,n,off',h4,h5,by rw[h6,eqb]⟩
     ·have:=bo2 jj n bs' hn hbs
      rwa [eqb]at this
    ·cases h
   ·cases h
def c9g:∀{ns:List Nat} {bs:List (List (D κ El))} {bx bx':List (Nat×List (D κ El))},a43 bx ns bs=some bx'→ns.Nodup→
 ns.length=bs.length∧(∀(j:Nat) n,ns[j]?=some n→∃cs,bs[j]?=some cs∧c8 n bx'=some cs)∧∀n,n∉ns→c8 n bx'=c8 n bx:=by
 intro ns
 induction ns with
 |nil=>
  intro bs bx bx' h _;cases bs with
  |nil=>cases h;exact ⟨rfl,λj n hn=>by simp at hn,λ_ _=>rfl⟩
  |cons=>cases h
 |cons n ns ih=>
  intro bs bx bx' h hnd;cases bs with
  |nil=>cases h
  |cons b bs=>
   simp only[a43]at h;split at h
   ·rename_i old hold;rw[d7]at h;split at h
    ·obtain ⟨hn1,hn2⟩:=List.nodup_cons.1 hnd;obtain ⟨h1,h2,h3⟩:=ih h hn2;refine ⟨by simp[h1],λj m hm=>?_,λm hm=>?_⟩
     ·cases j with
      |zero=>
       simp only[yas,yam]at hm;subst hm;exact ⟨b,rfl,by rw[h3 _ hn1,c6 hold,yaF rfl]⟩
      |succ j=>simpa using h2 j m (by simpa using hm)
     ·have hm1:m≠n:=λe=>hm (by simp[e])
      have hm2:m∉ns:=λe=>hm (by simp[e])
      rw[h3 m hm2,c6 hold,yap hm1]
    ·cases h
   ·cases h
def d3k {ns:List Nat} {d:D κ El} (h:a9e ns d=true):(∃b off,d=.ptr b off)∨∀b∈c3b d,b∉ns:=by
 have key:∀b:Nat,(ns.all λn=>!Nat.beq n b)=true→b∉ns:=λb hb hm=>by
  have:=yaj.1 hb b hm;simp[a82]at this
 unfold a9e at h;split at h
 ·exact .inl ⟨_,_,rfl⟩
 ·refine .inr λb hb=>?_
  simp only[c3b,ybm]at hb;obtain ⟨d,hd,hb⟩:=hb;exact key b (yaj.1 (yaj.1 h d hd) b hb)
 ·rename_i d h1 h2;refine .inr λb hb=>?_
  cases d<;>simp[c3b,a60]at hb
  all_goals first|exact absurd rfl (h1 _ _)|exact absurd rfl (h2 _ _ _)
def e69 (sgk:SgOk S) (cok:a02 P S call) {cl:Call} {fo:Operand} {f:Nat} {pre caps:List (D κ El)} (ho:o.op=.call cl) (hc:cl.callee=.value fo) (hf:opd st fo=.fn f pre caps) (hm:S.md f=.mut)
 (h:a0m S call q st o.dst f (pre++cl.args.toList.map (opd st)++caps) k=some r):a1e P S o st k r:=by
 unfold a0m at h;rw[hm]at h;have h:(match a2c st 0 (pre++cl.args.toList.map (opd st)++caps) with
  |some (st1,ds,ns,bss)=>bif (pre++cl.args.toList.map (opd st)++caps).all (a9e ns) then call f ds bss (λd bs=>match a43 st1.bx ns bs with
   |some bx=>k (put {st1 with bx:=bx} o.dst d)
   |none=>none) else none
  |none=>none)=some r:=by cases q<;>exact h
 ·split at h
  ·rename_i st1 ds ns bss hmut;rw[d7]at h;split at h
   ·rename_i hap;obtain ⟨d,bs',hk,hcon⟩:=cok _ _ _ _ _ h;split at hk
    ·rename_i bx' hset;refine ⟨_,hk,λc g a w hr hd next Q hn=>?_⟩;obtain ⟨p,cp,e,hs,hv⟩:=a2s (xs:=cl.args) hr hf;obtain ⟨g1,r1,l1,b1,e1,x1,len,nd,lbs,al,ar,bo⟩:=d5b (N:=λb=>b∉ns) sgk (λd hd'=>d3k (yaj.1 hap d hd')) hmut hr;have hbl:∀n∈ns,g1.bl n=some (a55 g n):=λn hn'=>by
      obtain ⟨bs,hbs⟩:=al n hn';obtain ⟨blk,h1,_⟩:=hr.bx n bs hbs;rw[b1,h1];simp[a55,h1]
     have hinj:∀n∈ns,∀m,g1.bl m=some (a55 g n)→m=n:=λn hn' m hm'=>by
      have h1:=r1.bx_ow (hbl n hn');have h2:=r1.bx_ow hm';rw[h1]at h2;cases h2;rfl
     let bls:=ns.map (a55 g)
     have hmem:∀b,b∈bls→∃n∈ns,b=a55 g n∧g1.bl n=some b:=λb hb=>by
      obtain ⟨n,hn',rfl⟩:=ybe.1 hb;exact ⟨n,hn',rfl,hbl n hn'⟩
     have hget:∀(jj:Nat) blk,bls[jj]?=some blk→∃n,ns[jj]?=some n∧blk=a55 g n:=λjj blk hj=>by
      simp only[bls,yaO,yaT]at hj;obtain ⟨n,hn',rfl⟩:=hj;exact ⟨n,hn',rfl⟩
     have hnodup:bls.Nodup:=by
      exact List.pairwise_map.2 (nd.imp_of_mem (λ{a b} ha hb hne he=>hne (hinj b hb a (by rw[←he];exact hbl a ha))))
     have hpre:Pre S w g1.I (LJ (λb=>b∉ns) g1) bls:=by
      refine ⟨r1.gl,r1.ib,λb o hi=>.inl (r1.ij b o hi),λb o' hj=>⟨hj.elim r1.j_lt (λ⟨n,_,hb⟩=>r1.bx_lt hb),λhb=>?_⟩,r1.globB (λb hb=>by obtain ⟨n,hn',rfl,hbn⟩:=hmem b hb;exact ⟨_,r1.bx_ow hbn⟩)⟩;obtain ⟨n,hn',rfl,hbn⟩:=hmem b hb;rcases hj with hj|⟨m,hm1,hm2⟩
      ·have how:=r1.bx_ow hbn;obtain ⟨cs,hcs⟩:=r1.bd _ _ hbn;obtain ⟨blk',hb',_,hno,_⟩:=r1.bx _ _ hcs;rw[hbn]at hb';cases hb'
       rcases r1.j1 _ _ hj with hi|hj0
       ·exact hno _ hi
       ·obtain ⟨h1,h2⟩:=r1.jm _ _ hj0;rw[(r1.old _ h1 h2.1 h2.2).2]at how;cases how
      ·exact hm1 (by rw[hinj n hn' m hm2];exact hn')
     unfold Con at hcon;rw[hm]at hcon;have hcall:=hcon w g1.I (LJ (λb=>b∉ns) g1) (p++cl.args.map a.eval++cp) bls hpre hnodup (by simp[bls,lbs]) (by rw[hs,len]) (λi v d' h1 h2=>by
      have hi:i<(pre++cl.args.toList.map (opd st)++caps).length:=by rw[←len];exact (zL h2)
      obtain ⟨d2,h3,h4⟩:=ar i _ (yab hi);rw[h2]at h3;cases h3
      rcases h4 v (hv i v _ h1 (yab hi)) with h5|⟨jj,n,off,h5,h6,h7⟩
      ·exact .inr h5
      ·exact .inl ⟨jj,a55 g n,off,by rw[h5,yaI],by simp[bls,h6],h7⟩)
      (λjj blk cs hb hc'=>by
       obtain ⟨n,hn',rfl⟩:=hget jj blk hb;obtain ⟨vals,t,h1,h2,h3⟩:=bo jj n cs hn' hc';exact ⟨vals,t,h1,h2,λi v d h4 h5=>LJ.of (h3 i v d h4 h5)⟩)
     refine a1r.wp (a2d ho hc e w) hcall (λv w' hq=>?_);obtain ⟨I',hg,hdr,hlen',hboxes⟩:=hq;obtain ⟨sl,s1,s2⟩:=c9g hset nd;have hnoI:∀n∈ns,∀o,¬g1.I (a55 g n) o:=λn hn' o' hi=>by
      obtain ⟨cs,hcs⟩:=r1.bd _ _ (hbl n hn');obtain ⟨blk',hb',_,hno,_⟩:=r1.bx _ _ hcs;rw[hbl n hn']at hb';cases hb'
      exact hno _ hi
     have stp:Step (λb=>b∈bls) w g1 w' (gI g1 I'):={
      size:=hg.size
      os:=hg.os
      out:=hg.out
      tape:=hg.tape
      keep:=λb hb hM=>⟨hg.keep b hb hM,rfl⟩
      own:=λb hb=>by
       obtain ⟨n,hn',rfl,hbn⟩:=hmem b hb;exact ⟨_,r1.bx_ow hbn⟩
      I:=λb o' hi=>⟨hg.hI b o' hi,λhb=>by
       obtain ⟨n,hn',rfl,hbn⟩:=hmem b hb;exact absurd hi (hnoI n hn' o')⟩
      inew:=λb o' hi hlt=>.inl ((hg.new b o' hi).resolve_right (by omega))
      ib:=hg.ib
      ol:=λb x hx=>yaQ (r1.ol b x hx) hg.size
      J:=λ_ _=>Iff.rfl
      bl:=λ_ _ hb=>hb
      ad:=λ_ ha=>ha
      vc:=λ_ _=>yav _
      av:=λ_ _ _ _ _ hv=>hv
      az:=λ_ _=>rfl
      owk:=λ_ h=>h}
     have le:=stp.le r1;have hrel:Rel S c {st1 with bx:=bx'} (gI g1 I') a w':=r1.step stp r1.nt r1.df (λs d hs=>r1.env_le le hs)
      (λb cs hb=>by
       by_cases hbn:b∈ns
       ·obtain ⟨jj,hjj⟩:=List.mem_iff_getElem?.1 hbn;obtain ⟨cs',h1,h2⟩:=s1 jj b hjj;have hb:c8 b bx'=some cs:=hb;rw[h2]at hb;cases hb
        obtain ⟨vals,t,h3,h4,h5⟩:=hboxes jj (a55 g b) cs (by simp[bls,hjj]) h1;refine .inr ⟨a55 g b,hbl b hbn,r1.bx_ow (hbl b hbn),λo' hi=>?_,vals,t,h3,h4,λi v d h6 h7=>.data (h5 i v d h6 h7).gI⟩;have hlt:=r1.bx_lt (hbl b hbn);exact hnoI b hbn o' ((hg.new _ _ hi).resolve_right (by omega))
       ·have hb:c8 b bx'=some cs:=hb;rw[s2 b hbn]at hb;refine .inl ⟨hb,λblk hb1 hb2=>?_⟩;obtain ⟨n,hn',rfl,_⟩:=hmem blk hb2;exact hbn (by rw[hinj n hn' b hb1];exact hn'))
      (λb blk hb=>by
       obtain ⟨cs,hcs⟩:=r1.bd b blk hb;show ∃cs,c8 b bx'=some cs
       by_cases hbn:b∈ns
       ·obtain ⟨jj,hjj⟩:=List.mem_iff_getElem?.1 hbn;obtain ⟨cs',h1,h2⟩:=s1 jj b hjj;exact ⟨cs',h2⟩
       ·exact ⟨cs,by rw[s2 b hbn];exact hcs⟩)
      (λn A hA=>.inl ⟨hA,λ_=>rfl,rfl,λblk hb hM=>(by
       obtain ⟨m,hm',rfl,hbm⟩:=hmem blk hM;rw[r1.bx_ow hbm]at hb;cases hb),λblk o' hb hi=>by
       have hlt:=r1.ol blk _ hb;exact (hg.new _ _ hi).resolve_right (by omega)⟩) r1.ad
     exact hn _ _ _ (hrel.put (.data hdr.gI) hd)
    ·cases hk
   ·cases h
  ·cases h
end
end
section
section
variable {κ:Type} {El:κ→Type} {S:Sg κ El} {P:Program}
variable {c:Cx} {st:St κ El} {g:Gh} {a:Act} {w:World} {R:Type} [KdEq κ]
variable {o:Oper} {q:Bool} {call:Nat→List (D κ El)→List (List (D κ El))→(D κ El→List (List (D κ El))→Option R)→Option R} {k:St κ El→Option R} {r:R}
def a7b {vs:Array Value} {x:D κ El} {l:List (D κ El)} (hs:vs.size=(x::l).length) (hv:∀(i:Nat) v d,vs[i]?=some v→(x::l)[i]?=some d→VR S w g v d) :
 ∃(v0:Value) (us:Array Value),vs = #[v0]++us∧VR S w g v0 x∧us.size=l.length∧∀(i:Nat) v d,us[i]?=some v→l[i]?=some d→VR S w g v d:=by
 cases vs with
 |mk ls=>
  cases ls with
  |nil=>simp at hs
  |cons v0 us=>
   refine ⟨v0,us.toArray,by simp,hv 0 v0 x rfl rfl,by simpa using hs,λi v d h1 h2=>hv (i+1) v d ?_ ?_⟩
   ·simpa using h1
   ·simpa using h2
def ArR.ownA {n:Nat} {A:Ar κ El} (h:ArR S w g n A) (hd:A.dead=false) (hs:A.sealed=false):∃base cap mb,g.av n A.ver=some (.slice base A.xs.length cap)∧e6c S w g.I g.J mb A.k A.xs (.slice base A.xs.length cap)∧
 (∀b∈mb,g.ow b=some (.arr n)∧(∀o,¬g.I b o)∧b<w.heap.size)∧mb.length≤1:=by
 obtain ⟨base,cap,hav,hcap,hz⟩:=h.live hd;rcases hz with h0|⟨blk,vals,t,rfl,hb,hsz,how,hI1,hI2,hel⟩
 ·exact ⟨base,cap,[],hav,⟨base,cap,rfl,hcap,.inl ⟨h0,rfl⟩⟩,λb hb=>(by cases hb),by simp⟩
 ·refine ⟨_,cap,[blk],hav,⟨_,cap,rfl,hcap,.inr ⟨blk,vals,t,rfl,rfl,hb,hsz,hel⟩⟩,λb hb'=>?_,by simp⟩;simp only[yba]at hb';subst hb';exact ⟨how,λo hi=>(by have:=(hI1 o hi).1;rw[hs]at this;cases this),(yah.1 hb).1⟩
def e6c.lent {I J J':Nat→Nat→Prop} {mb:List Nat} {kd:κ} {xs:List (El kd)} {v:Value} (sgk:SgOk S) (h:e6c S w I J mb kd xs v):e6c S w I J' mb kd xs v:=by
 obtain ⟨base,cap,e,hcap,hz⟩:=h;refine ⟨base,cap,e,hcap,hz.imp id ?_⟩;rintro ⟨blk,vals,t,h1,h2,h3,h4,h5⟩;refine ⟨blk,vals,t,h1,h2,h3,h4,λi hi j d hj=>?_⟩;obtain ⟨u,a1,a2⟩:=h5 i hi j d hj;exact ⟨u,a1,a2.relendL sgk (a2z (sgk.plain kd _ d (yag hj)))⟩
def e6c.mono {w':World} {g':Gh} {mb:List Nat} {kd:κ} {xs:List (El kd)} {v:Value} (H:Le w g w' g') (hk:∀b∈mb,w'.heap[b]?=w.heap[b]?) (h:e6c S w g.I g.J mb kd xs v):e6c S w' g'.I g'.J mb kd xs v:=by
 obtain ⟨base,cap,e,hcap,hz⟩:=h;refine ⟨base,cap,e,hcap,hz.imp id ?_⟩;rintro ⟨blk,vals,t,h1,h2,h3,h4,h5⟩;refine ⟨blk,vals,t,h1,h2,(hk blk (by simp[h1])).trans h3,h4,λi hi j d hj=>?_⟩;obtain ⟨u,a1,a2⟩:=h5 i hi j d hj;exact ⟨u,a1,a2.mono H.I H.J⟩
def Rel.pre_own (hr:Rel S c st g a w) {n:Nat} {mb:List Nat} (h:∀b∈mb,g.ow b=some (.arr n)∧(∀o,¬g.I b o)∧b<w.heap.size):Pre S w g.I (LJ (λ_=>True) g) mb:=by
 refine ⟨hr.gl,hr.ib,λb o hi=>.inl (hr.ij b o hi),λb o' hj=>⟨hj.elim hr.j_lt (λ⟨n,_,hb⟩=>hr.bx_lt hb),λhb=>?_⟩,hr.globB (λb hb=>⟨_,(h b hb).1⟩)⟩;obtain ⟨how,hno,hlt⟩:=h b hb;rcases hj with hj|⟨m,_,hm2⟩
 ·rcases hr.j1 _ _ hj with hi|hj0
  ·exact hno _ hi
  ·obtain ⟨h1,h2⟩:=hr.jm _ _ hj0;rw[(hr.old _ h1 h2.1 h2.2).2]at how;cases how
 ·rw[hr.bx_ow hm2]at how;cases how
def d8c (sgk:SgOk S) (cok:a02 P S call) {cl:Call} {fo:Operand} {f:Nat} {pre caps:List (D κ El)} (ho:o.op=.call cl) (hc:cl.callee=.value fo) (hf:opd st fo=.fn f pre caps) (hm:S.md f=.inpl)
 (h:a0m S call q st o.dst f (pre++cl.args.toList.map (opd st)++caps) k=some r):a1e P S o st k r:=by
 unfold a0m at h;rw[hm]at h;cases q with
 |true=>cases h
 |false=>
  simp only at h;split at h
  rotate_left
  ·rename_i rest hargs;split at h
   ·rename_i kd st1 ds hik hdat;obtain ⟨d,bs',hk,hcon⟩:=cok _ _ _ _ _ h;split at hk
    ·split at hk
     ·rename_i kd' xs;split at hk
      ·rename_i ys hcx;obtain ⟨rfl,rfl⟩:=a5p hcx;refine ⟨_,hk,λc g a w hr hd next Q hn=>?_⟩;obtain ⟨p,cp,e,hs,hv⟩:=a2s (xs:=cl.args) hr hf;rw[hargs]at hs hv;obtain ⟨v0,us,hus,hv0,husz,husv⟩:=a7b hs hv;obtain ⟨g1,r1,l1,b1,e1,x1,hdd⟩:=a28 (N:=λ_=>True) sgk (λ_ _ _ _=>trivial) hdat hr;unfold Con at hcon;rw[hm]at hcon;have e0:v0=.slice none 0 0:=hv0.nil_inv;have hcall:=hcon rfl _ [] ds rfl _ rfl w g1.I (LJ (λ_=>True) g1) [] v0 us r1.pre ⟨none,0,by rw[e0];rfl,yav _,.inl ⟨rfl,rfl⟩⟩ (hdd.args husz husv);rw[←hus]at hcall;refine a1r.wp (a2d ho hc e w) hcall (λv w' hq=>?_);obtain ⟨rfl,-,I',hg,-⟩:=hq;exact hn _ _ _ ((r1.grow hg.grow).1.put (.data (.tup _ _ rfl (λi v d h=>by simp at h))) hd)
      ·cases hk
     ·cases hk
    ·cases hk
   ·cases h
  ·cases h
  rename_i n ver rest hargs;split at h
  rotate_left
  ·cases h
  rename_i st1 ds hdat;split at h
  rotate_left
  ·cases h
  rename_i A hA;rw[d7]at h;split at h
  rotate_left
  ·cases h
  rename_i hok;rw[yae,yan]at hok;obtain ⟨hver,hdead⟩:=a2r hok.1;obtain ⟨d,bs',hk,hcon⟩:=cok _ _ _ _ _ h;split at hk
  rotate_left
  ·cases hk
  split at hk
  rotate_left
  ·cases hk
  rename_i kd xs0;split at hk
  rotate_left
  ·cases hk
  rename_i xs hcx;obtain ⟨rfl,rfl⟩:=a5p hcx;refine ⟨_,hk,λc g a w hr hd next Q hn=>?_⟩;obtain ⟨p,cp,e,hs,hv⟩:=a2s (xs:=cl.args) hr hf;rw[hargs]at hs hv;obtain ⟨v0,us,hus,hv0,husz,husv⟩:=a7b hs hv;obtain ⟨g1,r1,l1,b1,e1,x1,hdd⟩:=a28 (N:=λ_=>True) sgk (λ_ _ _ _=>trivial) hdat hr;have hAr:=r1.ar n A hA;obtain ⟨base,cap,mb,hav,hown,hmb,hmb1⟩:=hAr.ownA hdead hok.2;obtain ⟨-,hn0,hle0,he0⟩:=(hv0.mono l1).arr_inv;rw[←hver]at he0;have hv0e:=he0 _ hav;unfold Con at hcon;rw[hm]at hcon;have hcall:=hcon rfl A.k A.xs ds rfl xs0 rfl w g1.I (LJ (λ_=>True) g1) mb v0 us (r1.pre_own hmb) (by rw[hv0e];exact hown.lent sgk) (hdd.args husz husv);rw[←hus]at hcall;refine a1r.wp (a2d ho hc e w) hcall (λv w' hq=>?_);obtain ⟨rfl,hlen,I',hg,hown'⟩:=hq;have stp:Step (λb=>b∈mb) w g1 w' (gI g1 I'):={
   size:=hg.size
   os:=hg.os
   out:=hg.out
   tape:=hg.tape
   keep:=λb hb hM=>⟨hg.keep b hb hM,rfl⟩
   own:=λb hb=>⟨_,(hmb b hb).1⟩
   I:=λb o' hi=>⟨hg.hI b o' hi,λhb=>absurd hi ((hmb b hb).2.1 o')⟩
   inew:=λb o' hi hlt=>.inl ((hg.new b o' hi).resolve_right (by omega))
   ib:=hg.ib
   ol:=λb x hx=>yaQ (r1.ol b x hx) hg.size
   J:=λ_ _=>Iff.rfl
   bl:=λ_ _ hb=>hb
   ad:=λ_ ha=>ha
   vc:=λ_ _=>yav _
   av:=λ_ _ _ _ _ hv=>hv
   az:=λ_ _=>rfl
   owk:=λ_ h=>h}
  have le:=stp.le r1;have hrel:Rel S c {st1 with ar:=a1z n ⟨A.k,xs0,ver,false,false⟩ st1.ar} (gI g1 I') a w':=r1.step stp r1.nt r1.df (λs d hs=>r1.env_le le hs)
   (λb cs hb=>.inl ⟨hb,λblk hb1 hb2=>by
    have:=(hmb blk hb2).1;rw[r1.bx_ow hb1]at this;cases this⟩) r1.bd
   (λm A' hA'=>by
    rw[c6 hA]at hA';split at hA'
    ·rename_i e;subst e;cases hA'
     refine .inr ⟨hAr.ad,hAr.az,by rw[←hver];exact hAr.vc,λ_=>?_,λver' v hv=>?_,λe=>⟨by rw[←hver];exact (hAr.own e).1,rfl⟩,λh=>(by cases h)⟩
     ·obtain ⟨base',cap',e2,hcap',hz'⟩:=hown';rw[hv0e]at e2;injection e2 with a1 a2 a3;subst a1 a3;refine ⟨base,cap,?_,?_,?_⟩
      ·rw[←hver];show g1.av m A.ver=_;rw[hav,hlen]
      ·exact hcap'
      ·rcases hz' with ⟨h0,_⟩|⟨blk,vals,t,h1,h2,h3,h4,h5⟩
       ·exact .inl h0
       ·refine .inr ⟨blk,vals,t,h2,h3,h4,(hmb blk (by simp[h1])).1,λo' hi=>?_,λhse=>(by cases hse),λi hi j d hj=>?_⟩
        ·have hb:=hmb blk (by simp[h1]);exact absurd ((hg.new _ _ hi).resolve_right (by omega)) (hb.2.1 o')
        ·obtain ⟨u,a1,a2⟩:=h5 i hi j d hj;exact ⟨u,a1,a2.gI⟩
     ·have:=hAr.ver ver' v hv;exact ⟨by rw[this.1,hver],.inl rfl⟩
    ·rename_i e;refine .inl ⟨hA',λ_=>rfl,rfl,λblk hb hM=>?_,λblk o' hb hi=>?_⟩
     ·have:=(hmb blk hM).1;rw[hb]at this;cases this;exact e rfl
     ·have hlt:=r1.ol blk _ hb;exact (hg.new _ _ hi).resolve_right (by omega))
   (λm hm=>by
    obtain ⟨A',hA'⟩:=r1.ad m hm;show ∃A',c8 m (a1z n _ st1.ar)=some A'
    rw[c6 hA];split
    ·exact ⟨_,rfl⟩
    ·exact ⟨_,hA'⟩)
  have:=hrel.put (dst:=o.dst) (v:=.tuple #[]) (d:=.tup []) (.data (.tup _ _ rfl (λi v d h=>by simp at h))) hd;refine hn (gI g1 I') _ _ ?_;have e3:({Ev.put st1 o.dst (.tup []) with ar:=a1z n ⟨A.k,xs0,ver,false,false⟩ st1.ar}:St κ El)=Ev.put {st1 with ar:=a1z n ⟨A.k,xs0,ver,false,false⟩ st1.ar} o.dst (.tup []):=by
   cases o.dst<;>rfl
  rw[e3];exact this
def d8a (sgk:SgOk S) (cok:a02 P S call) {cl:Call} {fo:Operand} {f:Nat} {pre caps:List (D κ El)} (ho:o.op=.call cl) (hc:cl.callee=.value fo) (hf:opd st fo=.fn f pre caps) (hm:S.md f=.cons)
 (h:a0m S call q st o.dst f (pre++cl.args.toList.map (opd st)++caps) k=some r):a1e P S o st k r:=by
 unfold a0m at h;rw[hm]at h;cases q with
 |true=>cases h
 |false=>
  simp only at h;split at h
  rotate_left
  ·rename_i rest n hargs hdst;split at h
   ·rename_i kd st1 ds hik hdat;obtain ⟨d,bs',hk,hcon⟩:=cok _ _ _ _ _ h;split at hk
    ·split at hk
     ·rename_i kd' xs;rw[d7]at hk;split at hk
      ·rename_i hfr;refine ⟨_,hk,λc g a w hr hd next Q hn=>?_⟩;obtain ⟨p,cp,e,hs,hv⟩:=a2s (xs:=cl.args) hr hf;rw[hargs]at hs hv;obtain ⟨v0,us,hus,hv0,husz,husv⟩:=a7b hs hv;obtain ⟨g1,r1,l1,b1,e1,x1,hdd⟩:=a28 (N:=λ_=>True) sgk (λ_ _ _ _=>trivial) hdat hr;unfold Con at hcon;rw[hm]at hcon;have e0:v0=.slice none 0 0:=hv0.nil_inv;have hcall:=hcon rfl kd [] ds rfl _ _ rfl w g1.I (LJ (λ_=>True) g1) [] v0 us r1.pre ⟨none,0,by rw[e0];rfl,yav _,.inl ⟨rfl,rfl⟩⟩ (hdd.args husz husv);rw[←hus]at hcall;refine a1r.wp (a2d ho hc e w) hcall (λv w' hq=>?_);obtain ⟨I',hg,base,cap,hv',hcap,hz⟩:=hq;have hnew:e6b S w' I' w.heap.size kd' xs v:=⟨base,cap,hv',hcap,hz.imp id (λ⟨blk,vals,t,q1,q2,q3,q4,q5,q6⟩=>⟨blk,vals,t,q1,q2,q3,q4.resolve_right (by simp),q5,q6⟩)⟩
       obtain ⟨g',hrel⟩:=r1.growArr hg.grow (n:=n) (a0c hfr) hnew (hd n hdst);refine hn g' _ w' ?_;rw[hdst];exact hrel
      ·cases hk
     ·cases hk
    ·cases hk
   ·cases h
  ·cases h
  rename_i n ver rest nd hargs hdst;split at h
  rotate_left
  ·cases h
  rename_i st1 ds hdat;split at h
  rotate_left
  ·cases h
  rename_i A hA;rw[d7]at h;split at h
  rotate_left
  ·cases h
  rename_i hok;rw[yae,yae,yan]at hok;have hneM:n≠MA:=λe=>by have:=hok.2.2;rw[e]at this;simp at this
  replace hok:=And.intro hok.1 hok.2.1;obtain ⟨hver,hdead⟩:=a2r hok.1;obtain ⟨d,bs',hk,hcon⟩:=cok _ _ _ _ _ h;split at hk
  rotate_left
  ·cases hk
  split at hk
  rotate_left
  ·cases hk
  rename_i kd xs;rw[d7]at hk;split at hk
  rotate_left
  ·cases hk
  rename_i hfr;have hfr:=a0c hfr;refine ⟨_,hk,λc g a w hr hd next Q hn=>?_⟩;obtain ⟨p,cp,e,hs,hv⟩:=a2s (xs:=cl.args) hr hf;rw[hargs]at hs hv;obtain ⟨v0,us,hus,hv0,husz,husv⟩:=a7b hs hv;obtain ⟨g1,r1,l1,b1,e1,x1,hdd⟩:=a28 (N:=λ_=>True) sgk (λ_ _ _ _=>trivial) hdat hr;have hAr:=r1.ar n A hA;obtain ⟨base,cap,mb,hav,hown,hmb,hmb1⟩:=hAr.ownA hdead hok.2;obtain ⟨-,hn0,hle0,he0⟩:=(hv0.mono l1).arr_inv;rw[←hver]at he0;have hv0e:=he0 _ hav;unfold Con at hcon;rw[hm]at hcon;have hcall:=hcon rfl A.k A.xs ds rfl kd xs rfl w g1.I (LJ (λ_=>True) g1) mb v0 us (r1.pre_own hmb) (by rw[hv0e];exact hown.lent sgk) (hdd.args husz husv);rw[←hus]at hcall;refine a1r.wp (a2d ho hc e w) hcall (λv w' hq=>?_);obtain ⟨I',hg,base2,cap2,rfl,hcap2,hz2⟩:=hq;have hnn:¬nd=n:=λe=>by subst e;rw[hA]at hfr;cases hfr
  have hadn:=r1.ad_not hfr;obtain ⟨bo,hbo,hbo2,hz3⟩:∃bo:Option Nat,(∀b,bo=some b→w.heap.size≤b∨b∈mb)∧(∀b,bo=some b→b<w'.heap.size)∧(cap2=0∨∃blk vals t,bo=some blk∧base2=some ⟨blk,0,none⟩∧w'.heap[blk]?=some (.cells vals t (0,0))∧vals.size=cap2*S.sz kd∧(∀o,¬I' blk o)∧
   ∀i (hi:i<xs.length) j d,(S.enc kd xs[i])[j]?=some d→∃v,vals[i*S.sz kd+j]?=some v∧DR S w' I' I' v d):=by
   rcases hz2 with h0|⟨blk,vals,t,e1,e2,e3,e4,e5,e6⟩
   ·exact ⟨none,λb hb=>(by cases hb),λb hb=>(by cases hb),.inl h0⟩
   ·exact ⟨some blk,λb hb=>by cases hb;exact e4,λb hb=>by cases hb;exact (yah.1 e2).1,.inr ⟨blk,vals,t,rfl,e1,e2,e3,e5,e6⟩⟩
  let g2:Gh:={a9r (gI g1 I') nd (.slice base2 xs.length cap2) (S.sz kd) bo with
   av:=λm ver=>if m=n then none else if m=nd then (if ver=0 then some (.slice base2 xs.length cap2) else none) else g1.av m ver}
  have stp:Step (λb=>b∈mb) w g1 w' g2:={
   size:=hg.size
   os:=hg.os
   out:=hg.out
   tape:=hg.tape
   keep:=λb hb hM=>⟨hg.keep b hb hM,by
    show (if bo=some b then _ else _)=_
    rw[yap (λe=>by rcases hbo b e with h1|h1;omega;exact hM h1)];rfl⟩
   own:=λb hb=>⟨_,(hmb b hb).1⟩
   I:=λb o' hi=>⟨hg.hI b o' hi,λhb=>absurd hi ((hmb b hb).2.1 o')⟩
   inew:=λb o' hi hlt=>.inl ((hg.new b o' hi).resolve_right (by omega))
   ib:=hg.ib
   ol:=λb x hx=>by
    have hx:(if bo=some b then some (Own.arr nd) else g1.ow b)=some x:=hx;split at hx
    ·rename_i e;exact hbo2 b e
    ·exact yaQ (r1.ol b x hx) hg.size
   J:=λ_ _=>Iff.rfl
   bl:=λ_ _ hb=>hb
   ad:=λ_ ha=>.inr ha
   vc:=λm ha=>by
    show g1.vc m≤(if m=nd then 0 else g1.vc m)
    rw[yap (by rintro rfl;exact hadn ha)];exact yav _
   av:=λm ver u ha _ hv=>by
    have hv:(if m=n then none else if m=nd then _ else g1.av m ver)=some u:=hv;split at hv
    ·cases hv
    ·rwa [yap (by rintro rfl;exact hadn ha)]at hv
   az:=λm ha=>by
    show (if m=nd then S.sz kd else g1.az m)=g1.az m
    rw[yap (by rintro rfl;exact hadn ha)]
   owk:=λb ho=>by
    show (if bo=some b then _ else _)=_
    rw[yap (λe=>by
     rcases hbo b e with h1|h1
     ·have:=r1.ol b _ ho;omega
     ·have h2:=(hmb b h1).1;rw[ho]at h2;cases h2;exact hneM rfl)]
    exact ho}
  have le:=stp.le r1;have hrel:Rel S c {Ev.put st1 (some nd) (.arr nd 0) with ar:=(nd,⟨kd,xs,0,false,false⟩)::a1z n {A with dead:=true} st1.ar} g2 (a.put (some nd) (.slice base2 xs.length cap2)) w':=by
   refine r1.step stp (by rw[Act.put_size];exact r1.nt) (by rw[Act.put_defers'];exact r1.df) (λs d' hs=>?_) (λb cs' hb'=>?_) r1.bd (λm A' hA'=>?_) (λm hm=>?_)
   ·refine r1.env_put le (d:=.arr nd 0) (.slc base2 xs.length cap2 nd 0 (.inl rfl) (ybY _) (λv' hv'=>?_)) (λt ht=>by cases ht;exact hd nd hdst) hs;have hv':(if nd=n then none else if nd=nd then (if (0:Nat)=0 then some (Value.slice base2 xs.length cap2) else none) else g1.av nd 0)=some v':=hv';rw[yap hnn,yaF rfl,yaF rfl]at hv';cases hv';rfl
   ·have hb':c8 b st1.bx=some cs':=by simpa[Ev.put]using hb'
    refine .inl ⟨hb',λblk hb1 hb2=>?_⟩;have:=(hmb blk hb2).1;rw[r1.bx_ow hb1]at this;cases this
   ·replace hA':c8 m ((nd,⟨kd,xs,0,false,false⟩)::a1z n {A with dead:=true} st1.ar)=some A':=hA';rw[e8]at hA';split at hA'
    ·rename_i e;subst e;cases hA'
     refine .inr ⟨.inl rfl,by simp[g2,a9r],by simp[g2,a9r],λ_=>⟨base2,cap2,by simp[g2,hnn],hcap2,?_⟩,λver v hv=>?_,λ_=>⟨rfl,rfl⟩,λh=>(by cases h)⟩
     ·refine hz3.imp id ?_;rintro ⟨blk,vals,t,hbo,e1,e2,e3,e5,e6⟩;refine ⟨blk,vals,t,e1,e2,e3,by simp[g2,a9r,hbo],λo hi=>absurd hi (e5 o),λhse=>(by cases hse),λi hi j d hj=>?_⟩;obtain ⟨u,a1,a2⟩:=e6 i hi j d hj;exact ⟨u,a1,a2.mono (λb o hi=>⟨rfl,hi⟩) (λb o hi=>⟨rfl,.inl hi⟩)⟩
     ·have hv:(if m=n then none else if m=m then (if ver=0 then some (Value.slice base2 xs.length cap2) else none) else g1.av m ver)=some v:=hv;rw[yap hnn,yaF rfl]at hv;split at hv
      ·rename_i e;exact ⟨e,.inl rfl⟩
      ·cases hv
    ·rename_i e;rw[c6 hA]at hA';split at hA'
     ·rename_i e';subst e';cases hA'
      refine .inr ⟨.inr hAr.ad,?_,?_,λhd=>(by cases hd),λver v hv=>?_,hAr.own,λ_ h=>(by simp only at h;rw[hok.2]at h;cases h)⟩
      ·show (if m=nd then _ else g1.az m)=_
       rw[yap e];exact hAr.az
      ·show (if m=nd then _ else g1.vc m)=_
       rw[yap e];exact hAr.vc
      ·have hv:(if m=m then none else _)=some v:=hv;rw[yaF rfl]at hv;cases hv
     ·rename_i e';refine .inl ⟨hA',λver=>?_,?_,λblk hb hM=>?_,λblk o' hb hi=>?_⟩
      ·show (if m=n then none else if m=nd then _ else g1.av m ver)=_
       rw[yap e',yap e]
      ·show (if m=nd then _ else g1.vc m)=_
       rw[yap e]
      ·have:=(hmb blk hM).1;rw[hb]at this;cases this;exact e' rfl
      ·have hlt:=r1.ol blk _ hb;exact (hg.new _ _ hi).resolve_right (by omega)
   ·show ∃A',c8 m ((nd,⟨kd,xs,0,false,false⟩)::a1z n {A with dead:=true} st1.ar)=some A'
    rw[e8];split
    ·exact ⟨_,rfl⟩
    ·rename_i e;obtain ⟨A',hA'⟩:=r1.ad m (hm.resolve_left e);rw[c6 hA];split
     ·exact ⟨_,rfl⟩
     ·exact ⟨_,hA'⟩
  refine hn g2 _ _ ?_;rw[hdst];exact hrel
end
end
section
def e5p {α:Type} (key:α→Int) (n:Int) (e:α):List α→List α
 | []=>[e]
 |x::xs=>bif key x==n then e::xs else x::e5p key n e xs
def c6b {α:Type} (key:α→Int) (n:Int):List α→Option α
 | []=>none
 |x::xs=>bif key x==n then some x else c6b key n xs
def c2s {α:Type} (key:α→Int) (n:Int) (e:α):∀(es:List MapEntry) (xs:List α) (i:Nat),es.length=xs.length→(∀(j:Nat) en x,es[j]?=some en→xs[j]?=some x→en.key=.int .i64 (key x))→
 (c6b key n xs=none∧Instr.findNow (.int .i64) (.int .i64 n) es i=some none∧e5p key n e xs=xs++[e])∨
 ∃j en x,c6b key n xs=some x∧es[j]?=some en∧xs[j]?=some x∧key x=n∧Instr.findNow (.int .i64) (.int .i64 n) es i=some (some (i+j,en.val))∧e5p key n e xs=xs.set j e:=by
 intro es
 induction es with
 |nil=>
  intro xs i hl h;cases xs with
  |nil=>exact .inl ⟨rfl,rfl,rfl⟩
  |cons x xs=>simp at hl
 |cons en es ih=>
  intro xs i hl h;cases xs with
  |nil=>simp at hl
  |cons x xs=>
   have hk:en.key=.int .i64 (key x):=h 0 en x rfl rfl;have hs:Instr.sameNow (.int .i64) (.int .i64 n) en.key=some (n==key x):=by rw[hk];rfl
   cases hb:key x==n with
   |true=>
    have hb':(n==key x)=true:=by rw[ya6]at hb ⊢;exact hb.symm
    exact .inr ⟨0,en,x,by simp[c6b,hb],rfl,rfl,by simpa using hb,by simp[Instr.findNow,hs,hb'],by simp[e5p,hb]⟩
   |false=>
    have hb':(n==key x)=false:=by
     rw[yaY]at hb ⊢;exact λq=>hb q.symm
    rcases ih xs (i+1) (by simpa using hl) (λj en x h1 h2=>h (j+1) en x h1 h2) with ⟨h1,h2,h3⟩|⟨j,en',x',h1,h2,h3,h4,h5,h6⟩
    ·exact .inl ⟨by simp[c6b,hb,h1],by simp[Instr.findNow,hs,hb',h2],by simp[e5p,hb,h3]⟩
    ·refine .inr ⟨j+1,en',x',by simp[c6b,hb,h1],h2,h3,h4,?_,by simp[e5p,hb,h6]⟩;simp[Instr.findNow,hs,hb',h5];omega
section
variable {κ:Type} {El:κ→Type} {S:Sg κ El} {P:Program}
variable {c:Cx} {st:St κ El} {g:Gh} {a:Act} {w:World} {R:Type} [KdEq κ]
variable {o:Oper} {q:Bool} {call:Nat→List (D κ El)→List (List (D κ El))→(D κ El→List (List (D κ El))→Option R)→Option R} {k:St κ El→Option R} {r:R}
def h51:D κ El→Prop
 |.int _ _=>True
 |.bool _=>True
 |.str _=>True
 |_=>False
def VR.scal_dr {v:Value} {d:D κ El} (h:VR S w g v d) (hs:h51 d):DR S w g.I g.J v d:=by
 cases d<;>first|exact hs.elim|skip
 all_goals (cases h with|data h=>exact h)
def e6a (P:Program) (S:Sg κ El) (t:Nat) (M:MpK κ El):Prop:=
 ∃(kt et:Nat) (key:El M.k→Int) (val:El M.k→D κ El) (z:Value) (zd:D κ El),
  S.isb M.k=false∧P.underlying t=some (.map kt et)∧P.underlying kt=some (.int .i64)∧(∀w,(zeroValue et).run P w=.ok z w)∧(∀w I J,DR S w I J z zd)∧
  (∀x,S.enc M.k x=[.int .i64 (key x),val x])∧
  (∀xs n,M.get xs n=(c6b key n xs).elim zd val)∧
  (∀xs n,M.has xs n=(c6b key n xs).isSome)∧
  (∀xs n y ys,M.set xs n y=some ys→h51 y∧∃e,key e=n∧val e=y∧ys=e5p key n e xs)
def b4c {A:Ar κ El} {v:Nat} (h:d2m A v=true):A.ver=v∧A.dead=true∧A.sealed=true:=by
 unfold d2m at h;simp only[yae,yaS]at h;exact h
def Rel.growMap (hr:Rel S c st g a w) {n:Nat} {kd:κ} (hisb:S.isb kd=false) (hn:c8 n st.ar=none) (hne:n<MA) (hdst:n<c.nt) :
 ∃g',Rel S c {Ev.put st (some n) (.arr n 0) with ar:=(n,⟨kd,[],0,true,true⟩)::st.ar} g' (a.put (some n) (.map (some w.heap.size))) (w.alloc (.map #[] 0)):=by
 have h:=Grow.alloc hr.ib (.map #[] 0);have hsz:(w.alloc (.map #[] 0)).heap.size=w.heap.size+1:=Array.size_push ..;have s:=h.stepArr (n:=n) (z:=S.sz kd) (v:=.map (some w.heap.size)) (blk:=some w.heap.size) hr.ol (λb hb=>by cases hb;omega) (hr.ad_not hn) (λb hb=>by cases hb;exact yav _);have le:=s.le hr;refine ⟨_,hr.step s (by rw[Act.put_size];exact hr.nt) (by rw[Act.put_defers'];exact hr.df) (λs d' hs=>?_) (λb cs' hb'=>?_) hr.bd (λm A hA=>?_) (λm hm=>?_)⟩
 ·refine hr.env_put le (d:=.arr n 0) (.arr _ n 0 (.inr (.inl ⟨_,rfl⟩)) (.inl rfl) (ybY _) (λv' hv'=>?_)) (λt ht=>by cases ht;exact hdst) hs;have hv':(if n=n then (if (0:Nat)=0 then some (Value.map (some w.heap.size)) else none) else g.av n 0)=some v':=hv';rw[yaF rfl,yaF rfl]at hv';cases hv';rfl
 ·have hb':c8 b st.bx=some cs':=by simpa[Ev.put]using hb'
  exact .inl ⟨hb',λ_ _ hf=>hf⟩
 ·replace hA:c8 m ((n,⟨kd,[],0,true,true⟩)::st.ar)=some A:=hA;rw[e8]at hA;split at hA
  ·rename_i e;subst e;cases hA
   refine .inr ⟨.inl rfl,by simp[a9r],by simp[a9r],λh=>(by cases h),λver v hv=>?_,λe=>absurd e (by omega),λ_ _=>.inl ⟨hisb,w.heap.size,#[],0,by simp[a9r],a2q w _,by simp[a9r],rfl,λi e x he=>by simp at he⟩⟩;have hv:(if m=m then (if ver=0 then some (Value.map (some w.heap.size)) else none) else g.av m ver)=some v:=hv;rw[yaF rfl]at hv;split at hv
   ·rename_i e;exact ⟨e,.inr rfl⟩
   ·cases hv
  ·rename_i e;refine .inl ⟨hA,λver=>?_,?_,λ_ _ hf=>hf,h.keepArr hr⟩
   ·show (if m=n then _ else g.av m ver)=_
    rw[yap e]
   ·show (if m=n then 0 else g.vc m)=_
    rw[yap e]
 ·show ∃A,c8 m ((n,⟨kd,[],0,true,true⟩)::st.ar)=some A
  rw[e8];split
  ·exact ⟨_,rfl⟩
  ·rename_i e;exact hr.ad m (hm.resolve_left e)
def c6f (hG:∀t M,S.mpk t=some M→e6a P S t M) {t:Nat} {z:Option Operand} (ho:o.op=.makeMap t z) (h:aop P S call q o st k=some r):a1e P S o st k r:=by
 unfold aop at h;simp only[ho]at h;cases z with
 |some z=>cases h
 |none=>
  simp only at h;split at h
  ·rename_i M d hM hdst;rw[d7]at h;split at h
   ·rename_i hc;rw[yae]at hc;have hfr:=a0c hc.1;have hlt:d<MA:=ya4 hc.2;refine ⟨_,h,.of_run λc g a w hr hd=>?_⟩;obtain ⟨g',hrel⟩:=hr.growMap (kd:=M.k) (by obtain ⟨_,_,_,_,_,_,h0,-⟩:=hG t M hM;exact h0) hfr hlt (hd d hdst);refine ⟨_,_,g',?_,by rw[hdst];exact hrel⟩;unfold execOp;simp only[ho];exact z6 (Go.RowKit.run_makeMap t w)
   ·cases h
  ·cases h
def f0c {t:Nat} {x i:D κ El} {ok:Bool} {k:D κ El→Option R} (h:b1u S st t x i ok k=some r) :
 ∃a v n M A xs,x=.arr a v∧i=.int .i64 n∧S.mpk t=some M∧c8 a st.ar=some A∧d2m A v=true∧(a56 A.xs:Option (List (El M.k)))=some xs∧
  (bif ok then k (.tup [M.get xs n,.bool (M.has xs n)]) else k (M.get xs n))=some r:=by
 unfold b1u at h;split at h
 ·rename_i a v n;split at h
  ·rename_i M A hM hA;rw[d7]at h;split at h
   ·rename_i hok;split at h
    ·rename_i xs hxs;exact ⟨a,v,n,M,A,xs,rfl,rfl,hM,hA,hok,hxs,h⟩
    ·cases h
   ·cases h
  ·cases h
 ·cases h
def e50 {t:Nat} {x i y:D κ El} {k:St κ El→Option R} (h:g59 S st t x i y k=some r) :
 ∃a v n M A xs ys,x=.arr a v∧i=.int .i64 n∧S.mpk t=some M∧c8 a st.ar=some A∧d2m A v=true∧solid y=true∧(a56 A.xs:Option (List (El M.k)))=some xs∧
  M.set xs n y=some ys∧k {st with ar:=a1z a ⟨M.k,ys,v,true,true⟩ st.ar}=some r:=by
 unfold g59 at h;split at h
 ·rename_i a v n;split at h
  ·rename_i M A hM hA;rw[d7]at h;split at h
   ·rename_i hok;rw[yae]at hok;split at h
    ·rename_i xs hxs;split at h
     ·rename_i ys hys;exact ⟨a,v,n,M,A,xs,ys,rfl,rfl,hM,hA,hok.1,hok.2,hxs,hys,h⟩
     ·cases h
    ·cases h
   ·cases h
  ·cases h
 ·cases h
def Rel.mapOf (hr:Rel S c st g a w) {x:Operand} {n v:Nat} {A:Ar κ El} (hisb:S.isb A.k=false) (hx:Ev.opd st x=.arr n v) (hA:c8 n st.ar=some A) (hok:d2m A v=true) :
 ∃blk es clk,a.eval x=.map (some blk)∧w.heap[blk]?=some (.map es clk)∧g.ow blk=some (.arr n)∧es.size=A.xs.length∧
  ∀(i:Nat) (e:MapEntry) (x:El A.k),es[i]?=some e→A.xs[i]?=some x→∃kd vd,S.enc A.k x=[kd,vd]∧DR S w g.I g.J e.key kd∧DR S w g.I g.J e.val vd:=by
 obtain ⟨rfl,h2,h3⟩:=b4c hok;have hv:=hr.opd x;rw[hx]at hv;obtain ⟨-,-,-,he⟩:=hv.arr_inv;obtain ⟨blk,es,clk,e1,e2,e3,e4,e5⟩:=((hr.ar n A hA).mp h2 h3).map hisb;exact ⟨blk,es,clk,he _ e1,e2,e3,e4,e5⟩
def d3h (hG:∀t M,S.mpk t=some M→e6a P S t M) {t:Nat} {x i:Operand} {ok:Bool} (ho:o.op=.lookup t x i ok) (h:aop P S call q o st k=some r):a1e P S o st k r:=by
 unfold aop at h;simp only[ho]at h;obtain ⟨n,v,m,M,A,xs,hx,hi,hM,hA,hok,hxs,hk⟩:=f0c h;obtain ⟨kt,et,key,val,z,zd,h0,h1,h2,h3,h4,h5,h6,h7,h8⟩:=hG t M hM;obtain ⟨Ak,Axs,Av,As,Ad⟩:=A;obtain ⟨hk',hxs⟩:=a5p hxs;simp only at hk' hxs;subst hk';simp only at hxs;subst hxs;have hmain:∀(c:Cx) (g:Gh) (a:Act) (w:World),Rel S c st g a w→∃rv rb,(execOp a.eval o).run P w=.ok (.value (if ok then .tuple #[rv,.bool rb] else rv)) w∧VR S w g rv (M.get Axs m)∧rb=M.has Axs m:=by
  intro c g a w hr;obtain ⟨blk,es,clk,e1,e2,e3,e4,e5⟩:=hr.mapOf (by exact h0) hx hA hok;simp only at e4 e5;have hvi:=hr.opd i;rw[hi]at hvi;have e6:=hvi.int_inv;have hkey:∀(j:Nat) en x,es.toList[j]?=some en→Axs[j]?=some x→en.key=.int .i64 (key x):=by
   intro j en x a1 a2;obtain ⟨kd,vd,b1,b2,b3⟩:=e5 j en x (by simpa using a1) a2;rw[h5]at b1;cases b1
   exact b2.int_inv
  have hck:∀e n,(Instr.checkKey e (n+1) kt (.int .i64 m)).run P w=.ok () w:=λe n=>Go.MapKept.run_checkKey (d:=.int .i64) h2 (k:=.int .i64 m) (show IntKind.i64=IntKind.i64 from rfl) e n
  by_cases hne:Axs=[]
  ·subst hne;have he0:es.toList=[]:=yaq (by simpa using e4);have hf:(Instr.findKey kt (.int .i64 m) es.toList).run P w=.ok none w:=Go.MapKept.run_findKey h2 (by rw[he0];rfl);refine ⟨z,false,?_,?_,by rw[h7];rfl⟩
   ·unfold execOp;simp only[ho,e1,e6];refine (z6 (v:=if ok then .tuple #[z,.bool false] else z) (w':=w) ?_);simp[Instr.lookup,run_underlying h1,Go.MapKept.run_getObj_map e2,hck,hf,h3,Result.andThen]
   ·rw[h6];exact .data (h4 w _ _)
  ·obtain ⟨x0,xs0,rfl⟩:=List.exists_cons_of_ne_nil hne;rcases c2s key m x0 es.toList (x0::xs0) 0 (by simpa using e4) hkey with ⟨f1,f2,-⟩|⟨j,en,x,f1,f2,f3,f4,f5,-⟩
   ·have hf:=Go.MapKept.run_findKey (P:=P) (w:=w) h2 f2;refine ⟨z,false,?_,?_,by rw[h7,f1];rfl⟩
    ·unfold execOp;simp only[ho,e1,e6];refine (z6 (v:=if ok then .tuple #[z,.bool false] else z) (w':=w) ?_);simp[Instr.lookup,run_underlying h1,Go.MapKept.run_getObj_map e2,hck,hf,h3,Result.andThen]
    ·rw[h6,f1];exact .data (h4 w _ _)
   ·have hf:=Go.MapKept.run_findKey (P:=P) (w:=w) h2 f5;refine ⟨en.val,true,?_,?_,by rw[h7,f1];rfl⟩
    ·unfold execOp;simp only[ho,e1,e6];refine (z6 (v:=if ok then .tuple #[en.val,.bool true] else en.val) (w':=w) ?_);simp[Instr.lookup,run_underlying h1,Go.MapKept.run_getObj_map e2,hck,hf,h3,Result.andThen]
    ·rw[h6,f1];obtain ⟨kd,vd,b1,b2,b3⟩:=e5 j en x (by simpa using f2) f3;rw[h5]at b1;cases b1
     exact .data b3
 cases ok with
 |false=>
  refine a1e.val (d:=M.get Axs m) hk λc g a w hr=>?_
  obtain ⟨rv,rb,a1,a2,a3⟩:=hmain c g a w hr;exact ⟨rv,a1,a2⟩
 |true=>
  refine a1e.val (d:=.tup [M.get Axs m,.bool (M.has Axs m)]) hk λc g a w hr=>?_
  obtain ⟨rv,rb,a1,a2,rfl⟩:=hmain c g a w hr;refine ⟨_,a1,.tup _ _ rfl λi v d b1 b2=>?_⟩
  match i,b1,b2 with
  |0,b1,b2=>cases b1;cases b2;exact a2
  |1,b1,b2=>cases b1;cases b2;exact .data (.bool _)
  |i+2,b1,b2=>simp at b2
def c9i (hr:Rel S c st g a w) {blk:Nat} {es:Array MapEntry} {clk:Nat} {es':Array MapEntry} {clk':Nat} {x:Own} (ho:g.ow blk=some x) (hb:w.heap[blk]?=some (.map es clk)) :
 Step (λb=>b=blk) w g {w with heap:=w.heap.setIfInBounds blk (.map es' clk')} g where
 size:=by simp
 os:=rfl
 out:=rfl
 tape:=rfl
 keep:=λb _ hne=>⟨(Go.MapKept.heap_set hb).2 b hne,rfl⟩
 own:=λb hb=>⟨x,by rw[hb];exact ho⟩
 I:=λb o hi=>⟨hi,λhb'=>by
  subst hb';have h1:=(Go.MapKept.heap_set (o':=.map es' clk') hb).1;simp only[World.cell?,h1,hb]⟩
 inew:=λb o hi _=>.inl hi
 ib:=λb o hi=>by simpa using hr.ib b o hi
 ol:=λb x hx=>by simpa using hr.ol b x hx
 J:=λb o=>⟨λhj=>.inr hj,λhj=>hj.elim (hr.ij b o) id⟩
 bl:=λ_ _ hb=>hb
 ad:=λ_ ha=>ha
 vc:=λ_ _=>yav _
 av:=λ_ _ _ _ _ hv=>hv
 az:=λ_ _=>rfl
 owk:=λ_ h=>h
def a9d (hG:∀t M,S.mpk t=some M→e6a P S t M) {t:Nat} {x i y:Operand} (ho:o.op=.mapUpdate t x i y∨o.op=.insert t x i y) (h:aop P S call q o st k=some r):a1e P S o st k r:=by
 have hau:aop P S call q o st k=(bif a6n o.dst then g59 S st t (opd st x) (opd st i) (opd st y) k else none):=by rcases ho with ho|ho<;>(unfold aop;simp only[ho])
 rw[hau]at h;rw[d7]at h;split at h
 rotate_left
 ·cases h
 rename_i hdn;have hdn:=a0c hdn;obtain ⟨n,v,m,M,A,xs,ys,hx,hi,hM,hA,hok,-,hxs,hys,hk⟩:=e50 h;obtain ⟨kt,et,key,val,z,zd,h0,h1,h2,h3,h4,h5,h6,h7,h8⟩:=hG t M hM;obtain ⟨Ak,Axs,Av,As,Ad⟩:=A;obtain ⟨hk',hxs⟩:=a5p hxs;simp only at hk' hxs;subst hk';simp only at hxs;subst hxs;obtain ⟨hver,hde,hse⟩:=b4c hok;simp only at hver hde hse;obtain ⟨hsc,e0,he0,he1,rfl⟩:=h8 _ _ _ _ hys;refine ⟨_,hk,λc g a w hr hd next Q hn=>?_⟩;obtain ⟨blk,es,clk,e1,e2,e3,e4,e5⟩:=hr.mapOf (by exact h0) hx hA hok;simp only at e4 e5;have hvi:=hr.opd i;rw[hi]at hvi;have e6:=hvi.int_inv;have hvy:=(hr.opd y).scal_dr hsc;have hkey:∀(j:Nat) en x,es.toList[j]?=some en→Axs[j]?=some x→en.key=.int .i64 (key x):=by
  intro j en x a1 a2;obtain ⟨kd,vd,b1,b2,b3⟩:=e5 j en x (by simpa using a1) a2;rw[h5]at b1;cases b1
  exact b2.int_inv
 have hck:∀e n,(Instr.checkKey e (n+1) kt (.int .i64 m)).run P w=.ok () w:=λe n=>Go.MapKept.run_checkKey (d:=.int .i64) h2 (k:=.int .i64 m) (show IntKind.i64=IntKind.i64 from rfl) e n
 have hmain:∃es' clk',(Instr.mapUpdate t (.map (some blk)) (.int .i64 m) (a.eval y)).run P w=.ok () {w with heap:=w.heap.setIfInBounds blk (.map es' clk')}∧es'.size=(e5p key m e0 Axs).length∧
  ∀(i:Nat) (e:MapEntry) (x:El M.k),es'[i]?=some e→(e5p key m e0 Axs)[i]?=some x→∃kd vd,S.enc M.k x=[kd,vd]∧DR S w g.I g.J e.key kd∧DR S w g.I g.J e.val vd:=by
  have hnew:∀b,∃kd vd,S.enc M.k e0=[kd,vd]∧DR S w g.I g.J (MapEntry.mk (.int .i64 m) (a.eval y) b).key kd∧DR S w g.I g.J (MapEntry.mk (.int .i64 m) (a.eval y) b).val vd:=
   λb=>⟨_,_,h5 e0,by rw[he0];exact .int _ _,by rw[he1];exact hvy⟩
  rcases c2s key m e0 es.toList Axs 0 (by simpa using e4) hkey with ⟨f1,f2,f6⟩|⟨j,en,x,f1,f2,f3,f4,f5,f6⟩
  ·have hf:=Go.MapKept.run_findKey (P:=P) (w:=w) h2 f2;refine ⟨es.push ⟨.int .i64 m,a.eval y,clk⟩,clk+1,?_,by rw[f6];simp[e4],λi e x he hx=>?_⟩
   ·simp[Instr.mapUpdate,run_underlying h1,Go.MapKept.run_getObj_map e2,hck,hf,Go.MapKept.run_setObj_map _ e2,Result.andThen]
   ·rw[f6]at hx;rw[yb3]at he;split at he
    ·rename_i hi;cases he
     rw[hi,e4,List.getElem?_concat_length]at hx;cases hx
     exact hnew _
    ·have hi:i<es.size:=(yah.1 he).1;rw[yat (by omega)]at hx;exact e5 i e x he hx
  ·have hf:=Go.MapKept.run_findKey (P:=P) (w:=w) h2 f5;have hj:es[j]?=some en:=by simpa using f2
   have hjlt:j<es.size:=(yah.1 hj).1;have hkk:en.key=.int .i64 m:=by rw[hkey j en x f2 f3,f4]
   have hst:(Instr.keyThatStays (.int .i64 m) (.int .i64 m)).run P w=.ok (.int .i64 m) w:=Go.MapKept.run_keyThatStays (d:=.int .i64) (k:=.int .i64 m) (show IntKind.i64=IntKind.i64 from rfl);refine ⟨es.modify j λe=>{e with key:=.int .i64 m,val:=a.eval y},clk,?_,by rw[f6];simp[e4],λi e x' he hx=>?_⟩
   ·simp[Instr.mapUpdate,run_underlying h1,Go.MapKept.run_getObj_map e2,hck,hf,hj,hkk,hst,Go.MapKept.run_setObj_map _ e2,Result.andThen]
   ·rw[f6]at hx;rw[Array.getElem?_modify]at he;split at he
    ·rename_i hi;subst hi;rw[hj]at he;cases he
     rw[ybx (by omega)]at hx;cases hx
     exact hnew _
    ·rename_i hi;rw[List.getElem?_set_ne hi]at hx;exact e5 i e x' he hx
 obtain ⟨es',clk',hrun,hlen,hels⟩:=hmain;have s:=c9i hr (es':=es') (clk':=clk') e3 e2;have le:=s.le hr;rcases ho with ho|ho
 all_goals
  unfold Oper.wp execOp;simp only[ho,e1,e6,Sem.run_bind,hrun,Result.andThen_ok,Sem.run_pure];show next (a.put o.dst undef) _
  rw[hdn];refine hn g a _ (hr.step s hr.nt hr.df (λs d hs=>hr.env_le le hs) (λb' cs'' hb'=>?_) hr.bd (λn' A' hA'=>?_) (λn' hn'=>?_))
  ·refine .inl ⟨hb',λblk' hb'' hM=>?_⟩;have hM:blk'=blk:=hM;subst hM;have:=hr.bx_ow hb'';rw[e3]at this;cases this
  ·rw[c6 hA]at hA';split at hA'
   ·rename_i en;subst en;cases hA'
    have hAr:=hr.ar _ _ hA;obtain ⟨blk0,es0,clk0,k1,k2,k3,-,-⟩:=(hAr.mp hde hse).map h0;have hbb:a.eval x=.map (some blk0):=by
     have hv:=hr.opd x;rw[hx]at hv;obtain ⟨-,-,-,he⟩:=hv.arr_inv;exact he _ (by rw[←hver];exact k1)
    rw[e1]at hbb;cases hbb
    refine .inr ⟨hAr.ad,hAr.az,by rw[←hver];exact hAr.vc,λh=>(by cases h),λver u hu=>⟨by rw[←hver];exact (hAr.ver ver u hu).1,.inr rfl⟩,λe=>?_,λ_ _=>.inl ⟨h0,blk,es',clk',by rw[←hver];exact k1,(Go.MapKept.heap_set e2).1,e3,hlen,λi e x he hx=>?_⟩⟩
    ·have:=(hAr.own e).2;simp only at this;rw[hse]at this;cases this
    ·obtain ⟨kd,vd,b1,b2,b3⟩:=hels i e x he hx;exact ⟨kd,vd,b1,b2.mono le.I le.J,b3.mono le.I le.J⟩
   ·rename_i en;refine .inl ⟨hA',λ_=>rfl,rfl,λblk' hb' hM=>?_,λ_ _ _ hi=>hi⟩;have hM:blk'=blk:=hM;subst hM;rw[e3]at hb';cases hb';exact en rfl
  ·rw[c6 hA];split
   ·exact ⟨_,rfl⟩
   ·exact hr.ad n' hn'
def d72 {m:Nat} {dst:Option Nat} {args:List (D κ El)} {k:St κ El→Option R} (h:g8q S m st dst args k=some r) :
 ∃B a v rest A xs,S.bl=some B∧args=.arr a v::rest∧c8 a st.ar=some A∧d2m A v=true∧(a56 A.xs:Option (List (El B.k)))=some xs∧
  ((m=1∧∃s,rest=[.str s]∧xs.length+s.length≤LIM∧k {put st dst .undef with ar:=a1z a ⟨B.k,xs++B.of s,v,true,true⟩ st.ar}=some r)∨
   (m=2∧rest=[]∧k {put st dst (.str (B.to xs)) with ar:=a1z a ⟨B.k,[],v,false,true⟩ st.ar}=some r)):=by
 unfold g8q at h;split at h
 ·rename_i B a v rest hB;split at h
  ·rename_i A hA;rw[d7]at h;split at h
   ·rename_i hok;split at h
    ·rename_i xs hxs;refine ⟨B,a,v,rest,A,xs,hB,rfl,hA,hok,hxs,?_⟩;split at h
     ·rename_i s;rw[d7]at h;split at h
      ·rename_i hl;exact .inl ⟨rfl,s,rfl,yaW hl,h⟩
      ·cases h
     ·exact .inr ⟨rfl,rfl,h⟩
     ·cases h
    ·cases h
   ·cases h
  ·cases h
 ·cases h
end
end
section
def c59 (blk:Nat) (v v':Value) (w w':World):Prop:=
 w.heap.size≤w'.heap.size∧w'.os=w.os∧w'.output=w.output∧w'.tape=w.tape∧(∀b,b<w.heap.size→b≠blk→obk v≠some b→w'.heap[b]?=w.heap[b]?)∧∀bb,obk v'=some bb→obk v=some bb∨w.heap.size≤bb
def a9c (P:Program) (T e f:Nat):Prop:=
 ∀(w:World) (blk:Nat) (p v:Value) (l:List UInt8) (s:ByteArray),(p=.pointer none∨p=.pointer (some ⟨blk,0,none⟩))→w.heap[blk]?=some (.cells #[p,v] T (0,0))→c09 w blk e l v→l.length+s.data.toList.length≤LIM→
  a1r P f #[.pointer (some ⟨blk,0,none⟩),.string s] w λ_ w'=>∃p' v',(p'=.pointer none∨p'=.pointer (some ⟨blk,0,none⟩))∧w'.heap[blk]?=some (.cells #[p',v'] T (0,0))∧c09 w' blk e (l++s.data.toList) v'∧c59 blk v v' w w'
def b0b (P:Program) (T e f:Nat):Prop:=
 ∀(w:World) (blk:Nat) (p v:Value) (l:List UInt8),(p=.pointer none∨p=.pointer (some ⟨blk,0,none⟩))→w.heap[blk]?=some (.cells #[p,v] T (0,0))→c09 w blk e l v→
  a1r P f #[.pointer (some ⟨blk,0,none⟩)] w λr w'=>r=.string ⟨l.toArray⟩∧c59 blk v v w w'
section
variable {κ:Type} {El:κ→Type} {S:Sg κ El} {P:Program}
variable {c:Cx} {st:St κ El} {g:Gh} {a:Act} {w:World} {R:Type} [KdEq κ]
variable {o:Oper} {q:Bool} {call:Nat→List (D κ El)→List (List (D κ El))→(D κ El→List (List (D κ El))→Option R)→Option R} {k:St κ El→Option R} {r:R}
structure BlSpec (P:Program) (S:Sg κ El) (B:BlK κ El):Prop where
 isb:S.isb B.k=true
 nil:B.to []=[]
 app:∀l s,B.to (l++B.of s)=B.to l++s
 len:∀l,(B.to l).length=l.length
 zero:∃i z,P.info? B.t=some i∧i.zero=some z∧z.cells = #[.pointer none,.slice none 0 0]
 fw:∀f,S.md f=.bld→(B.fw f=1→a9c P B.t B.e f)∧(B.fw f=2→b0b P B.t B.e f)
def g8p (l:List Int) (s:List UInt8):blJ (l++blI s)=blJ l++s:=by
 unfold blJ blI;rw[List.map_append,List.map_map];congr 1;rw[show ((λn:Int=>UInt8.ofNat n.toNat)∘λb:UInt8=>(b.toNat:Int))=id from funext λb=>by simp];exact List.map_id s
def f6p (l:List Int):(blJ l).length=l.length:=by unfold blJ;exact ybn ..
def d71 {k:κ} {of:List UInt8→List (El k)} {to:List (El k)→List UInt8} {t e a b:Nat} (h1:S.isb k=true) (happ:∀l s,to (l++of s)=to l++s) (hnil:to []=[]) (hlen:∀l,(to l).length=l.length)
 (hz:(P.info? t).bind (·.zero)=some (.agg #[.pointer none,.slice none 0 0])) (hw:a9c P t e a) (hs:b0b P t e b):BlSpec P S ⟨k,of,to,t,e,g0z a b⟩:=by
 refine ⟨h1,hnil,happ,hlen,?_,λf _=>⟨λh=>?_,λh=>?_⟩⟩
 ·obtain ⟨i,hi,hz⟩:=ya5.1 hz;exact ⟨i,_,hi,hz,rfl⟩
 ·have h:g0z a b f=1:=h;unfold g0z at h;rw[d7]at h;split at h
  ·rename_i hf;rw[yaS]at hf;subst hf;exact hw
  ·rw[d7]at h;split at h<;>cases h
 ·have h:g0z a b f=2:=h;unfold g0z at h;rw[d7]at h;split at h
  ·cases h
  ·rw[d7]at h;split at h
   ·rename_i hf;rw[yaS]at hf;subst hf;exact hs
   ·cases h
def Rel.growBld (hr:Rel S c st g a w) {n:Nat} {B:BlK κ El} (hB:S.bl=some B) (hs:BlSpec P S B) (hn:c8 n st.ar=none) (hne:n<MA) (hdst:n<c.nt) :
 ∃g',Rel S c {Ev.put st (some n) (.arr n 0) with ar:=(n,⟨B.k,[],0,true,true⟩)::st.ar} g' (a.put (some n) (.pointer (some ⟨w.heap.size,0,none⟩))) (w.alloc (.cells #[.pointer none,.slice none 0 0] B.t)):=by
 have h:=Grow.alloc hr.ib (.cells #[.pointer none,.slice none 0 0] B.t);have hsz:(w.alloc (.cells #[.pointer none,.slice none 0 0] B.t)).heap.size=w.heap.size+1:=Array.size_push ..;have s:=h.stepArr (n:=n) (z:=S.sz B.k) (v:=.pointer (some ⟨w.heap.size,0,none⟩)) (blk:=some w.heap.size) hr.ol (λb hb=>by cases hb;omega) (hr.ad_not hn) (λb hb=>by cases hb;exact yav _);have le:=s.le hr;refine ⟨_,hr.step s (by rw[Act.put_size];exact hr.nt) (by rw[Act.put_defers'];exact hr.df) (λs d' hs=>?_) (λb cs' hb'=>?_) hr.bd (λm A hA=>?_) (λm hm=>?_)⟩
 ·refine hr.env_put le (d:=.arr n 0) (.arr _ n 0 (.inr (.inr ⟨_,rfl⟩)) (.inl rfl) (ybY _) (λv' hv'=>?_)) (λt ht=>by cases ht;exact hdst) hs;have hv':(if n=n then (if (0:Nat)=0 then some (Value.pointer (some ⟨w.heap.size,0,none⟩)) else none) else g.av n 0)=some v':=hv';rw[yaF rfl,yaF rfl]at hv';cases hv';rfl
 ·have hb':c8 b st.bx=some cs':=by simpa[Ev.put]using hb'
  exact .inl ⟨hb',λ_ _ hf=>hf⟩
 ·replace hA:c8 m ((n,⟨B.k,[],0,true,true⟩)::st.ar)=some A:=hA;rw[e8]at hA;split at hA
  ·rename_i e;subst e;cases hA
   refine .inr ⟨.inl rfl,by simp[a9r],by simp[a9r],λh=>(by cases h),λver v hv=>?_,λe=>absurd e (by omega),λ_ _=>.inr ⟨hs.isb,B,[],w.heap.size,hB,rfl,by simp[a9r],.pointer none,.slice none 0 0,.inl rfl,a2q w _,by simp[a9r],λo hi=>?_,.inl ⟨rfl,hs.nil⟩,λbb hbb=>(by cases hbb)⟩⟩
   ·have hv:(if m=m then (if ver=0 then some (Value.pointer (some ⟨w.heap.size,0,none⟩)) else none) else g.av m ver)=some v:=hv;rw[yaF rfl]at hv;split at hv
    ·rename_i e;exact ⟨e,.inr rfl⟩
    ·cases hv
   ·have hi:g.I w.heap.size o:=hi;have:=hr.ib _ _ hi;omega
  ·rename_i e;refine .inl ⟨hA,λver=>?_,?_,λ_ _ hf=>hf,h.keepArr hr⟩
   ·show (if m=n then _ else g.av m ver)=_
    rw[yap e]
   ·show (if m=n then 0 else g.vc m)=_
    rw[yap e]
 ·show ∃A,c8 m ((n,⟨B.k,[],0,true,true⟩)::st.ar)=some A
  rw[e8];split
  ·exact ⟨_,rfl⟩
  ·rename_i e;exact hr.ad m (hm.resolve_left e)
def d7o (hG:∀B,S.bl=some B→BlSpec P S B) {e:Nat} (ho:o.op=.alloc e) (h:aop P S call q o st k=some r):a1e P S o st k r:=by
 cases hb:g8r S e with
 |none=>exact d3f ho hb h
 |some B=>
  have hB:S.bl=some B∧e=B.t:=by
   unfold g8r at hb;split at hb
   ·rename_i B' hB';rw[d7]at hb;split at hb
    ·rename_i he;rw[yaS]at he;cases hb
     exact ⟨hB',he⟩
    ·cases hb
   ·cases hb
  obtain ⟨hB,rfl⟩:=hB;unfold aop at h;simp only[ho,hb]at h;split at h
  rotate_left
  ·cases h
  rename_i d hdst;rw[d7]at h;split at h
  rotate_left
  ·cases h
  rename_i hc;rw[yae]at hc;have hs:=hG B hB;refine ⟨_,h,.of_run λc g a w hr hd=>?_⟩;obtain ⟨g',hrel⟩:=hr.growBld hB hs (a0c hc.1) (ya4 hc.2) (hd d hdst);obtain ⟨i,z,hi,hz,hzc⟩:=hs.zero;refine ⟨_,_,g',?_,by rw[hdst];exact hrel⟩;unfold execOp;simp only[ho];refine z6 ?_;simp[Instr.alloc,zeroValue,run_typeInfo' hi,hz,newVar,newRow,newObj,hzc];rfl
structure ByOk (S:Sg κ El) (Y:ByK κ El):Prop where
 sz:S.sz Y.k=1
 of:∀s i (hi:i<(Y.of s).length),∃b,s[i]?=some b∧S.enc Y.k (Y.of s)[i]=[.int .u8 b.toNat]
 len:∀s,(Y.of s).length=s.length
 to:∃f:El Y.k→Int,(∀x,S.enc Y.k x=[.int .u8 (f x)])∧∀xs,Y.to xs=xs.map (λx=>UInt8.ofNat (f x).toNat)
def f6q {S:Sg κ El} {k:κ} {of:List UInt8→List (El k)} {to:List (El k)→List UInt8} (f:El k→Int) (h0:S.sz k=1) (h1:∀x,S.enc k x=[.int .u8 (f x)]) (h2:∀s,(of s).map f=blI s) (h3:∀xs,to xs=blJ (xs.map f)):ByOk S ⟨k,of,to⟩:=by
 have hlen:∀s,(of s).length=s.length:=λs=>by have:=congrArg List.length (h2 s);simpa[blI]using this
 refine ⟨h0,λs i hi=>?_,hlen,f,h1,λxs=>?_⟩
 ·have hi':i<s.length:=by rw[←hlen];exact hi
  refine ⟨s[i],yab hi',?_⟩;have h4:((of s).map f)[i]?=(blI s)[i]?:=by rw[h2]
  simp only[blI,yaO,yab hi,yab hi',ybz,yam]at h4;show S.enc k (of s)[i]=_
  rw[h1,h4]
 ·show to xs=_
  rw[h3];unfold blJ;rw[List.map_map];rfl
def d0b {s t:Nat} (h:byT P s t=true):P.underlying s=some .string∧∃e,P.underlying t=some (.slice e)∧P.underlying e=some (.int .u8):=by
 unfold byT at h;split at h
 ·rename_i e hs ht;split at h
  ·rename_i he;exact ⟨hs,e,s7 ht,he⟩
  ·cases h
 ·cases h
def c6d (sgk:SgOk S) (hY:∀Y,S.by_=some Y→ByOk S Y) {s t:Nat} {x:Operand} (ho:o.op=.convert s t x) (h:aop P S call q o st k=some r):a1e P S o st k r:=by
 cases hb:b3e P S st s t (opd st x) with
 |none=>exact c1i ho hb h
 |some v=>
  unfold aop at h;simp only[ho,hb]at h;refine ⟨_,h,.of_run λc g a w hr hd=>?_⟩;unfold b3e at hb;split at hb
  ·cases hb
  rename_i Y hYs;have yk:=hY Y hYs;have hsz:=yk.sz;split at hb
  ·rename_i l hx;rw[d7]at hb;split at hb
   rotate_left
   ·cases hb
   rename_i hT;cases hb
   obtain ⟨hs,e,ht,he⟩:=d0b hT;have hv:=hr.opd x;rw[hx]at hv;obtain ⟨bs,hev,hbs⟩:=hv.str_inv;have hrun:=Go.run_bytes_of_string (P:=P) w s t e bs hs ht he;have hbl:bs.size=(Y.of l).length:=by rw[yk.len,hbs,ybb];rfl
   have hget:∀i (b:UInt8),l[i]?=some b→(bytesRow bs (grownCap w bs.size 0 e))[i]?=some (Value.int .u8 b.toNat):=λi b hi=>by
    unfold bytesRow;rw[hbs,yax]at hi;have hlt:i<bs.data.size:=(yah.1 hi).1;rw[ybJ (by simpa using hlt),Array.getElem?_map,hi];rfl
   have hcap:bs.size≤grownCap w bs.size 0 e:=a5b w bs.size 0 e;generalize bytesRow bs (grownCap w bs.size 0 e)=cells at hrun hget;generalize grownCap w bs.size 0 e=cap at hrun hcap;have hnew:(w.drew.alloc (.cells cells e (cells.size,cells.size+1))).heap[w.heap.size]?=some (.cells cells e (cells.size,cells.size+1)):=a2q w.drew _;have hgr:Grow w (w.drew.alloc (.cells cells e (cells.size,cells.size+1))) g.I (λb o=>g.I b o∨b=w.heap.size):={
    size:=by rw[World.size_alloc];show w.heap.size≤w.heap.size+1;omega
    os:=rfl
    out:=rfl
    tape:=rfl
    keep:=λb hb=>(Grow.alloc (w:=w.drew) (I:=λ_ _=>False) (λ_ _ h=>h.elim) (.cells cells e (cells.size,cells.size+1))).keep b hb
    hI:=λ_ _ h=>.inl h
    new:=λb o h=>h.elim .inl (λh=>.inr (by omega))
    ib:=λb o h=>by
     rw[World.size_alloc];show b<w.heap.size+1
     rcases h with h|h
     ·have:=hr.ib b o h;omega
     ·omega}
   refine ⟨.slice (some ⟨w.heap.size,0,none⟩) bs.size cap,_,_,?_,(hr.grow hgr).1.put (.data (DR.gI ?_)) hd⟩
   ·unfold execOp;simp only[ho,hev];exact z6 hrun
   ·rw[hbl];refine .lst w.heap.size 0 cap Y.k (Y.of l) (λi _=>(cells[i]?).getD undef) (by omega) (λi j hi hj=>?_) (λi hi j d hd'=>?_)
    ·rw[hsz]at hj ⊢;have hj:j=0:=by omega
     subst hj;have hil:i<l.length:=by rw[←yk.len];exact hi
     have h1:=hget i _ (yab hil);refine ⟨?_,.inr rfl⟩;simp only[World.cell?,hnew,yaI,ybQ,ya9,h1];rfl
    ·obtain ⟨b,e1,e2⟩:=yk.of l i hi;rw[e2]at hd';have hj:j=0:=by
      have:=(zL hd')
      simp at this;exact this
     subst hj;cases hd'
     rw[hget i b e1];exact .int _ _
  ·rw[d7]at hb;split at hb
   rotate_left
   ·cases hb
   rename_i hT;obtain ⟨ht,e,hs,he⟩:=d0b hT;split at hb
   rotate_left
   ·cases hb
   rename_i kd ys hit;split at hb
   rotate_left
   ·cases hb
   rename_i zs hzs;cases hb
   obtain ⟨hk',hzs⟩:=a5p hzs;subst hk';simp only at hzs;subst hzs;obtain ⟨base,cap,hev,hz⟩:=b0o sgk hit hr (hr.opd x);obtain ⟨f,hf,hto⟩:=yk.to;have hstr:strOfNums (ys.map f)=⟨(Y.to ys).toArray⟩:=by unfold strOfNums;rw[hto,List.map_map];rfl
   have hrun:(convert s t (a.eval x)).run P w=.ok (.string ⟨(Y.to ys).toArray⟩) w:=by
    rw[hev];rcases hz with h0|⟨blk,off,rfl,cv,hc,hv⟩
    ·have h0:ys=[]:=ybo.1 h0;subst h0;cases base with
     |none=>rw[run_convert_bytes_nil w s e hs he _ _ t ht,hto];rfl
     |some ad=>
      rw[run_convert_bytes_string w s t e _ _ cap hs he ht,run_bytesToString w ad _ cap [] (by simpa using run_loadCells_list (P:=P) w ad [] (λj v hj=>by simp at hj)),hto];rfl
    ·rw[run_convert_bytes_arg w s e hs he blk off ys.length cap (ys.map f) (by simp) (λi hi=>?_) t ht,hstr];have h1:=hc i 0 hi (by rw[hsz];omega);rw[hsz,ybQ,ya9]at h1;have h2:=hv i hi 0 (.int .u8 (f ys[i])) (by rw[hf];rfl);rw[h1,h2.int_inv];simp[List.getD,yab hi]
   refine ⟨.string ⟨(Y.to ys).toArray⟩,w,g,?_,hr.put (.data (.str ⟨(Y.to ys).toArray⟩)) hd⟩;unfold execOp;simp only[ho];exact z6 hrun
def c99 (hr:Rel S c st g a w) {n blk:Nat} {v v':Value} {w':World} (how:g.ow blk=some (.arr n)) (hno:∀o,¬g.I blk o) (hown:∀bb,obk v=some bb→g.ow bb=some (.arr n)∧∀o,¬g.I bb o)
 (hlt:∀bb,obk v'=some bb→bb<w'.heap.size) (h:c59 blk v v' w w') :
 Step (λb=>b=blk∨obk v=some b) w g w' {g with ow:=λb=>if obk v'=some b then some (.arr n) else g.ow b}:=by
 obtain ⟨hsize,hos,hout,htape,hkeep,hnew⟩:=h;exact {
  size:=hsize
  os:=hos
  out:=hout
  tape:=htape
  keep:=λb hb hM=>⟨hkeep b hb (λe=>hM (.inl e)) (λe=>hM (.inr e)),by
   show (if obk v'=some b then some (Own.arr n) else g.ow b)=g.ow b
   rw[yap];intro e;rcases hnew b e with q|q
   ·exact hM (.inr q)
   ·omega⟩
  own:=λb hb=>by
   rcases hb with rfl|hb
   ·exact ⟨_,how⟩
   ·exact ⟨_,(hown b hb).1⟩
  I:=λb o hi=>⟨hi,λhM=>by
   rcases hM with rfl|hM
   ·exact absurd hi (hno o)
   ·exact absurd hi ((hown b hM).2 o)⟩
  inew:=λb o hi _=>.inl hi
  ib:=λb o hi=>yaQ (hr.ib b o hi) hsize
  ol:=λb x hx=>by
   have hx:(if obk v'=some b then some (Own.arr n) else g.ow b)=some x:=hx;split at hx
   ·rename_i e;exact hlt b e
   ·exact yaQ (hr.ol b x hx) hsize
  J:=λb o=>⟨λhj=>.inr hj,λhj=>hj.elim (hr.ij b o) id⟩
  bl:=λ_ _ hb=>hb
  ad:=λ_ ha=>ha
  vc:=λ_ _=>yav _
  av:=λ_ _ _ _ _ hv=>hv
  az:=λ_ _=>rfl
  owk:=λb hb=>by
   show (if obk v'=some b then some (Own.arr n) else g.ow b)=_
   split
   ·rename_i e;rcases hnew b e with q|q
    ·have:=(hown b q).1;rw[this]at hb;exact hb
    ·have:=hr.ol b _ hb;omega
   ·exact hb}
def d2o {dst:Option Nat} {d:D κ El} {X:List (Nat×Ar κ El)}:({Ev.put st dst d with ar:=X}:St κ El)=Ev.put {st with ar:=X} dst d:=by cases dst<;>rfl
def e68 (hG:∀B,S.bl=some B→BlSpec P S B) {cl:Call} {fo:Operand} {f:Nat} {pre caps:List (D κ El)} (ho:o.op=.call cl) (hc:cl.callee=.value fo) (hf:opd st fo=.fn f pre caps) (hm:S.md f=.bld)
 (h:a0m S call q st o.dst f (pre++cl.args.toList.map (opd st)++caps) k=some r):a1e P S o st k r:=by
 unfold a0m at h;rw[hm]at h;cases q with
 |true=>cases h
 |false=>
  simp only at h;obtain ⟨B,n,ver,rest,A,xs,hB,hargs,hA,hok,hxs,hcase⟩:=d72 h;have hs:=hG B hB;have hfw:=hs.fw f hm;have hbf:h4p S f=B.fw f:=by unfold h4p;rw[hB]
  obtain ⟨hver,hde,hse⟩:=b4c hok;obtain ⟨Ak,Axs,Av,As,Ad⟩:=A;obtain ⟨hk',hxs⟩:=a5p hxs;simp only at hk' hxs;subst hk';simp only at hxs;subst hxs;simp only at hver hde hse;subst hver hde hse;have main:∀(c:Cx) (g:Gh) (a:Act) (w:World),Rel S c st g a w→∃(p0 cp us:Array Value) (blk:Nat) (p v:Value),a.eval fo=.func (.func f) p0 cp∧p0++cl.args.map a.eval++cp = #[Value.pointer (some ⟨blk,0,none⟩)]++us∧us.size=rest.length∧
   (∀(i:Nat) v d,us[i]?=some v→rest[i]?=some d→VR S w g v d)∧g.av n Av=some (.pointer (some ⟨blk,0,none⟩))∧(p=.pointer none∨p=.pointer (some ⟨blk,0,none⟩))∧w.heap[blk]?=some (.cells #[p,v] B.t (0,0))∧
   g.ow blk=some (.arr n)∧(∀o,¬g.I blk o)∧c09 w blk B.e (B.to Axs) v∧∀bb,obk v=some bb→g.ow bb=some (.arr n)∧∀o,¬g.I bb o:=by
   intro c g a w hr;obtain ⟨p0,cp,e,hsz,hv⟩:=a2s (xs:=cl.args) hr hf;rw[hargs]at hsz hv;obtain ⟨v0,us,hus,hv0,husz,husv⟩:=a7b hsz hv;obtain ⟨-,-,-,he⟩:=hv0.arr_inv;obtain ⟨blk,e1,p,v,h1,h2,h3,h4,h5,h6⟩:=((hr.ar n _ hA).mp rfl rfl).bld hB hs.isb;have e0:v0=.pointer (some ⟨blk,0,none⟩):=he _ e1;exact ⟨p0,cp,us,blk,p,v,e,by rw[hus,e0],husz,husv,e1,h1,h2,h3,h4,h5,h6⟩
  rcases hcase with ⟨h1,s,rfl,hl,hk⟩|⟨h2,rfl,hk⟩
  ·refine ⟨_,hk,λc g a w hr hd next Q hn=>?_⟩;obtain ⟨p0,cp,us,blk,p,v,e,hus,husz,husv,e1,hp,hb,how,hno,hbuf,hown⟩:=main c g a w hr;obtain ⟨u,rfl⟩:∃u,us = #[u]:=⟨us[0]'(by simp at husz;omega),by
    apply Array.ext
    ·simpa using husz
    ·intro i hi1 hi2;have:i=0:=by simp at hi2;omega
     subst this;rfl⟩
   obtain ⟨sb,rfl,hsb⟩:=(husv 0 u (.str s) rfl rfl).str_inv;have hcall:=hfw.1 (by rw[←hbf];exact h1) w blk p v (B.to Axs) sb hp hb hbuf (by rw[←hsb,hs.len];exact hl);rw[show #[Value.pointer (some ⟨blk,0,none⟩),Value.string sb] = #[Value.pointer (some ⟨blk,0,none⟩)]++#[Value.string sb] from rfl,←hus]at hcall;refine a1r.wp (a2d ho hc e w) hcall (λrv w' hq=>?_);obtain ⟨p',v',hp',hb',hbuf',hOnly⟩:=hq;have hlt':∀bb,obk v'=some bb→bb<w'.heap.size:=λbb hbb=>by
    rcases hbuf' with ⟨e',-⟩|⟨b2,cap,cur,e',e2,-⟩
    ·rw[e']at hbb;cases hbb
    ·rw[e']at hbb;cases hbb
     exact (yah.1 e2).1
   have st1:=c99 hr how hno hown hlt' hOnly;have le:=st1.le hr;have hAr:=hr.ar n _ hA;have hnew:=hOnly.2.2.2.2.2;have hrel:Rel S c {st with ar:=a1z n ⟨B.k,Axs++B.of s,Av,true,true⟩ st.ar} _ a w':=hr.step st1 hr.nt hr.df (λs d hs=>hr.env_le le hs)
    (λb' cs hb''=>.inl ⟨hb'',λblk' hbl hM=>by
     have h3:=hr.bx_ow hbl;rcases hM with rfl|hM
     ·rw[how]at h3;cases h3
     ·rw[(hown _ hM).1]at h3;cases h3⟩) hr.bd
    (λn' A' hA'=>by
     replace hA':c8 n' (a1z n ⟨B.k,Axs++B.of s,Av,true,true⟩ st.ar)=some A':=hA';rw[c6 hA]at hA';split at hA'
     ·rename_i en;subst en;cases hA'
      refine .inr ⟨hAr.ad,hAr.az,hAr.vc,λh=>(by cases h),λver u hu=>⟨(hAr.ver ver u hu).1,.inr rfl⟩,λe=>?_,λ_ _=>.inr ⟨hs.isb,B,Axs++B.of s,blk,hB,rfl,e1,p',v',hp',hb',?_,hno,?_,λbb hbb=>⟨?_,λo hi=>?_⟩⟩⟩
      ·have:=(hAr.own e).2;cases this
      ·show (if obk v'=some blk then some (Own.arr n') else g.ow blk)=_
       split
       ·rfl
       ·exact how
      ·rw[hs.app,hsb];exact hbuf'
      ·show (if obk v'=some bb then some (Own.arr n') else g.ow bb)=_
       rw[yaF hbb]
      ·rcases hnew bb hbb with q|q
       ·exact (hown bb q).2 o hi
       ·have:=hr.ib _ _ hi;omega
     ·rename_i en;refine .inl ⟨hA',λ_=>rfl,rfl,λblk' hb'' hM=>?_,λ_ _ _ hi=>hi⟩;rcases hM with rfl|hM
      ·rw[how]at hb'';cases hb'';exact en rfl
      ·rw[(hown _ hM).1]at hb'';cases hb'';exact en rfl)
    (λn' hn'=>by
     show ∃A,c8 n' (a1z n ⟨B.k,Axs++B.of s,Av,true,true⟩ st.ar)=some A
     rw[c6 hA];split
     ·exact ⟨_,rfl⟩
     ·exact hr.ad n' hn')
   have hfin:=hrel.put (dst:=o.dst) (d:=.undef) (v:=rv) (.undef _) hd;rw[←d2o]at hfin;exact hn _ _ _ hfin
  ·refine ⟨_,hk,λc g a w hr hd next Q hn=>?_⟩;obtain ⟨p0,cp,us,blk,p,v,e,hus,husz,husv,e1,hp,hb,how,hno,hbuf,hown⟩:=main c g a w hr;obtain rfl:us = #[]:=Array.eq_empty_of_size_eq_zero (by simpa using husz);have hcall:=hfw.2 (by rw[←hbf];exact h2) w blk p v (B.to Axs) hp hb hbuf;rw[show #[Value.pointer (some ⟨blk,0,none⟩)] = #[Value.pointer (some ⟨blk,0,none⟩)]++#[] from rfl,←hus]at hcall;refine a1r.wp (a2d ho hc e w) hcall (λrv w' hq=>?_);obtain ⟨rfl,hOnly⟩:=hq;have hlt':∀bb,obk v=some bb→bb<w'.heap.size:=λbb hbb=>yaQ (hr.ol bb _ (hown bb hbb).1) hOnly.1
   have st1:=c99 hr how hno hown hlt' hOnly;have hAr:=hr.ar n _ hA
   let g1:Gh:={g with ow:=λb=>if obk v=some b then some (.arr n) else g.ow b}
   let g':Gh:={g1 with av:=λm ver=>if m=n then none else g.av m ver}
   have st2:Step (λb=>b=blk∨obk v=some b) w g w' g':={st1 with
    av:=λm ver u _ _ hv=>by
     have hv:(if m=n then none else g.av m ver)=some u:=hv;split at hv
     ·cases hv
     ·exact hv}
   have le:=st2.le hr;have hrel:Rel S c {st with ar:=a1z n ⟨B.k,[],Av,false,true⟩ st.ar} g' a w':=hr.step st2 hr.nt hr.df (λs d hs=>hr.env_le le hs)
    (λb' cs hb''=>.inl ⟨hb'',λblk' hbl hM=>by
     have h3:=hr.bx_ow hbl;rcases hM with rfl|hM
     ·rw[how]at h3;cases h3
     ·rw[(hown _ hM).1]at h3;cases h3⟩) hr.bd
    (λn' A' hA'=>by
     replace hA':c8 n' (a1z n ⟨B.k,[],Av,false,true⟩ st.ar)=some A':=hA';rw[c6 hA]at hA';split at hA'
     ·rename_i en;subst en;cases hA'
      refine .inr ⟨hAr.ad,hAr.az,hAr.vc,λh=>(by cases h),λver u hu=>?_,λe=>?_,λ_ h=>(by cases h)⟩
      ·have hu:(if n'=n' then none else g.av n' ver)=some u:=hu;rw[yaF rfl]at hu;cases hu
      ·have:=(hAr.own e).2;cases this
     ·rename_i en;refine .inl ⟨hA',λver=>?_,rfl,λblk' hb'' hM=>?_,λ_ _ _ hi=>hi⟩
      ·show (if n'=n then none else g.av n' ver)=_
       rw[yap en]
      ·rcases hM with rfl|hM
       ·rw[how]at hb'';cases hb'';exact en rfl
       ·rw[(hown _ hM).1]at hb'';cases hb'';exact en rfl)
    (λn' hn'=>by
     show ∃A,c8 n' (a1z n ⟨B.k,[],Av,false,true⟩ st.ar)=some A
     rw[c6 hA];split
     ·exact ⟨_,rfl⟩
     ·exact hr.ad n' hn')
   have hfin:=hrel.put (dst:=o.dst) (d:=.str (B.to Axs)) (.data (.str ⟨(B.to Axs).toArray⟩)) hd;rw[←d2o]at hfin;exact hn _ _ _ hfin
end
end
section
section
variable {κ:Type} {El:κ→Type} {S:Sg κ El} {P:Program}
variable {c:Cx} {st:St κ El} {g:Gh} {a:Act} {w:World} {R:Type} [KdEq κ]
variable {o:Oper} {q:Bool} {call:Nat→List (D κ El)→List (List (D κ El))→(D κ El→List (List (D κ El))→Option R)→Option R} {k:St κ El→Option R} {r:R}
structure GoodP (P:Program) (S:Sg κ El):Prop where
 ok:PrOk P
 sgk:SgOk S
 eok:∀t,S.eqt t=true→EqOk P t
 mok:∀t M,S.mpk t=some M→e6a P S t M
 bok:∀B,S.bl=some B→BlSpec P S B
 yok:∀Y,S.by_=some Y→ByOk S Y
def g8j (G:GoodP P S) (cok:a02 P S call) (h:aop P S call q o st k=some r):a1e P S o st k r:=by
 cases ho:o.op with
 |move x=>exact c94 (.inl ho) h
 |assign x=>exact c94 (.inr ho) h
 |pick x y z=>exact e6u ho h
 |alloc e=>exact d7o G.bok ho h
 |box e x=>exact f6i ho h
 |build t ps=>exact d7q G.ok ho h
 |buildSlice t n ps=>exact b51 G.sgk ho h
 |load t x=>exact e6t G.ok G.sgk ho h
 |store t x y=>exact d7u G.sgk ho h
 |nilCheck x=>exact c1k ho h
 |binOp op t x y u=>exact d7p G.ok G.eok ho h
 |unOp op t x=>exact e6v ho h
 |convert s t x=>exact c6d G.sgk G.yok ho h
 |makeFunc fn pre caps=>exact c1j ho h
 |makeSlice t x y=>exact b87 G.sgk ho h
 |slice t x lo hi mx=>exact d7t G.sgk ho h
 |fieldAddr t x f=>exact b85 ho h
 |field t x f=>exact d7r G.ok ho h
 |indexAddr t x i=>exact b86 G.ok G.sgk ho h
 |index t x i=>exact d7s G.ok ho h
 |extract x i=>exact c6e ho h
 |makeMap t z=>exact c6f G.mok ho h
 |lookup t x i ok=>exact d3h G.mok ho h
 |mapUpdate t x i y=>exact a9d G.mok (.inl ho) h
 |insert t x i y=>exact a9d G.mok (.inr ho) h
 |call cl=>
  cases hc:cl.callee with
  |builtin b=>
   cases b with
   |len=>exact f6j ho hc h
   |min=>exact f6l ho hc h
   |max=>exact f6k ho hc h
   |append=>exact d3g G.sgk ho hc h
   |_=>unfold aop at h;simp only[ho,hc]at h;unfold a1g at h;split at h<;>first|contradiction|cases h
  |value fo=>
   unfold aop at h;simp only[ho,hc]at h;split at h
   ·rename_i f pre caps hf;cases hm:S.md f with
    |data=>exact d8b G.sgk cok ho hc hf hm h
    |fresh=>exact d3u G.sgk cok ho hc hf hm h
    | «mut»=>exact e69 G.sgk cok ho hc hf hm h
    |cons=>exact d8a G.sgk cok ho hc hf hm h
    |inpl=>exact d8c G.sgk cok ho hc hf hm h
    |newb=>exact d8d G.sgk cok ho hc hf hm h
    |nmap=>exact d8e G.sgk cok ho hc hf hm h
    |bld=>exact e68 G.bok ho hc hf hm h
   ·cases h
  |invoke x m=>unfold aop at h;simp only[ho,hc]at h;cases h
 |_=>unfold aop at h;simp only[ho]at h;cases h
end
end
section
section
variable {κ:Type} {El:κ→Type} {S:Sg κ El} {P:Program}
variable {st:St κ El} {R:Type} [KdEq κ]
variable {o:Oper} {q:Bool} {call:Nat→List (D κ El)→List (List (D κ El))→(D κ El→List (List (D κ El))→Option R)→Option R} {k:St κ El→Option R} {r:R}
structure Agr (fp:List (Nat×Nat)) (xs:List Operand) (st st₂:St κ El):Prop where
 opd:∀x∈xs,Ev.opd st x=.undef∨Ev.opd st₂ x=Ev.opd st x
 bx:∀b,(0,b)∈fp→c8 b st₂.bx=c8 b st.bx
 ar:∀n,(1,n)∈fp→c8 n st₂.ar=c8 n st.ar
structure Dlt (dst:Option Nat) (wr:List (Nat×Nat)) (st st' st₂ st₂':St κ El):Prop where
 env:∀s,dst≠some s→c8 s st'.env=c8 s st.env∧c8 s st₂'.env=c8 s st₂.env
 dst:∀s,dst=some s→c8 s st'.env=some .undef∨c8 s st₂'.env=c8 s st'.env
 bxw:∀b,(0,b)∈wr→c8 b st₂'.bx=c8 b st'.bx
 bxk:∀b,(0,b)∉wr→c8 b st'.bx=c8 b st.bx∧c8 b st₂'.bx=c8 b st₂.bx
 arw:∀n,(1,n)∈wr→c8 n st₂'.ar=c8 n st'.ar
 ark:∀n,(1,n)∉wr→c8 n st'.ar=c8 n st.ar∧c8 n st₂'.ar=c8 n st₂.ar
def z7 (call:Nat→List (D κ El)→List (List (D κ El))→(D κ El→List (List (D κ El))→Option R)→Option R):Prop:=
 ∀f ds bs k r,call f ds bs k=some r→∃d bs',k d bs'=some r∧∀k',k' d bs'=some r→call f ds bs k'=some r
def Loc (P:Program) (S:Sg κ El) (call:Nat→List (D κ El)→List (List (D κ El))→(D κ El→List (List (D κ El))→Option R)→Option R) (q:Bool) (o:Oper) (st:St κ El) (k:St κ El→Option R) (r:R):Prop:=
 ∃st',k st'=some r∧∀st₂,Agr ((m0 o st 0).rd++(m0 o st 0).wr) (looks o) st st₂→∃st₂',Dlt o.dst (m0 o st 0).wr st st' st₂ st₂'∧∀k₂,k₂ st₂'=some r→aop P S call q o st₂ k₂=some r
def Dlt.put {dst:Option Nat} {wr:List (Nat×Nat)} {st st1 st₂ st₂1:St κ El} {d d₂:D κ El} (hd:d=.undef∨d₂=d) (he:∀s,c8 s st1.env=c8 s st.env∧c8 s st₂1.env=c8 s st₂.env)
 (bxw:∀b,(0,b)∈wr→c8 b st₂1.bx=c8 b st1.bx) (bxk:∀b,(0,b)∉wr→c8 b st1.bx=c8 b st.bx∧c8 b st₂1.bx=c8 b st₂.bx)
 (arw:∀n,(1,n)∈wr→c8 n st₂1.ar=c8 n st1.ar) (ark:∀n,(1,n)∉wr→c8 n st1.ar=c8 n st.ar∧c8 n st₂1.ar=c8 n st₂.ar) :
 Dlt dst wr st (Ev.put st1 dst d) st₂ (Ev.put st₂1 dst d₂) where
 env:=λs hs=>by rw[a01,a01,yap hs,yap hs];exact he s
 dst:=λs hs=>by rw[a01,a01,yaF hs,yaF hs];exact hd.imp (λh=>by rw[h]) (λh=>by rw[h])
 bxw:=by rw[a2l,a2l];exact bxw
 bxk:=by rw[a2l,a2l];exact bxk
 arw:=by rw[a3d,a3d];exact arw
 ark:=by rw[a3d,a3d];exact ark
def Loc.val {d:D κ El} (hk:k (put st o.dst d)=some r) (hw:(m0 o st 0).wr=[])
 (H:∀st₂,Agr ((m0 o st 0).rd++(m0 o st 0).wr) (looks o) st st₂→∃d₂,(d=.undef∨d₂=d)∧∀k₂,k₂ (put st₂ o.dst d₂)=some r→aop P S call q o st₂ k₂=some r):Loc P S call q o st k r:=by
 refine ⟨_,hk,λst₂ ha=>?_⟩;obtain ⟨d₂,hd,h⟩:=H st₂ ha;refine ⟨_,?_,h⟩;rw[hw];exact .put hd (λs=>⟨rfl,rfl⟩) (λb hb=>by cases hb) (λb _=>⟨rfl,rfl⟩) (λb hb=>by cases hb) (λb _=>⟨rfl,rfl⟩)
def Agr.eq {fp:List (Nat×Nat)} {xs:List Operand} {st₂:St κ El} (h:Agr fp xs st st₂) {x:Operand} (hx:x∈xs) {d:D κ El} (hd:Ev.opd st x=d) (hn:d≠.undef):Ev.opd st₂ x=d:=by
 rcases h.opd x hx with h1|h1
 ·rw[h1]at hd;exact absurd hd.symm hn
 ·rw[h1,hd]
def d18 {x:Operand} (ho:o.op=.move x∨o.op=.assign x) (h:aop P S call q o st k=some r):Loc P S call q o st k r:=by
 have hl:x∈looks o:=by rcases ho with ho|ho<;>simp[looks,Op.operands,ho]
 have hw:(m0 o st 0).wr=[]:=by unfold m0;rcases ho with ho|ho<;>simp only[ho]
 unfold aop at h;rcases ho with ho|ho<;>simp only[ho]at h<;>exact .val h hw (λst₂ ha=>⟨opd st₂ x,ha.opd x hl,λk₂ h2=>by unfold aop;simp only[ho];exact h2⟩)
def f0a {x y z:Operand} (ho:o.op=.pick x y z) (h:aop P S call q o st k=some r):Loc P S call q o st k r:=by
 have hl:looks o=[x,y,z]:=by simp[looks,Op.operands,ho]
 have hw:(m0 o st 0).wr=[]:=by unfold m0;simp only[ho]
 unfold aop at h;simp only[ho]at h;split at h
 ·rename_i t ht;rw[d7]at h;split at h
  ·rename_i htt;exact .val h hw (λst₂ ha=>⟨opd st₂ y,ha.opd y (by simp[hl]),λk₂ h2=>by
    unfold aop;simp only[ho,ha.eq (x:=x) (by simp[hl]) ht (by simp),htt];exact h2⟩)
  ·rename_i htt;have htt:t=false:=by simpa using htt
   exact .val h hw (λst₂ ha=>⟨opd st₂ z,ha.opd z (by simp[hl]),λk₂ h2=>by
    unfold aop;simp only[ho,ha.eq (x:=x) (by simp[hl]) ht (by simp),htt];exact h2⟩)
 ·cases h
def c1q {t:Nat} {op:BinOp} {x y:D κ El} {k:D κ El→Option R}:f1u P S t op x y k=(f1u P S t op x y some).bind k:=by
 unfold f1u;simp only[d7]
 repeat' split
 all_goals first|rfl|simp_all
def d43 {t:Nat} {x:D κ El} {k:D κ El→Option R}:b1t P S st t x k=(b1t P S st t x some).bind k:=by
 unfold b1t;simp only[d7]
 repeat' split
 all_goals simp_all
def c2x {i:Int} {α:Type} {f:Nat→Option α} {k:α→Option R}:∀{n j:Nat},e6e i (λj=>(f j).bind k) n j=(e6e i f n j).bind k:=by
 intro n
 induction n with
 |zero=>intro j;rfl
 |succ n ih=>intro j;simp only[e6e,d7,ih];split<;>rfl
def c3a {t:Nat} {x:D κ El} {k:D κ El→Option R}:e6g P t st x k=(e6g P t st x some).bind k:=by
 unfold e6g;simp only[d7]
 repeat' split
 all_goals simp_all
def d4b {s t:Nat} {x:D κ El} {k:D κ El→Option R}:c63 P s t x k=(c63 P s t x some).bind k:=by
 unfold c63
 repeat' split
 all_goals simp_all
def d3d {t:Nat} {x i:D κ El} {k:D κ El→Option R}:b1o P S t x i st k=(b1o P S t x i st some).bind k:=by
 unfold b1o;simp only[d7]
 repeat' split
 all_goals first
  |(rw[←c2x];simp only[ybU];done)
  |simp_all
def c7k {t:Nat} {x i:D κ El} {k:D κ El→Option R}:a9x P t x i k=(a9x P t x i some).bind k:=by
 unfold a9x;simp only[d7]
 repeat' split
 all_goals first
  |(rw[←c2x];congr 1;funext j;cases part _ _ _ with|none=>rfl|some cs=>(simp only;cases b0s _ cs<;>rfl))
  |simp_all
def e1x {op:BinOp} {t u:Nat} {x y:Operand} (ho:o.op=.binOp op t x y u) (h:aop P S call q o st k=some r):Loc P S call q o st k r:=by
 have hl:looks o=[x,y]:=by simp[looks,Op.operands,ho]
 have hw:(m0 o st 0).wr=[]:=by unfold m0;simp only[ho]
 unfold aop at h;simp only[ho]at h;cases hq:h0r op y (opd st x) with
 |some r'=>
  have hx:opd st x≠.undef:=λe=>by rw[e]at hq;unfold h0r at hq;split at hq<;>simp_all
  rw[hq]at h;simp only at h;rw[d7]at h;split at h
  rotate_left
  ·cases h
  rename_i hi;refine .val h hw (λst₂ ha=>⟨.bool r',.inr rfl,λk₂ h2=>?_⟩);unfold aop;simp only[ho,ha.eq (x:=x) (by simp[hl]) rfl hx,hq,hi,yac];exact h2
 |none=>
 rw[hq]at h;simp only at h;have hx:opd st x≠.undef:=λe=>by rw[e]at h;unfold f1u at h;cases op<;>simp[eqD]at h
 have hy:opd st y≠.undef:=λe=>by rw[e]at h;unfold f1u at h;cases op<;>cases opd st x<;>simp[eqD]at h
 rw[c1q]at h;obtain ⟨d,hb,hk⟩:=ya5.1 h;refine .val hk hw (λst₂ ha=>⟨d,.inr rfl,λk₂ h2=>?_⟩);unfold aop;simp only[ho,ha.eq (x:=x) (by simp[hl]) rfl hx,ha.eq (x:=y) (by simp[hl]) rfl hy,hq];rw[c1q,hb];exact h2
end
end
section
section
variable {κ:Type} {El:κ→Type} {S:Sg κ El} {P:Program}
variable {st:St κ El} {R:Type} [KdEq κ]
variable {o:Oper} {q:Bool} {call:Nat→List (D κ El)→List (List (D κ El))→(D κ El→List (List (D κ El))→Option R)→Option R} {k:St κ El→Option R} {r:R}
def b32 {x:Operand} {F:D κ El→Option (D κ El)} (hl:x∈looks o) (hw:(m0 o st 0).wr=[]) (hF:F .undef=none)
 (ha:∀(st:St κ El) (k:St κ El→Option R),aop P S call q o st k=(F (opd st x)).bind (λd=>k (put st o.dst d))) (h:aop P S call q o st k=some r):Loc P S call q o st k r:=by
 rw[ha]at h;obtain ⟨d,hd,hk⟩:=ya5.1 h;refine .val hk hw (λst₂ hg=>⟨d,.inr rfl,λk₂ h2=>?_⟩);rw[ha,hg.eq hl rfl (λe=>by rw[e,hF]at hd;cases hd),hd];exact h2
def c3h {x:Operand} (ho:o.op=.nilCheck x) (h:aop P S call q o st k=some r):Loc P S call q o st k r:=by
 refine b32 (x:=x) (F:=λd=>bif c7n d then some d else none) (by simp[looks,Op.operands,ho]) (by unfold m0;simp only[ho]) rfl (λst k=>?_) h;unfold aop;simp only[ho,d7];split<;>rfl
def f0b {op:UnOp} {t:Nat} {x:Operand} (ho:o.op=.unOp op t x) (h:aop P S call q o st k=some r):Loc P S call q o st k r:=by
 refine b32 (x:=x) (F:=λd=>match op,d with | .not,.bool b=>some (.bool (!b)) | .neg,.int kd n=>some (.int kd (kd.wrap (0-n)))|_,_=>none) (by simp[looks,Op.operands,ho]) (by unfold m0;simp only[ho]) (by cases op<;>rfl) (λst k=>?_) h;unfold aop;simp only[ho];split<;>simp_all
def c0d {t f:Nat} {x:Operand} (ho:o.op=.fieldAddr t x f) (h:aop P S call q o st k=some r):Loc P S call q o st k r:=by
 refine b32 (x:=x) (F:=λd=>match e8l P t f,d with
  |some (fo,_),.ptr b off=>some (.ptr b (off+fo))
  |some (fo,_),.cptr cs off=>some (.cptr cs (off+fo))
  |some (fo,_),.aptr a v i off=>some (.aptr a v i (off+fo))
  |_,_=>none) (by simp[looks,Op.operands,ho]) (by unfold m0;simp only[ho]) (by cases e8l P t f<;>rfl) (λst k=>?_) h
 unfold aop;simp only[ho];split<;>simp_all
def e1z {t f:Nat} {x:Operand} (ho:o.op=.field t x f) (h:aop P S call q o st k=some r):Loc P S call q o st k r:=by
 refine b32 (x:=x) (F:=λd=>match e8l P t f,d with
  |some (fo,ft),.agg cs=>(match part cs fo (a0p P ft) with
   |some cs=>b0s (a9a P ft) cs
   |none=>none)
  |_,_=>none) (by simp[looks,Op.operands,ho]) (by unfold m0;simp only[ho]) (by cases e8l P t f<;>rfl) (λst k=>?_) h
 unfold aop;simp only[ho]
 repeat' split
 all_goals simp_all
def c7v {x:Operand} {i:Nat} (ho:o.op=.extract x i) (h:aop P S call q o st k=some r):Loc P S call q o st k r:=by
 refine b32 (x:=x) (F:=λd=>match d with | .tup vs=>vs[i]?|_=>none) (by simp[looks,Op.operands,ho]) (by unfold m0;simp only[ho]) rfl (λst k=>?_) h;unfold aop;simp only[ho]
 repeat' split
 all_goals simp_all
def d9s {s t:Nat} {d:D κ El} {st₂:St κ El} (ha:∀n,(1,n)∈m5 d→c8 n st₂.ar=c8 n st.ar):b3e P S st₂ s t d=b3e P S st s t d:=by
 unfold b3e a5c;cases S.by_ with
 |none=>rfl
 |some Y=>
  cases d<;>try rfl
  rename_i a v;simp only[ha a (by simp[m5])]
def c7u {s t:Nat} {x:Operand} (ho:o.op=.convert s t x) (h:aop P S call q o st k=some r):Loc P S call q o st k r:=by
 have hl:looks o=[x]:=by simp[looks,Op.operands,ho]
 have hf:m0 o st 0=⟨0,m5 (opd st x),[]⟩:=by unfold m0;simp only[ho]
 have ha:∀(st:St κ El) (k:St κ El→Option R),aop P S call q o st k=(match b3e P S st s t (opd st x) with|some v=>some v|none=>c63 P s t (opd st x) some).bind (λd=>k (put st o.dst d)):=λst k=>by
  unfold aop;simp only[ho];cases b3e P S st s t (opd st x) with
  |some v=>rfl
  |none=>simp only;rw[d4b]
 rw[ha]at h;obtain ⟨d,hd,hk⟩:=ya5.1 h;have hx:opd st x≠.undef:=λe=>by
  rw[e]at hd;have h1:b3e P S st s t (.undef:D κ El)=none:=by
   unfold b3e a5c;cases S.by_ with
   |none=>rfl
   |some Y=>simp only[d7];split<;>rfl
  rw[h1]at hd;simp only[c63]at hd;split at hd<;>simp_all
 refine .val hk (by rw[hf]) (λst₂ hg=>⟨d,.inr rfl,λk₂ h2=>?_⟩);have har:=hg.ar;rw[hf]at har;rw[ha,hg.eq (x:=x) (by simp[hl]) rfl hx,d9s (st:=st) (λn hm=>har n (by simpa using hm)),hd];exact h2
def e11 {t:Nat} {x i:Operand} (ho:o.op=.index t x i) (h:aop P S call q o st k=some r):Loc P S call q o st k r:=by
 have hl:looks o=[x,i]:=by simp[looks,Op.operands,ho]
 have hw:(m0 o st 0).wr=[]:=by unfold m0;simp only[ho]
 have ha:∀(st:St κ El) (k:St κ El→Option R),aop P S call q o st k=(a9x P t (opd st x) (opd st i) some).bind (λd=>k (put st o.dst d)):=λst k=>by unfold aop;simp only[ho];rw[c7k]
 rw[ha]at h;obtain ⟨d,hd,hk⟩:=ya5.1 h;have hx:opd st x≠.undef:=λe=>by rw[e]at hd;unfold a9x at hd;split at hd<;>cases hd
 have hi:opd st i≠.undef:=λe=>by rw[e]at hd;unfold a9x at hd;cases hd
 refine .val hk hw (λst₂ hg=>⟨d,.inr rfl,λk₂ h2=>?_⟩);rw[ha,hg.eq (x:=x) (by simp[hl]) rfl hx,hg.eq (x:=i) (by simp[hl]) rfl hi,hd];exact h2
def e1u {t:Nat} {d:D κ El} {st₂:St κ El} (hb:∀b,(0,b)∈m5 d→c8 b st₂.bx=c8 b st.bx) (ha:∀n,(1,n)∈m5 d→c8 n st₂.ar=c8 n st.ar) (k:D κ El→Option R):b1t P S st₂ t d k=b1t P S st t d k:=by
 unfold b1t;cases d<;>try rfl
 ·rename_i b off;simp only[hb b (by simp[m5])]
 ·rename_i a v i off;simp only[ha a (by simp[m5])]
def e97 {t:Nat} {x:Operand} (ho:o.op=.load t x) (h:aop P S call q o st k=some r):Loc P S call q o st k r:=by
 have hl:looks o=[x]:=by simp[looks,Op.operands,ho]
 have hf:m0 o st 0=⟨0,m5 (opd st x),[]⟩:=by unfold m0;simp only[ho]
 have ha:∀(st:St κ El) (k:St κ El→Option R),aop P S call q o st k=(b1t P S st t (opd st x) some).bind (λd=>k (put st o.dst d)):=λst k=>by unfold aop;simp only[ho];rw[d43]
 rw[ha]at h;obtain ⟨d,hd,hk⟩:=ya5.1 h;have hx:opd st x≠.undef:=λe=>by rw[e]at hd;unfold b1t at hd;cases hd
 refine .val hk (by rw[hf]) (λst₂ hg=>⟨d,.inr rfl,λk₂ h2=>?_⟩);have hb:=hg.bx;have har:=hg.ar;rw[hf]at hb har;rw[ha,hg.eq (x:=x) (by simp[hl]) rfl hx,e1u (st:=st) (λb hm=>hb b (by simpa using hm)) (λn hm=>har n (by simpa using hm)),hd];exact h2
def d7m {t:Nat} {d i:D κ El} {st₂:St κ El} (ha:∀n,(1,n)∈m5 d→c8 n st₂.ar=c8 n st.ar) (k:D κ El→Option R):b1o P S t d i st₂ k=b1o P S t d i st k:=by
 unfold b1o;cases i<;>try rfl
 cases d<;>try rfl
 rename_i a v;simp only[ha a (by simp[m5])]
def c0e {t:Nat} {x i:Operand} (ho:o.op=.indexAddr t x i) (h:aop P S call q o st k=some r):Loc P S call q o st k r:=by
 have hl:looks o=[x,i]:=by simp[looks,Op.operands,ho]
 have hf:m0 o st 0=⟨0,m5 (opd st x),[]⟩:=by unfold m0;simp only[ho]
 have ha:∀(st:St κ El) (k:St κ El→Option R),aop P S call q o st k=(b1o P S t (opd st x) (opd st i) st some).bind (λd=>k (put st o.dst d)):=λst k=>by unfold aop;simp only[ho];rw[d3d]
 rw[ha]at h;obtain ⟨d,hd,hk⟩:=ya5.1 h;have hx:opd st x≠.undef:=λe=>by rw[e]at hd;unfold b1o at hd;split at hd<;>cases hd
 have hi:opd st i≠.undef:=λe=>by rw[e]at hd;unfold b1o at hd;cases hd
 refine .val hk (by rw[hf]) (λst₂ hg=>⟨d,.inr rfl,λk₂ h2=>?_⟩);have har:=hg.ar;rw[hf]at har;rw[ha,hg.eq (x:=x) (by simp[hl]) rfl hx,hg.eq (x:=i) (by simp[hl]) rfl hi,d7m (st:=st) (λn hm=>har n (by simpa using hm)),hd];exact h2
def Agr.opds {fp:List (Nat×Nat)} {xs:List Operand} {st₂:St κ El} (h:Agr fp xs st st₂):∀{l:List Operand},(∀x∈l,x∈xs)→a2v (l.map (Ev.opd st))=true→l.map (Ev.opd st₂)=l.map (Ev.opd st):=by
 intro l
 induction l with
 |nil=>intros;rfl
 |cons x l ih=>
  intro hl hs;simp only[ybu,a2v,ybR,yae]at hs ⊢;rw[h.eq (hl x (by simp)) rfl (λe=>by rw[e]at hs;simp[solid]at hs),ih (λy hy=>hl y (by simp[hy])) hs.2]
def c3g {fn:Fn} {pre caps:Array Operand} (ho:o.op=.makeFunc fn pre caps) (h:aop P S call q o st k=some r):Loc P S call q o st k r:=by
 have hl:looks o=pre.toList++caps.toList:=by simp[looks,Op.operands,ho]
 have hw:(m0 o st 0).wr=[]:=by unfold m0;simp only[ho]
 unfold aop at h;simp only[ho]at h;split at h
 ·rw[d7]at h;split at h
  ·rename_i hs;rw[yae]at hs;refine .val h hw (λst₂ hg=>⟨_,.inr rfl,λk₂ h2=>?_⟩);unfold aop;simp only[ho,hg.opds (l:=pre.toList) (λx hx=>by simp[hl]at hx ⊢;exact .inl hx) hs.1,hg.opds (l:=caps.toList) (λx hx=>by simp[hl]at hx ⊢;exact .inr hx) hs.2,hs.1,hs.2,ybl,yac];exact h2
  ·cases h
 ·cases h
def a4d {d:D κ El} (h:a2v (a1i d)=true):d≠.undef:=λe=>by rw[e]at h;simp[a1i,a2v,solid]at h
def d3r {t:Nat} {fp:List (Nat×Nat)} {xs:List Operand} {st₂:St κ El} (hg:Agr fp xs st st₂):∀{ps:List (Nat×Operand)} {cs cs':List (D κ El)},(∀p∈ps,p.2∈xs)→b2x P t st cs ps=some cs'→b2x P t st₂ cs ps=some cs':=by
 intro ps
 induction ps with
 |nil=>intro cs cs' _ h;exact h
 |cons p ps ih=>
  obtain ⟨i,x⟩:=p;intro cs cs' hl h;simp only[b2x]at h ⊢;split at h
  ·rename_i off ft ho;rw[d7]at h;split at h
   ·rename_i hc;have hc':=hc;rw[yae]at hc';have e:opd st₂ x=opd st x:=hg.eq (hl (i,x) (by simp)) rfl (a4d hc'.2);rw[e,hc,yac];split at h
    ·rename_i cs1 hs;exact ih (λp hp=>hl p (by simp[hp])) h
    ·cases h
   ·cases h
  ·cases h
def d3q {sz:Nat} {fp:List (Nat×Nat)} {xs:List Operand} {st₂:St κ El} (hg:Agr fp xs st st₂):∀{ps:List (Nat×Operand)} {cs cs':List (D κ El)},(∀p∈ps,p.2∈xs)→b2w sz st cs ps=some cs'→b2w sz st₂ cs ps=some cs':=by
 intro ps
 induction ps with
 |nil=>intro cs cs' _ h;exact h
 |cons p ps ih=>
  obtain ⟨i,x⟩:=p;intro cs cs' hl h;simp only[b2w]at h ⊢;rw[d7]at h;split at h
  ·rename_i hc;have hc':=hc;rw[yae]at hc';have e:opd st₂ x=opd st x:=hg.eq (hl (i,x) (by simp)) rfl (a4d hc'.2);rw[e,hc,yac];split at h
   ·rename_i cs1 hs;exact ih (λp hp=>hl p (by simp[hp])) h
   ·cases h
  ·cases h
def e1y {t:Nat} {ps:Array (Nat×Operand)} (ho:o.op=.build t ps) (h:aop P S call q o st k=some r):Loc P S call q o st k r:=by
 have hl:looks o=ps.toList.map (·.2):=by simp[looks,Op.operands,ho]
 have hw:(m0 o st 0).wr=[]:=by unfold m0;simp only[ho]
 have hmem:∀p∈ps.toList,p.2∈looks o:=λp hp=>by rw[hl];exact ybe.2 ⟨p,hp,rfl⟩
 unfold aop at h;simp only[ho]at h;split at h
 ·rename_i z hz;split at h
  ·rename_i n e he;split at h
   ·rename_i cs hb;refine .val h hw (λst₂ hg=>⟨_,.inr rfl,λk₂ h2=>?_⟩);unfold aop;simp only[ho,hz,he,d3q hg hmem hb];exact h2
   ·cases h
  ·rename_i he;rw[d7]at h;split at h
   ·rename_i ht;split at h
    ·rename_i cs hb;refine .val h hw (λst₂ hg=>⟨_,.inr rfl,λk₂ h2=>?_⟩);unfold aop;simp only[ho,hz,he,ht,yac,d3r hg hmem hb];exact h2
    ·cases h
   ·cases h
 ·cases h
end
end
section
section
variable {κ:Type} {El:κ→Type} {S:Sg κ El} {P:Program}
variable {st:St κ El} {R:Type} [KdEq κ]
structure AG (fp:List (Nat×Nat)) (st st₂:St κ El):Prop where
 bx:∀b,(0,b)∈fp→c8 b st₂.bx=c8 b st.bx
 ar:∀n,(1,n)∈fp→c8 n st₂.ar=c8 n st.ar
structure DD (fp:List (Nat×Nat)) (st st1 st₂ st₂1:St κ El):Prop where
 env:st1.env=st.env∧st₂1.env=st₂.env
 bx:st1.bx=st.bx∧st₂1.bx=st₂.bx
 ark:∀n,(1,n)∉fp→c8 n st1.ar=c8 n st.ar∧c8 n st₂1.ar=c8 n st₂.ar
 ag:AG fp st1 st₂1
def DD.refl {fp:List (Nat×Nat)} {st st₂:St κ El} (h:AG fp st st₂):DD fp st st st₂ st₂:=⟨⟨rfl,rfl⟩,⟨rfl,rfl⟩,λ_ _=>⟨rfl,rfl⟩,h⟩
def DD.trans {fp:List (Nat×Nat)} {st st1 st2 st₂ st₂1 st₂2:St κ El} (h:DD fp st st1 st₂ st₂1) (h':DD fp st1 st2 st₂1 st₂2):DD fp st st2 st₂ st₂2:=
 ⟨⟨h'.env.1.trans h.env.1,h'.env.2.trans h.env.2⟩,⟨h'.bx.1.trans h.bx.1,h'.bx.2.trans h.bx.2⟩,λn hn=>⟨(h'.ark n hn).1.trans (h.ark n hn).1,(h'.ark n hn).2.trans (h.ark n hn).2⟩,h'.ag⟩
def a8w {fp:List (Nat×Nat)} {st st1 st₂:St κ El} {d d':D κ El} (h:a1b st d=some (st1,d')) (ha:AG fp st st₂) (hf:∀p∈m5 d,p∈fp):∃st₂1,a1b st₂ d=some (st₂1,d')∧DD fp st st1 st₂ st₂1:=by
 unfold a1b at h;split at h
 case h_7=>
  rename_i a v;split at h
  ·rename_i A hA;rw[d7]at h;split at h
   ·rename_i hok;cases h
    have hA₂:c8 a st₂.ar=some A:=(ha.ar a (hf _ (by simp[m5]))).trans hA;refine ⟨{st₂ with ar:=a1z a {A with sealed:=true} st₂.ar},by simp[a1b,hA₂,hok],⟨rfl,rfl⟩,⟨rfl,rfl⟩,λn hn=>?_,ha.bx,λn hn=>?_⟩
    ·have hne:¬n=a:=λe=>hn (by rw[e];exact hf _ (by simp[m5]))
     rw[c6 hA,c6 hA₂,yap hne,yap hne];exact ⟨rfl,rfl⟩
    ·rw[c6 hA,c6 hA₂];split
     ·rfl
     ·exact ha.ar n hn
   ·cases h
  ·cases h
 case h_8=>cases h
 all_goals (cases h;exact ⟨st₂,rfl,.refl ha⟩)
def a4e {fp:List (Nat×Nat)}:∀{cs cs':List (D κ El)} {st st1 st₂:St κ El},a0k st cs=some (st1,cs')→AG fp st st₂→(∀d∈cs,∀p∈m5 d,p∈fp)→∃st₂1,a0k st₂ cs=some (st₂1,cs')∧DD fp st st1 st₂ st₂1:=by
 intro cs
 induction cs with
 |nil=>intro cs' st st1 st₂ h ha hf;cases h;exact ⟨st₂,rfl,.refl ha⟩
 |cons d cs ih=>
  intro cs' st st1 st₂ h ha hf;simp only[a0k]at h ⊢;split at h
  ·rename_i s1 d1 h1;split at h
   ·rename_i s2 cs2 h2;cases h
    obtain ⟨t1,e1,D1⟩:=a8w h1 ha (hf d (by simp));obtain ⟨t2,e2,D2⟩:=ih h2 D1.ag (λd' hd'=>hf d' (by simp[hd']));exact ⟨t2,by simp only[e1,e2],D1.trans D2⟩
   ·cases h
  ·cases h
def a4s (st:St κ El) (fp:List (Nat×Nat)) (d:D κ El):Prop:=
 (∀p∈a6j d,p∈fp)∧∀b,(0,b)∈a6j d→∀cs,c8 b st.bx=some cs→∀c∈cs,∀p∈m5 c,p∈fp
def a4s.bx {st st1:St κ El} {fp:List (Nat×Nat)} {d:D κ El} (e:st1.bx=st.bx) (h:a4s st fp d):a4s st1 fp d:=⟨h.1,λb hb cs hcs=>h.2 b hb cs (by rw[←e];exact hcs)⟩
def b6x {fp:List (Nat×Nat)} {st st1 st₂:St κ El} {d d':D κ El} (h:a7d st d=some (st1,d')) (ha:AG fp st st₂) (hf:a4s st fp d):∃st₂1,a7d st₂ d=some (st₂1,d')∧DD fp st st1 st₂ st₂1:=by
 unfold a7d at h;split at h
 ·rename_i cs;split at h
  ·rename_i s1 cs1 h1;cases h
   obtain ⟨t1,e1,D1⟩:=a4e h1 ha (λd hd p hp=>hf.1 p (by simp only[a6j,ybm];exact ⟨d,hd,hp⟩));exact ⟨t1,by simp only[a7d,e1],D1⟩
  ·cases h
 ·cases h;exact ⟨st₂,rfl,.refl ha⟩
 ·rename_i b off;split at h
  ·rename_i cs hb;split at h
   ·rename_i s1 cs1 h1;cases h
    have hm:(0,b)∈a6j (.ptr b off:D κ El):=by simp[a6j,m5]
    obtain ⟨t1,e1,D1⟩:=a4e h1 ha (λd hd p hp=>hf.2 b hm cs hb d hd p hp);exact ⟨t1,by simp only[a7d,(ha.bx b (hf.1 _ hm)).trans hb,e1],D1⟩
   ·cases h
  ·cases h
 ·rename_i v h1 h2 h3;obtain ⟨t1,e1,D1⟩:=a8w h ha (λp hp=>hf.1 p (by
   cases d<;>simp[m5]at hp<;>simp[a6j,m5,hp]))
  refine ⟨t1,?_,D1⟩;rw[←e1];cases d<;>first|rfl|exact absurd rfl (h1 _)|exact absurd rfl (h2 _ _)|exact absurd rfl (h3 _ _)
def b3g {fp:List (Nat×Nat)}:∀{cs cs':List (D κ El)} {st st1 st₂:St κ El},a58 st cs=some (st1,cs')→AG fp st st₂→(∀d∈cs,a4s st fp d)→∃st₂1,a58 st₂ cs=some (st₂1,cs')∧DD fp st st1 st₂ st₂1:=by
 intro cs
 induction cs with
 |nil=>intro cs' st st1 st₂ h ha hf;cases h;exact ⟨st₂,rfl,.refl ha⟩
 |cons d cs ih=>
  intro cs' st st1 st₂ h ha hf;simp only[a58]at h ⊢;split at h
  ·rename_i s1 d1 h1;split at h
   ·rename_i s2 cs2 h2;cases h
    obtain ⟨t1,e1,D1⟩:=b6x h1 ha (hf d (by simp));obtain ⟨t2,e2,D2⟩:=ih h2 D1.ag (λd' hd'=>(hf d' (by simp[hd'])).bx D1.bx.1);exact ⟨t2,by simp only[e1,e2],D1.trans D2⟩
   ·cases h
  ·cases h
def a18 (st:St κ El) (fp:List (Nat×Nat)) (d:D κ El):Prop:=
 match d with
 |.fn _ pre caps=>∀d∈pre++caps,a4s st fp d
 |d=>a4s st fp d
def a4s.sub {fp:List (Nat×Nat)} {d e:D κ El} (h:∀p∈a34 st d,p∈fp) (he:∀p∈a6j e,p∈a8m d):a4s st fp e:=by
 refine ⟨λp hp=>h p (by simp only[a34,ybm];exact ⟨p,he p hp,by simp⟩),λb hb cs hcs c hc p hp=>h p ?_⟩;simp only[a34,ybm];refine ⟨(0,b),he _ hb,?_⟩;simp only[a82,decide_true,yac,hcs,yaM,ybm];exact .inr ⟨c,hc,hp⟩
def a18.sub {fp:List (Nat×Nat)} {d e:D κ El} (h:∀p∈a34 st d,p∈fp) (he:∀p∈e0a e,p∈a8m d):a18 st fp e:=by
 cases e with
 |fn f pre caps=>
  intro x hx;refine a4s.sub h (λp hp=>he p ?_);simp only[e0a,yau,ybm];rcases yau.1 hx with h1|h1
  ·exact .inl ⟨x,h1,hp⟩
  ·exact .inr ⟨x,h1,hp⟩
 |_=>exact a4s.sub h (λp hp=>he p hp)
def a18.elem {fp:List (Nat×Nat)} {f:Nat} {pre caps:List (D κ El)} (h:∀p∈a34 st (.fn f pre caps),p∈fp) {e:D κ El} (he:e∈pre++caps):a18 st fp e:=by
 refine a18.sub h (λp hp=>?_);simp only[a8m,yau,ybm];rcases yau.1 he with h1|h1
 ·exact .inl ⟨e,h1,hp⟩
 ·exact .inr ⟨e,h1,hp⟩
def d99 {e:D κ El}:∀p∈a6j e,p∈e0a e:=by
 intro p hp;cases e with
 |fn f pre caps=>simp[a6j,m5]at hp
 |_=>exact hp
def a18.of {fp:List (Nat×Nat)} {d:D κ El} (h:∀p∈a34 st d,p∈fp):a18 st fp d:=by
 cases d with
 |fn f pre caps=>
  intro e he;refine a4s.sub h (λp hp=>?_);simp only[a8m,yau,ybm];rcases yau.1 he with h1|h1
  ·exact .inl ⟨e,h1,d99 p hp⟩
  ·exact .inr ⟨e,h1,d99 p hp⟩
 |_=>exact a4s.sub h (λp hp=>hp)
def a18.bx {st st1:St κ El} {fp:List (Nat×Nat)} {d:D κ El} (e:st1.bx=st.bx) (h:a18 st fp d):a18 st1 fp d:=by
 cases d with
 |fn f pre caps=>intro d hd;exact (h d hd).bx e
 |_=>exact a4s.bx e h
def b6u {fp:List (Nat×Nat)} {st st1 st₂:St κ El} {d d':D κ El} (h:a6g st d=some (st1,d')) (ha:AG fp st st₂) (hf:a18 st fp d):∃st₂1,a6g st₂ d=some (st₂1,d')∧DD fp st st1 st₂ st₂1:=by
 unfold a6g at h;split at h
 ·rename_i f pre caps;split at h
  ·rename_i s1 p1 h1;split at h
   ·rename_i s2 c2 h2;cases h
    obtain ⟨t1,e1,D1⟩:=b3g h1 ha (λd hd=>hf d (by simp[hd]));obtain ⟨t2,e2,D2⟩:=b3g h2 D1.ag (λd hd=>(hf d (by simp[hd])).bx D1.bx.1);exact ⟨t2,by simp only[a6g,e1,e2],D1.trans D2⟩
   ·cases h
  ·cases h
 ·rename_i hne;have hf':a4s st fp d:=by
   cases d with
   |fn f p c=>exact absurd rfl (hne f p c)
   |_=>exact hf
  obtain ⟨t1,e1,D1⟩:=b6x h ha hf';refine ⟨t1,?_,D1⟩;rw[←e1];cases d<;>first|rfl|exact absurd rfl (hne _ _ _)
def a16 {fp:List (Nat×Nat)}:∀{cs cs':List (D κ El)} {st st1 st₂:St κ El},a1x st cs=some (st1,cs')→AG fp st st₂→(∀d∈cs,a18 st fp d)→∃st₂1,a1x st₂ cs=some (st₂1,cs')∧DD fp st st1 st₂ st₂1:=by
 intro cs
 induction cs with
 |nil=>intro cs' st st1 st₂ h ha hf;cases h;exact ⟨st₂,rfl,.refl ha⟩
 |cons d cs ih=>
  intro cs' st st1 st₂ h ha hf;simp only[a1x]at h ⊢;split at h
  ·rename_i s1 d1 h1;split at h
   ·rename_i s2 cs2 h2;cases h
    obtain ⟨t1,e1,D1⟩:=b6u h1 ha (hf d (by simp));obtain ⟨t2,e2,D2⟩:=ih h2 D1.ag (λd' hd'=>(hf d' (by simp[hd'])).bx D1.bx.1);exact ⟨t2,by simp only[e1,e2],D1.trans D2⟩
   ·cases h
  ·cases h
def c7z {fp:List (Nat×Nat)}:∀{cs cs':List (D κ El)} {j:Nat} {ns:List Nat} {bss:List (List (D κ El))} {st st1 st₂:St κ El},a2c st j cs=some (st1,cs',ns,bss)→AG fp st st₂→(∀d∈cs,a18 st fp d)→
 (∃st₂1,a2c st₂ j cs=some (st₂1,cs',ns,bss)∧DD fp st st1 st₂ st₂1)∧∀n∈ns,(0,n)∈fp:=by
 intro cs
 induction cs with
 |nil=>intro cs' j ns bss st st1 st₂ h ha hf;simp only[a2c,yam,ya7]at h;obtain ⟨rfl,rfl,rfl,rfl⟩:=h;exact ⟨⟨st₂,rfl,.refl ha⟩,λn hn=>by cases hn⟩
 |cons d cs ih=>
  intro cs' j ns bss st st1 st₂ h ha hf;unfold a2c at h;split at h
  ·rename_i heq;cases heq
  ·rename_i b off cs0 heq;obtain ⟨rfl,rfl⟩:=yce heq;split at h
   ·rename_i bs hb;split at h
    ·rename_i s1 bs1 h1;split at h
     ·rename_i s2 cs2 ns2 bss2 h2;rw[d7]at h;split at h
      ·rename_i hnot;simp only[yam,ya7]at h;obtain ⟨rfl,rfl,rfl,rfl⟩:=h;have hd:a4s st fp (.ptr b off):=hf (.ptr b off) (yaK ..);have hm:(0,b)∈a6j (.ptr b off:D κ El):=by simp[a6j,m5]
       obtain ⟨t1,e1,D1⟩:=a4e h1 ha (λd hd' p hp=>hd.2 b hm bs hb d hd' p hp);obtain ⟨⟨t2,e2,D2⟩,h3⟩:=ih h2 D1.ag (λd' hd'=>(hf d' (by simp[hd'])).bx D1.bx.1);refine ⟨⟨t2,?_,D1.trans D2⟩,λn hn=>?_⟩
       ·unfold a2c;simp only[(ha.bx b (hd.1 _ hm)).trans hb,e1,e2,hnot,yac]
       ·rcases yaM.1 hn with rfl|hn
        ·exact hd.1 _ hm
        ·exact h3 n hn
      ·cases h
     ·cases h
    ·cases h
   ·cases h
  ·rename_i d0 cs0 hne heq;obtain ⟨rfl,rfl⟩:=yce heq;split at h
   ·rename_i s1 d1 h1;split at h
    ·rename_i s2 cs2 ns2 bss2 h2;simp only[yam,ya7]at h;obtain ⟨rfl,rfl,rfl,rfl⟩:=h;obtain ⟨t1,e1,D1⟩:=b6u h1 ha (hf d (by simp));obtain ⟨⟨t2,e2,D2⟩,h3⟩:=ih h2 D1.ag (λd' hd'=>(hf d' (by simp[hd'])).bx D1.bx.1);refine ⟨⟨t2,?_,D1.trans D2⟩,h3⟩;rw[a2c]
     ·simp only[e1,e2]
     ·exact hne
    ·cases h
   ·cases h
end
end
section
section
variable {κ:Type} {El:κ→Type} {S:Sg κ El} {P:Program}
variable {st:St κ El} {R:Type} [KdEq κ]
variable {o:Oper} {q:Bool} {call:Nat→List (D κ El)→List (List (D κ El))→(D κ El→List (List (D κ El))→Option R)→Option R} {k:St κ El→Option R} {r:R}
def a41 {cl:Call} {b:Builtin} (ho:o.op=.call cl) (hc:cl.callee=.builtin b):looks o=cl.args.toList:=by
 simp[looks,Op.operands,Call.operands,ho,hc]
def c7x {cl:Call} {fo:Operand} (ho:o.op=.call cl) (hc:cl.callee=.value fo):looks o=fo::cl.args.toList:=by
 simp[looks,Op.operands,Call.operands,ho,hc]
def e8v {t:Nat} {d:D κ El} {st₂:St κ El} (ha:∀n,(1,n)∈m5 d→c8 n st₂.ar=c8 n st.ar) (k:D κ El→Option R):e6g P t st₂ d k=e6g P t st d k:=by
 unfold e6g;cases d<;>try rfl
 rename_i a v;simp only[ha a (by simp[m5])]
def g2c {cl:Call} (ho:o.op=.call cl) (hc:cl.callee=.builtin .len) (h:aop P S call q o st k=some r):Loc P S call q o st k r:=by
 have hl:=a41 ho hc;have hf:m0 o st 0=⟨0,cl.args.toList.flatMap (λx=>m5 (opd st x)),[]⟩:=by unfold m0;simp only[ho,hc]
 have h0:=h;unfold aop at h;simp only[ho,hc]at h;unfold a1g at h;split at h<;>try contradiction
 rename_i t l x _ hty hargs;obtain ⟨x',hx',rfl⟩:∃x',cl.args.toList=[x']∧opd st x'=x:=by
  obtain ⟨y,ys,e1,e2,e3⟩:=a9g hargs;have:ys=[]:=by simpa using e3
  exact ⟨y,by rw[e1,this],e2⟩
 rw[c3a]at h;obtain ⟨d,hd,hk⟩:=ya5.1 h;have hx:opd st x'≠.undef:=λe=>by rw[e]at hd;simp only[e6g]at hd;split at hd<;>cases hd
 refine .val hk (by rw[hf]) (λst₂ hg=>⟨d,.inr rfl,λk₂ h2=>?_⟩);have har:=hg.ar;rw[hf]at har;have e:=hg.eq (x:=x') (by rw[hl,hx'];simp) rfl hx;unfold aop;simp only[ho,hc];rw[hx',hty];simp only[ybu,List.map_nil,a1g,e];rw[c3a,e8v (st:=st) (λn hm=>har n (by simp[hx'];exact hm)),hd];exact h2
def d49:∀{l:List (D κ El)} {x d:D κ El},f4e x l=some d→a2v (x::l)=true:=by
 intro l
 induction l with
 |nil=>intro x d h;cases x<;>simp[f4e]at h;simp[a2v,solid]
 |cons y l ih=>
  intro x d h;cases x<;>cases y<;>simp only[f4e,reduceCtorEq]at h
  rw[d7]at h;split at h
  ·have:=ih h;simp[a2v,solid]at this ⊢;exact this
  ·cases h
def d47:∀{l:List (D κ El)} {x d:D κ El},f4d x l=some d→a2v (x::l)=true:=by
 intro l
 induction l with
 |nil=>intro x d h;cases x<;>simp[f4d]at h;simp[a2v,solid]
 |cons y l ih=>
  intro x d h;cases x<;>cases y<;>simp only[f4d,reduceCtorEq]at h
  rw[d7]at h;split at h
  ·have:=ih h;simp[a2v,solid]at this ⊢;exact this
  ·cases h
def g2e {cl:Call} (ho:o.op=.call cl) (hc:cl.callee=.builtin .min) (h:aop P S call q o st k=some r):Loc P S call q o st k r:=by
 have hl:=a41 ho hc;have hw:(m0 o st 0).wr=[]:=by unfold m0;simp only[ho,hc]
 unfold aop at h;simp only[ho,hc]at h;unfold a1g at h;split at h<;>try contradiction
 rename_i tys x l _ hargs;split at h
 ·rename_i d hd;refine .val h hw (λst₂ hg=>⟨d,.inr rfl,λk₂ h2=>?_⟩);have e:=hg.opds (l:=cl.args.toList) (λx hx=>by rw[hl];exact hx) (by rw[hargs];exact d49 hd);unfold aop;simp only[ho,hc,e,hargs,a1g,hd];exact h2
 ·cases h
def g2d {cl:Call} (ho:o.op=.call cl) (hc:cl.callee=.builtin .max) (h:aop P S call q o st k=some r):Loc P S call q o st k r:=by
 have hl:=a41 ho hc;have hw:(m0 o st 0).wr=[]:=by unfold m0;simp only[ho,hc]
 unfold aop at h;simp only[ho,hc]at h;unfold a1g at h;split at h<;>try contradiction
 rename_i tys x l _ hargs;split at h
 ·rename_i d hd;refine .val h hw (λst₂ hg=>⟨d,.inr rfl,λk₂ h2=>?_⟩);have e:=hg.opds (l:=cl.args.toList) (λx hx=>by rw[hl];exact hx) (by rw[hargs];exact d47 hd);unfold aop;simp only[ho,hc,e,hargs,a1g,hd];exact h2
 ·cases h
def Agr.ag {fp:List (Nat×Nat)} {xs:List Operand} {st₂:St κ El} (h:Agr fp xs st st₂) {fp':List (Nat×Nat)} (hs:∀p∈fp',p∈fp):AG fp' st st₂:=⟨λb hb=>h.bx b (hs _ hb),λn hn=>h.ar n (hs _ hn)⟩
def e1w {e:Nat} (ho:o.op=.alloc e) (h:aop P S call q o st k=some r):Loc P S call q o st k r:=by
 unfold aop at h;simp only[ho]at h;cases hb:g8r S e with
 |some B=>
  rw[hb]at h;simp only at h;split at h
  rotate_left
  ·cases h
  rename_i d hdst;have hf:m0 o st 0=⟨0,[],[(0,d),(1,d)]⟩:=by unfold m0;simp only[ho,hdst]
  rw[d7]at h;split at h
  rotate_left
  ·cases h
  rename_i hc;refine ⟨_,h,λst₂ hg=>⟨{Ev.put st₂ o.dst (.arr d 0) with ar:=(d,⟨B.k,[],0,true,true⟩)::st₂.ar},?_,λk₂ h2=>?_⟩⟩
  ·rw[hf];refine ⟨λs hs=>?_,λs hs=>.inr ?_,λb hb=>?_,λb hb=>?_,λn hn=>?_,λn hn=>?_⟩
   ·show c8 s (Ev.put st o.dst (.arr d 0)).env=_∧c8 s (Ev.put st₂ o.dst (.arr d 0)).env=_
    rw[a01,a01,yap hs,yap hs];exact ⟨rfl,rfl⟩
   ·show c8 s (Ev.put st₂ o.dst (.arr d 0)).env=c8 s (Ev.put st o.dst (.arr d 0)).env
    rw[a01,a01,yaF hs,yaF hs]
   ·show c8 b (Ev.put st₂ o.dst _).bx=c8 b (Ev.put st o.dst _).bx
    rw[a2l,a2l];exact hg.bx b (by rw[hf];simpa using hb)
   ·show c8 b (Ev.put st o.dst _).bx=_∧c8 b (Ev.put st₂ o.dst _).bx=_
    rw[a2l,a2l];exact ⟨rfl,rfl⟩
   ·show c8 n ((d,_)::st₂.ar)=c8 n ((d,_)::st.ar)
    rw[e8,e8];split
    ·rfl
    ·exact hg.ar n (by rw[hf];simpa using hn)
   ·have hne:¬n=d:=λe=>hn (by simp[e])
    show c8 n ((d,_)::st.ar)=_∧c8 n ((d,_)::st₂.ar)=_
    rw[e8,e8,yap hne,yap hne];exact ⟨rfl,rfl⟩
  ·have hfr₂:c8 d st₂.ar=c8 d st.ar:=hg.ar d (by rw[hf];simp);unfold aop;simp only[ho,hdst,hb,hfr₂,hc,yac];rw[hdst]at h2;exact h2
 |none=>
 rw[hb]at h;simp only at h;split at h
 ·rename_i d cs hdst hz;have hf:m0 o st 0=⟨0,[],[(0,d),(1,d)]⟩:=by unfold m0;simp only[ho,hdst]
  rw[d7]at h;split at h
  ·rename_i hfr;refine ⟨_,h,λst₂ hg=>⟨{Ev.put st₂ o.dst (.ptr d 0) with bx:=(d,cs)::st₂.bx},?_,λk₂ h2=>?_⟩⟩
   ·have hga:∀n,(1,n)∈(m0 o st 0).wr→c8 n st₂.ar=c8 n st.ar:=λn hn=>hg.ar n (yaJ _ hn)
    have hgb:∀n,(0,n)∈(m0 o st 0).wr→c8 n st₂.bx=c8 n st.bx:=λn hn=>hg.bx n (yaJ _ hn)
    rw[hf]at hga hgb ⊢;refine ⟨λs hs=>?_,λs hs=>.inr ?_,λb hb=>?_,λb hb=>?_,λn hn=>?_,λn hn=>?_⟩
    ·show c8 s (Ev.put st o.dst (.ptr d 0)).env=_∧c8 s (Ev.put st₂ o.dst (.ptr d 0)).env=_
     rw[a01,a01,yap hs,yap hs];exact ⟨rfl,rfl⟩
    ·show c8 s (Ev.put st₂ o.dst (.ptr d 0)).env=c8 s (Ev.put st o.dst (.ptr d 0)).env
     rw[a01,a01,yaF hs,yaF hs]
    ·show c8 b ((d,cs)::st₂.bx)=c8 b ((d,cs)::st.bx)
     rw[e8,e8];split
     ·rfl
     ·exact hgb b hb
    ·have hne:¬b=d:=λe=>hb (by simp[e])
     show c8 b ((d,cs)::st.bx)=_∧c8 b ((d,cs)::st₂.bx)=_
     rw[e8,e8,yap hne,yap hne];exact ⟨rfl,rfl⟩
    ·show c8 n (Ev.put st₂ o.dst _).ar=c8 n (Ev.put st o.dst _).ar
     rw[a3d,a3d];exact hga n hn
    ·show c8 n (Ev.put st o.dst _).ar=_∧c8 n (Ev.put st₂ o.dst _).ar=_
     rw[a3d,a3d];exact ⟨rfl,rfl⟩
   ·have hfr₂:a6n (c8 d st₂.bx)=true:=by rw[hg.bx d (by rw[hf];simp)];exact hfr
    unfold aop;simp only[ho,hdst,hb,hz,hfr₂,yac];rw[hdst]at h2;exact h2
  ·cases h
 ·cases h
end
end
section
section
variable {κ:Type} {El:κ→Type} {S:Sg κ El} {P:Program}
variable {st:St κ El} {R:Type} [KdEq κ]
variable {o:Oper} {q:Bool} {call:Nat→List (D κ El)→List (List (D κ El))→(D κ El→List (List (D κ El))→Option R)→Option R} {k:St κ El→Option R} {r:R}
def Dlt.newBox {dst:Option Nat} {wr:List (Nat×Nat)} {st1 st₂ st₂1:St κ El} {d:Nat} {v:D κ El} {cs:List (D κ El)} (hd:(0,d)∈wr) (D1:DD wr st st1 st₂ st₂1) :
 Dlt dst wr st {Ev.put st1 dst v with bx:=(d,cs)::st1.bx} st₂ {Ev.put st₂1 dst v with bx:=(d,cs)::st₂1.bx}:=by
 refine ⟨λs hs=>?_,λs hs=>.inr ?_,λb hb=>?_,λb hb=>?_,λn hn=>?_,λn hn=>?_⟩
 ·show c8 s (Ev.put st1 dst v).env=_∧c8 s (Ev.put st₂1 dst v).env=_
  rw[a01,a01,yap hs,yap hs,D1.env.1,D1.env.2];exact ⟨rfl,rfl⟩
 ·show c8 s (Ev.put st₂1 dst v).env=c8 s (Ev.put st1 dst v).env
  rw[a01,a01,yaF hs,yaF hs]
 ·show c8 b ((d,cs)::st₂1.bx)=c8 b ((d,cs)::st1.bx)
  rw[e8,e8];split
  ·rfl
  ·exact D1.ag.bx b hb
 ·have hne:¬b=d:=λe=>hb (by rw[e];exact hd)
  show c8 b ((d,cs)::st1.bx)=_∧c8 b ((d,cs)::st₂1.bx)=_
  rw[e8,e8,yap hne,yap hne,D1.bx.1,D1.bx.2];exact ⟨rfl,rfl⟩
 ·show c8 n (Ev.put st₂1 dst v).ar=c8 n (Ev.put st1 dst v).ar
  rw[a3d,a3d];exact D1.ag.ar n hn
 ·show c8 n (Ev.put st1 dst v).ar=_∧c8 n (Ev.put st₂1 dst v).ar=_
  rw[a3d,a3d];exact D1.ark n hn
def Dlt.setAr {dst:Option Nat} {wr:List (Nat×Nat)} {st1 st₂ st₂1:St κ El} {v:D κ El} {ar' ar₂':List (Nat×Ar κ El)} (D1:DD wr st st1 st₂ st₂1)
 (hw:∀n,(1,n)∈wr→c8 n ar₂'=c8 n ar') (hk:∀n,(1,n)∉wr→c8 n ar'=c8 n st1.ar∧c8 n ar₂'=c8 n st₂1.ar) :
 Dlt dst wr st {Ev.put st1 dst v with ar:=ar'} st₂ {Ev.put st₂1 dst v with ar:=ar₂'}:=by
 refine ⟨λs hs=>?_,λs hs=>.inr ?_,λb hb=>?_,λb hb=>?_,hw,λn hn=>⟨(hk n hn).1.trans (D1.ark n hn).1,(hk n hn).2.trans (D1.ark n hn).2⟩⟩
 ·show c8 s (Ev.put st1 dst v).env=_∧c8 s (Ev.put st₂1 dst v).env=_
  rw[a01,a01,yap hs,yap hs,D1.env.1,D1.env.2];exact ⟨rfl,rfl⟩
 ·show c8 s (Ev.put st₂1 dst v).env=c8 s (Ev.put st1 dst v).env
  rw[a01,a01,yaF hs,yaF hs]
 ·show c8 b (Ev.put st₂1 dst v).bx=c8 b (Ev.put st1 dst v).bx
  rw[a2l,a2l];exact D1.ag.bx b hb
 ·show c8 b (Ev.put st1 dst v).bx=_∧c8 b (Ev.put st₂1 dst v).bx=_
  rw[a2l,a2l,D1.bx.1,D1.bx.2];exact ⟨rfl,rfl⟩
def DD.put {dst:Option Nat} {wr:List (Nat×Nat)} {st1 st₂ st₂1:St κ El} {v:D κ El} (D1:DD wr st st1 st₂ st₂1):Dlt dst wr st (Ev.put st1 dst v) st₂ (Ev.put st₂1 dst v):=
 .put (.inr rfl) (λs=>by rw[D1.env.1,D1.env.2];exact ⟨rfl,rfl⟩) (λb hb=>D1.ag.bx b hb) (λb _=>by rw[D1.bx.1,D1.bx.2];exact ⟨rfl,rfl⟩) (λn hn=>D1.ag.ar n hn) (λn hn=>D1.ark n hn)
def g2b {e:Nat} {x:Operand} (ho:o.op=.box e x) (h:aop P S call q o st k=some r):Loc P S call q o st k r:=by
 have hl:x∈looks o:=by simp[looks,Op.operands,ho]
 unfold aop at h;simp only[ho]at h;split at h
 ·rename_i d hdst;have hf:m0 o st 0=⟨0,[],[(0,d)]⟩:=by unfold m0;simp only[ho,hdst]
  rw[d7]at h;split at h
  ·rename_i hfr;refine ⟨_,h,λst₂ hg=>⟨{Ev.put st₂ o.dst (.ptr d 0) with bx:=(d,a1i (opd st x))::st₂.bx},?_,λk₂ h2=>?_⟩⟩
   ·rw[hf];refine Dlt.newBox (st1:=st) (st₂1:=st₂) (by simp) (.refl (hg.ag (λp hp=>by rw[hf];simpa using hp)))
   ·have hfr':=hfr;rw[yae]at hfr';have e:=hg.eq hl rfl (a4d hfr'.2);have hfr₂:c8 d st₂.bx=c8 d st.bx:=hg.bx d (by rw[hf];simp);unfold aop;simp only[ho,hdst,e,hfr₂,hfr,yac];rw[hdst]at h2;exact h2
  ·cases h
 ·cases h
def b7i {fp:List (Nat×Nat)} {xs:List Operand} {st₂:St κ El} (hg:Agr fp xs st st₂) {lo:Option Operand} (hl:∀x,lo=some x→x∈xs) {d i:Int} (h:a4l (lo.map (opd st)) d=some i):a4l (lo.map (opd st₂)) d=some i:=by
 cases lo with
 |none=>exact h
 |some x=>
  simp only[ybz]at h ⊢;rw[hg.eq (hl x rfl) rfl (λe=>by rw[e]at h;simp[a4l]at h)];exact h
def c9j {t:Nat} {x:D κ El} {lo hi mx:Option (D κ El)} {k:St κ El→D κ El→Option R} {r:R} (h:a50 P S t x lo hi mx st k=some r) :
 mx=none∧∃st1 d n l h',(∀a v,x=.arr a v→∃kd s,a1b st x=some (st1,.lst kd s)∧n=s.length)∧((∀a v,x≠.arr a v)→st1=st)∧a4l lo 0=some l∧a4l hi (n:Int)=some h'∧k st1 d=some r∧
  ∀{lo₂ hi₂:Option (D κ El)} st₂ st₂1 k₂,a4l lo₂ 0=some l→a4l hi₂ (n:Int)=some h'→(∀a v,x=.arr a v→∀y,a1b st x=some (st1,y)→a1b st₂ x=some (st₂1,y))→((∀a v,x≠.arr a v)→st₂1=st₂)→k₂ st₂1 d=some r→a50 P S t x lo₂ hi₂ none st₂ k₂=some r:=by
 unfold a50 at h;split at h
 ·cases h
 refine ⟨rfl,?_⟩;split at h
 ·rename_i s;rw[d7]at h;split at h
  ·rename_i ht;split at h
   ·rename_i l h' hl hh;rw[d7]at h;split at h
    ·rename_i hb;refine ⟨st,_,s.length,l,h',λa v e=>(by cases e),λ_=>rfl,hl,hh,h,λst₂ st₂1 k₂ h1 h2 h3 h4 h5=>?_⟩;rw[h4 (λa v e=>by cases e)]at h5;unfold a50;simp only[ht,yac,h1,h2,hb];exact h5
    ·cases h
   ·cases h
  ·cases h
 ·rename_i kd s;rw[d7]at h;split at h
  ·rename_i ht;split at h
   ·rename_i l h' hl hh;rw[d7]at h;split at h
    ·rename_i hb;refine ⟨st,_,s.length,l,h',λa v e=>(by cases e),λ_=>rfl,hl,hh,h,λst₂ st₂1 k₂ h1 h2 h3 h4 h5=>?_⟩;rw[h4 (λa v e=>by cases e)]at h5;unfold a50;simp only[ht,yac,h1,h2,hb];exact h5
    ·cases h
   ·cases h
  ·cases h
 ·rename_i a v;split at h
  ·rename_i st1 kd s hd;rw[d7]at h;split at h
   ·rename_i ht;split at h
    ·rename_i l h' hl hh;rw[d7]at h;split at h
     ·rename_i hb;refine ⟨st1,_,s.length,l,h',λa' v' e=>⟨kd,s,hd,rfl⟩,λhne=>absurd rfl (hne a v),hl,hh,h,λst₂ st₂1 k₂ h1 h2 h3 h4 h5=>?_⟩;have e:=h3 a v rfl _ hd;unfold a50;simp only[e,ht,yac,h1,h2,hb];exact h5
     ·cases h
    ·cases h
   ·cases h
  ·cases h
 ·cases h
def e12 {t:Nat} {x:Operand} {lo hi mx:Option Operand} (ho:o.op=.slice t x lo hi mx) (h:aop P S call q o st k=some r):Loc P S call q o st k r:=by
 have hl:looks o=[x]++lo.toList++hi.toList++mx.toList:=by simp[looks,Op.operands,ho]
 have hf:m0 o st 0=⟨0,[],m5 (opd st x)⟩:=by unfold m0;simp only[ho]
 unfold aop at h;simp only[ho]at h;have hx:opd st x≠.undef:=λe=>by rw[e]at h;unfold a50 at h;split at h<;>cases h
 obtain ⟨hmx,st1,d,n,l,h',hA,hN,hlo,hhi,hk,hall⟩:=c9j h;have hmx:mx=none:=by cases mx<;>simp_all
 subst hmx;refine ⟨_,hk,λst₂ hg=>?_⟩;have ag:AG (m5 (opd st x)) st st₂:=hg.ag (λp hp=>by rw[hf];simpa using hp);have e:=hg.eq (x:=x) (by rw[hl];simp) rfl hx;obtain ⟨st₂1,D1,hd1,hd2⟩:∃st₂1,DD (m5 (opd st x)) st st1 st₂ st₂1∧(∀a v,opd st x=.arr a v→∀y,a1b st (opd st x)=some (st1,y)→a1b st₂ (opd st x)=some (st₂1,y))∧((∀a v,opd st x≠.arr a v)→st₂1=st₂):=by
  by_cases ha:∃a v,opd st x=.arr a v
  ·obtain ⟨a,v,ha⟩:=ha;obtain ⟨kd,s,hd,_⟩:=hA a v ha;obtain ⟨t1,e1,D1⟩:=a8w hd ag (λp hp=>hp);refine ⟨t1,D1,λa' v' _ y hy=>?_,λhne=>absurd ha (hne a v)⟩;rw[hd]at hy;cases hy;exact e1
  ·have hne:∀a v,opd st x≠.arr a v:=λa v e=>ha ⟨a,v,e⟩
   rw[hN hne];exact ⟨st₂,.refl ag,λa v e=>absurd e (hne a v),λ_=>rfl⟩
 refine ⟨_,by rw[hf];exact D1.put (dst:=o.dst) (v:=d),λk₂ h2=>?_⟩;unfold aop;simp only[ho,e];exact hall st₂ st₂1 _ (b7i hg (λy hy=>by rw[hl,hy];simp) hlo) (b7i hg (λy hy=>by rw[hl,hy];simp) hhi) hd1 hd2 h2
end
end
section
section
variable {κ:Type} {El:κ→Type} {S:Sg κ El} {P:Program}
variable {st:St κ El} {R:Type} [KdEq κ]
variable {o:Oper} {q:Bool} {call:Nat→List (D κ El)→List (List (D κ El))→(D κ El→List (List (D κ El))→Option R)→Option R} {k:St κ El→Option R} {r:R}
def b28 {d e:D κ El} (he:e∈a1i d) (hs:a2v (a1i d)=true):∀p∈m5 e,p∈a8m d:=by
 intro p hp;unfold a1i at he hs;split at he
 ·simp only[a8m,a6j,ybm];exact ⟨e,he,hp⟩
 ·rename_i hne;simp only[yba]at he;subst he;cases e<;>simp[m5]at hp<;>simp[a8m,a6j,m5,hp]
def e14 {t:Nat} {x y:Operand} (ho:o.op=.store t x y) (h:aop P S call q o st k=some r):Loc P S call q o st k r:=by
 have hl:looks o=[x,y]:=by simp[looks,Op.operands,ho]
 have hf:m0 o st 0=⟨0,[],m5 (opd st x)++a8m (opd st y)⟩:=by unfold m0;simp only[ho]
 unfold aop at h;simp only[ho]at h;rw[d7]at h;split at h
 rotate_left
 ·cases h
 rename_i hdn;have hdst:=a0c hdn;unfold c5x at h;rw[d7]at h;split at h
 rotate_left
 ·cases h
 rename_i hc;have hc':=hc;rw[yae]at hc';have ey:∀{st₂},Agr ((m0 o st 0).rd++(m0 o st 0).wr) (looks o) st st₂→opd st₂ y=opd st y:=λhg=>hg.eq (by simp[hl]) rfl (a4d hc'.2)
 split at h
 ·rename_i b off hx;split at h
  ·rename_i cs hb;split at h
   ·rename_i cs' hsp;refine ⟨_,h,λst₂ hg=>⟨{st₂ with bx:=a1z b cs' st₂.bx},?_,λk₂ h2=>?_⟩⟩
    ·have hm:(0,b)∈(m0 o st 0).wr:=by rw[hf,hx];simp[m5]
     have hb₂:c8 b st₂.bx=some cs:=(hg.bx b (yaJ _ hm)).trans hb;rw[hdst];refine ⟨λs _=>⟨rfl,rfl⟩,λs hs=>(by cases hs),λb' hb'=>?_,λb' hb'=>?_,λn hn=>hg.ar n (yaJ _ hn),λn hn=>⟨rfl,rfl⟩⟩
     ·show c8 b' (a1z b cs' st₂.bx)=c8 b' (a1z b cs' st.bx)
      rw[c6 hb,c6 hb₂];split
      ·rfl
      ·exact hg.bx b' (yaJ _ hb')
     ·have hne:¬b'=b:=λe=>hb' (by rw[e];exact hm)
      show c8 b' (a1z b cs' st.bx)=_∧c8 b' (a1z b cs' st₂.bx)=_
      rw[c6 hb,c6 hb₂,yap hne,yap hne];exact ⟨rfl,rfl⟩
    ·have hm:(0,b)∈(m0 o st 0).wr:=by rw[hf,hx];simp[m5]
     have hb₂:c8 b st₂.bx=some cs:=(hg.bx b (yaJ _ hm)).trans hb;have ex:opd st₂ x=.ptr b off:=hg.eq (by simp[hl]) hx (by simp);unfold aop;simp only[ho,hdn,yac,ex,ey hg];unfold c5x;simp only[hc,yac,hb₂,hsp];exact h2
   ·cases h
  ·cases h
 ·rename_i a ver i off hx;split at h
  ·rename_i st1 new hdat;split at h
   ·rename_i A hA;rw[d7]at h;split at h
    ·rename_i hok;split at h
     ·rename_i xi hxi;split at h
      ·rename_i cs' hsp;split at h
       ·rename_i yv hdec;have hm:(1,a)∈(m0 o st 0).wr:=by rw[hf,hx];simp[m5]
        have main:∀st₂,Agr ((m0 o st 0).rd++(m0 o st 0).wr) (looks o) st st₂→∃t1,a0k st₂ (a1i (opd st y))=some (t1,new)∧DD (m0 o st 0).wr st st1 st₂ t1:=λst₂ hg=>
         a4e hdat (hg.ag (λp hp=>yaJ _ hp)) (λd hd p hp=>by rw[hf];exact yaJ _ (b28 hd hc'.2 p hp))
        refine ⟨_,h,λst₂ hg=>?_⟩;obtain ⟨t1,e1,D1⟩:=main st₂ hg;have hA₂:c8 a t1.ar=some A:=(D1.ag.ar a hm).trans hA;refine ⟨{t1 with ar:=a1z a {A with xs:=A.xs.set i yv} t1.ar},?_,λk₂ h2=>?_⟩
        ·rw[hdst];exact Dlt.setAr (dst:=none) (v:=.undef) D1 (λn hn=>by
          rw[c6 hA,c6 hA₂];split
          ·rfl
          ·exact D1.ag.ar n hn) (λn hn=>by
          have hne:¬n=a:=λe=>hn (by rw[e];exact hm)
          rw[c6 hA,c6 hA₂,yap hne,yap hne];exact ⟨rfl,rfl⟩)
        ·have ex:opd st₂ x=.aptr a ver i off:=hg.eq (by simp[hl]) hx (by simp);unfold aop;simp only[ho,hdn,yac,ex,ey hg];unfold c5x;simp only[hc,yac,e1,hA₂,hok,hxi,hsp,hdec];exact h2
       ·cases h
      ·cases h
     ·cases h
    ·cases h
   ·cases h
  ·cases h
 ·cases h
def c2i {fp:List (Nat×Nat)} {fp':List (Nat×Nat)} {xs:List Operand} {kd:κ} {n:Nat} {st0 st₀:St κ El} (hg:Agr fp' xs st0 st₀):∀{ps:List (Nat×Operand)} {i:Nat} {st st1 st₂:St κ El} {ys:List (El kd)},
 st.env=st0.env→st₂.env=st₀.env→(∀p∈ps,p.2∈xs)→(∀p∈ps,∀z∈a8m (opd st0 p.2),z∈fp)→a4w S kd st n i ps=some (st1,ys)→AG fp st st₂→
 ∃st₂1,a4w S kd st₂ n i ps=some (st₂1,ys)∧DD fp st st1 st₂ st₂1:=by
 intro ps
 induction ps with
 |nil=>
  intro i st st1 st₂ ys _ _ _ _ h ha;simp only[a4w]at h ⊢;rw[d7]at h;split at h
  ·rename_i hi;cases h
   exact ⟨st₂,by rw[hi];rfl,.refl ha⟩
  ·cases h
 |cons p ps ih=>
  obtain ⟨j,x⟩:=p;intro i st st1 st₂ ys he he₂ hl hfp h ha;have opd_env:∀{s s':St κ El} (y:Operand),s.env=s'.env→opd s y=opd s' y:=λy e=>by cases y<;>simp[opd,e]
  simp only[a4w]at h ⊢;rw[d7]at h;split at h
  ·rename_i hi;rw[hi,yac];split at h
   ·rename_i s1 cs hdat;split at h
    ·rename_i yv hdec;split at h
     ·rename_i s2 ys2 hrest;cases h
      have hsol:=a8p hdat;have e0:opd st x=opd st0 x:=opd_env x he;have e2:opd st₂ x=opd st x:=by
       rw[opd_env x he₂,e0];exact hg.eq (hl (j,x) (by simp)) rfl (by rw[←e0];exact a4d hsol)
      obtain ⟨t1,e1,D1⟩:=a4e hdat ha (λd hd p hp=>hfp (j,x) (by simp) p (by rw[←e0];exact b28 hd hsol p hp));obtain ⟨t2,e3,D2⟩:=ih (D1.env.1.trans he) (D1.env.2.trans he₂) (λp hp=>hl p (by simp[hp])) (λp hp=>hfp p (by simp[hp])) hrest D1.ag;exact ⟨t2,by simp only[e2,e1,hdec,e3],D1.trans D2⟩
     ·cases h
    ·cases h
   ·cases h
  ·cases h
def b6f {t n:Nat} {ps:Array (Nat×Operand)} (ho:o.op=.buildSlice t n ps) (h:aop P S call q o st k=some r):Loc P S call q o st k r:=by
 have hl:looks o=ps.toList.map (·.2):=by simp[looks,Op.operands,ho]
 unfold aop at h;simp only[ho]at h;split at h
 rotate_left
 ·cases h
 rename_i e d he hdst;have hf:m0 o st 0=⟨0,[],ps.toList.flatMap (λp=>a8m (opd st p.2))++[(1,d)]⟩:=by unfold m0;simp only[ho,hdst]
 split at h
 rotate_left
 ·cases h
 rename_i kd hkd;rw[d7]at h;split at h
 rotate_left
 ·cases h
 rename_i hfit;split at h
 rotate_left
 ·cases h
 rename_i st1 xs hdec;rw[d7]at h;split at h
 rotate_left
 ·cases h
 rename_i hfr;have hm:(1,d)∈(m0 o st 0).wr:=by rw[hf];simp
 refine ⟨_,h,λst₂ hg=>?_⟩;obtain ⟨t1,e1,D1⟩:=c2i (fp:=(m0 o st 0).wr) (S:=S) (kd:=kd) (n:=n) (i:=0) (ps:=ps.toList) hg rfl rfl (λp hp=>by rw[hl];exact ybe.2 ⟨p,hp,rfl⟩)
  (λp hp z hz=>by rw[hf];exact ybk _ (ybm.2 ⟨p,hp,hz⟩)) hdec (hg.ag (λp hp=>yaJ _ hp))
 have hfr₂:c8 d t1.ar=c8 d st1.ar:=D1.ag.ar d hm;refine ⟨{Ev.put t1 o.dst (.arr d 0) with ar:=(d,⟨kd,xs,0,false,false⟩)::t1.ar},Dlt.setAr D1 (λm hm'=>?_) (λm hm'=>?_),λk₂ h2=>?_⟩
 ·rw[e8,e8];split
  ·rfl
  ·exact D1.ag.ar m hm'
 ·have hne:¬m=d:=λe=>hm' (by rw[e];exact hm)
  rw[e8,e8,yap hne,yap hne];exact ⟨rfl,rfl⟩
 ·unfold aop;simp only[ho,he,hdst,hkd,hfit,yac,e1,hfr₂,hfr];rw[hdst]at h2;exact h2
def c0f {t:Nat} {x y:Operand} (ho:o.op=.makeSlice t x y) (h:aop P S call q o st k=some r):Loc P S call q o st k r:=by
 have hl:looks o=[x,y]:=by simp[looks,Op.operands,ho]
 unfold aop at h;simp only[ho]at h;split at h
 rotate_left
 ·cases h
 rename_i e d n m he hdst hx hy;have hf:m0 o st 0=⟨0,[],[(1,d)]⟩:=by unfold m0;simp only[ho,hdst]
 split at h
 rotate_left
 ·cases h
 rename_i kd zc hkd hz;rw[d7]at h;split at h
 rotate_left
 ·cases h
 rename_i hfit;split at h
 rotate_left
 ·cases h
 rename_i yv hdec;rw[d7]at h;split at h
 rotate_left
 ·cases h
 rename_i hc;have hm:(1,d)∈(m0 o st 0).wr:=by rw[hf];simp
 refine ⟨_,h,λst₂ hg=>?_⟩;have ag:AG (m0 o st 0).wr st st₂:=hg.ag (λp hp=>yaJ _ hp);have hfr₂:c8 d st₂.ar=c8 d st.ar:=ag.ar d hm;refine ⟨{Ev.put st₂ o.dst (.arr d 0) with ar:=(d,⟨kd,List.replicate n.toNat yv,0,false,false⟩)::st₂.ar},Dlt.setAr (st1:=st) (st₂1:=st₂) (.refl ag) (λm hm'=>?_) (λm hm'=>?_),λk₂ h2=>?_⟩
 ·rw[e8,e8];split
  ·rfl
  ·exact ag.ar m hm'
 ·have hne:¬m=d:=λe=>hm' (by rw[e];exact hm)
  rw[e8,e8,yap hne,yap hne];exact ⟨rfl,rfl⟩
 ·unfold aop;simp only[ho,he,hdst,hg.eq (x:=x) (by simp[hl]) hx (by simp),hg.eq (x:=y) (by simp[hl]) hy (by simp),hkd,hz,hfit,yac,hdec,hfr₂,hc];rw[hdst]at h2;exact h2
end
end
section
section
variable {κ:Type} {El:κ→Type} {S:Sg κ El} {P:Program}
variable {st:St κ El} {R:Type} [KdEq κ]
variable {o:Oper} {q:Bool} {call:Nat→List (D κ El)→List (List (D κ El))→(D κ El→List (List (D κ El))→Option R)→Option R} {k:St κ El→Option R} {r:R}
def c7p {kd:κ} {d:D κ El} {st₂:St κ El} (ha:∀n,(1,n)∈m5 d→c8 n st₂.ar=c8 n st.ar):a5c st₂ kd d=a5c st kd d:=by
 unfold a5c;cases d<;>try rfl
 rename_i a v;simp only[ha a (by simp[m5])]
def d44 {cl:Call} (ho:o.op=.call cl) (hc:cl.callee=.builtin .append) (h:aop P S call q o st k=some r):Loc P S call q o st k r:=by
 have hl:=a41 ho hc;unfold aop at h;simp only[ho,hc]at h;unfold a1g at h;split at h<;>try contradiction
 rename_i t u l x y _ hty hargs;obtain ⟨x',y',hx',rfl,rfl⟩:∃x' y',cl.args.toList=[x',y']∧opd st x'=x∧opd st y'=y:=by
  obtain ⟨z,zs,e1,e2,e3⟩:=a9g hargs;cases zs with
  |nil=>simp at e3
  |cons z2 zs2=>
   simp at e3;exact ⟨z,z2,by rw[e1,e3.2],e2,e3.1⟩
 split at h
 rotate_left
 ·cases h
 rename_i eu heu;unfold b2r at h;split at h
 rotate_left
 ·cases h
 rename_i e d he hdst;have hf:m0 o st 0=⟨0,m5 (opd st x')++m5 (opd st y'),[(1,d)]++(m5 (opd st x')++m5 (opd st y'))⟩:=by
  unfold m0;simp only[ho,hc,hx',hdst];simp
 split at h
 rotate_left
 ·cases h
 rename_i kd hkd;rw[d7]at h;split at h
 rotate_left
 ·cases h
 rename_i hfit;split at h
 rotate_left
 ·cases h
 rename_i ky ys0 hit;split at h
 rotate_left
 ·cases h
 rename_i ys hcy;have hy:opd st y'≠.undef:=λe=>by rw[e]at hit;simp[a5c]at hit
 simp only at h;have hm:(1,d)∈(m0 o st 0).wr:=by rw[hf];simp
 have hall:∀{st₂},Agr ((m0 o st 0).rd++(m0 o st 0).wr) (looks o) st st₂→AG (m0 o st 0).wr st st₂∧a5c st₂ kd (opd st y')=some ⟨ky,ys0⟩∧opd st₂ y'=opd st y':=λhg=>by
  refine ⟨hg.ag (λp hp=>yaJ _ hp),?_,hg.eq (by rw[hl,hx'];simp) rfl hy⟩;rw[c7p (st:=st) (λn hn=>hg.ar n (by rw[hf];simp[hn]))];exact hit
 split at h
 ·rename_i hxn;rw[d7]at h;split at h
  ·rename_i hcond;refine ⟨_,h,λst₂ hg=>?_⟩;obtain ⟨ag,hit₂,ey⟩:=hall hg;have ex:opd st₂ x'=.nil:=hg.eq (by rw[hl,hx'];simp) hxn (by simp);have hfr₂:c8 d st₂.ar=c8 d st.ar:=ag.ar d hm;refine ⟨{Ev.put st₂ o.dst (.arr d 0) with ar:=(d,⟨kd,ys,0,false,false⟩)::st₂.ar},Dlt.setAr (st1:=st) (st₂1:=st₂) (.refl ag) (λm hm'=>?_) (λm hm'=>?_),λk₂ h2=>?_⟩
   ·rw[e8,e8];split
    ·rfl
    ·exact ag.ar m hm'
   ·have hne:¬m=d:=λe=>hm' (by rw[e];exact hm)
    rw[e8,e8,yap hne,yap hne];exact ⟨rfl,rfl⟩
   ·unfold aop;simp only[ho,hc,hty,hx',ybu,List.map_nil,a1g,heu,b2r,he,hdst,hkd,hfit,yac,ey,hit₂,hcy,ex,hfr₂,hcond];rw[hdst]at h2;exact h2
  ·cases h
 ·rename_i a v hxa;split at h
  rotate_left
  ·cases h
  rename_i A hA;rw[d7]at h;split at h
  rotate_left
  ·cases h
  rename_i hok;split at h
  rotate_left
  ·cases h
  rename_i xs hcx;rw[d7]at h;split at h
  rotate_left
  ·cases h
  rename_i hlim;have hma:(1,a)∈(m0 o st 0).wr:=by rw[hf,hxa];simp[m5]
  refine ⟨_,h,λst₂ hg=>?_⟩;obtain ⟨ag,hit₂,ey⟩:=hall hg;have ex:opd st₂ x'=.arr a v:=hg.eq (by rw[hl,hx'];simp) hxa (by simp);have hA₂:c8 a st₂.ar=some A:=(ag.ar a hma).trans hA;refine ⟨{Ev.put st₂ o.dst (.arr a (v+1)) with ar:=a1z a ⟨kd,xs++ys,v+1,A.sealed,false⟩ st₂.ar},Dlt.setAr (st1:=st) (st₂1:=st₂) (.refl ag) (λm hm'=>?_) (λm hm'=>?_),λk₂ h2=>?_⟩
  ·rw[c6 hA,c6 hA₂];split
   ·rfl
   ·exact ag.ar m hm'
  ·have hne:¬m=a:=λe=>hm' (by rw[e];exact hma)
   rw[c6 hA,c6 hA₂,yap hne,yap hne];exact ⟨rfl,rfl⟩
  ·unfold aop;simp only[ho,hc,hty,hx',ybu,List.map_nil,a1g,heu,b2r,he,hdst,hkd,hfit,yac,ey,hit₂,hcy,ex,hA₂,hok,hcx,hlim];rw[hdst]at h2;exact h2
 ·cases h
end
end
section
section
variable {κ:Type} {El:κ→Type} {S:Sg κ El} {P:Program}
variable {st:St κ El} {R:Type} [KdEq κ]
variable {o:Oper} {q:Bool} {call:Nat→List (D κ El)→List (List (D κ El))→(D κ El→List (List (D κ El))→Option R)→Option R} {k:St κ El→Option R} {r:R}
def c7w {t:Nat} {z:Option Operand} (ho:o.op=.makeMap t z) (h:aop P S call q o st k=some r):Loc P S call q o st k r:=by
 unfold aop at h;simp only[ho]at h;cases z with
 |some z=>cases h
 |none=>
  simp only at h;split at h
  rotate_left
  ·cases h
  rename_i M d hM hdst;have hf:m0 o st 0=⟨0,[],[(1,d)]⟩:=by unfold m0;simp only[ho,hdst]
  rw[d7]at h;split at h
  rotate_left
  ·cases h
  rename_i hc;have hm:(1,d)∈(m0 o st 0).wr:=by rw[hf];simp
  refine ⟨_,h,λst₂ hg=>?_⟩;have ag:AG (m0 o st 0).wr st st₂:=hg.ag (λp hp=>yaJ _ hp);have hfr₂:c8 d st₂.ar=c8 d st.ar:=ag.ar d hm;refine ⟨{Ev.put st₂ o.dst (.arr d 0) with ar:=(d,⟨M.k,[],0,true,true⟩)::st₂.ar},Dlt.setAr (st1:=st) (st₂1:=st₂) (.refl ag) (λm hm'=>?_) (λm hm'=>?_),λk₂ h2=>?_⟩
  ·rw[e8,e8];split
   ·rfl
   ·exact ag.ar m hm'
  ·have hne:¬m=d:=λe=>hm' (by rw[e];exact hm)
   rw[e8,e8,yap hne,yap hne];exact ⟨rfl,rfl⟩
  ·unfold aop;simp only[ho,hdst,hM,hfr₂,hc,yac];rw[hdst]at h2;exact h2
def d46 {t:Nat} {x i:D κ El} {ok:Bool} {k:D κ El→Option R}:b1u S st t x i ok k=(b1u S st t x i ok some).bind k:=by
 unfold b1u;simp only[d7]
 repeat' split
 all_goals simp_all
def e15 {t:Nat} {d i:D κ El} {ok:Bool} {st₂:St κ El} (ha:∀n,(1,n)∈m5 d→c8 n st₂.ar=c8 n st.ar) (k:D κ El→Option R):b1u S st₂ t d i ok k=b1u S st t d i ok k:=by
 unfold b1u;cases d<;>try rfl
 cases i<;>try rfl
 rename_i a v kk n;cases kk<;>try rfl
 simp only[ha a (by simp[m5])]
def d45 {t:Nat} {x i:Operand} {ok:Bool} (ho:o.op=.lookup t x i ok) (h:aop P S call q o st k=some r):Loc P S call q o st k r:=by
 have hl:looks o=[x,i]:=by simp[looks,Op.operands,ho]
 have hf:m0 o st 0=⟨0,m5 (opd st x),[]⟩:=by unfold m0;simp only[ho]
 have ha:∀(st:St κ El) (k:St κ El→Option R),aop P S call q o st k=(b1u S st t (opd st x) (opd st i) ok some).bind (λd=>k (put st o.dst d)):=λst k=>by unfold aop;simp only[ho];rw[d46]
 rw[ha]at h;obtain ⟨d,hd,hk⟩:=ya5.1 h;have hx:opd st x≠.undef:=λe=>by rw[e]at hd;unfold b1u at hd;cases hd
 have hi:opd st i≠.undef:=λe=>by rw[e]at hd;unfold b1u at hd;split at hd<;>simp_all
 refine .val hk (by rw[hf]) (λst₂ hg=>⟨d,.inr rfl,λk₂ h2=>?_⟩);have har:=hg.ar;rw[hf]at har;rw[ha,hg.eq (x:=x) (by simp[hl]) rfl hx,hg.eq (x:=i) (by simp[hl]) rfl hi,e15 (st:=st) (λn hm=>har n (by simpa using hm)),hd];exact h2
def a90 {t:Nat} {x i y:Operand} (ho:o.op=.mapUpdate t x i y∨o.op=.insert t x i y) (h:aop P S call q o st k=some r):Loc P S call q o st k r:=by
 have hl:looks o=[x,i,y]:=by rcases ho with ho|ho<;>simp[looks,Op.operands,ho]
 have hf:m0 o st 0=⟨0,[],m5 (opd st x)⟩:=by rcases ho with ho|ho<;>(unfold m0;simp only[ho])
 have hau:∀(st:St κ El) (k:St κ El→Option R),aop P S call q o st k=(bif a6n o.dst then g59 S st t (opd st x) (opd st i) (opd st y) k else none):=λst k=>by rcases ho with ho|ho<;>(unfold aop;simp only[ho])
 rw[hau]at h;rw[d7]at h;split at h
 rotate_left
 ·cases h
 rename_i hdn;have hdst:=a0c hdn;obtain ⟨a,v,m,M,A,xs,ys,hx,hi,hM,hA,hok,hso,hxs,hys,hk⟩:=e50 h;have hyu:opd st y≠.undef:=λe=>by rw[e]at hso;cases hso
 have hm:(1,a)∈(m0 o st 0).wr:=by rw[hf,hx];simp[m5]
 refine ⟨_,hk,λst₂ hg=>⟨{st₂ with ar:=a1z a ⟨M.k,ys,v,true,true⟩ st₂.ar},?_,λk₂ h2=>?_⟩⟩
 ·have hA₂:c8 a st₂.ar=some A:=(hg.ar a (yaJ _ hm)).trans hA;rw[hdst];refine ⟨λs _=>⟨rfl,rfl⟩,λs hs=>(by cases hs),λb' hb'=>hg.bx b' (yaJ _ hb'),λb' hb'=>⟨rfl,rfl⟩,λn hn=>?_,λn hn=>?_⟩
  ·show c8 n (a1z a _ st₂.ar)=c8 n (a1z a _ st.ar)
   rw[c6 hA,c6 hA₂];split
   ·rfl
   ·exact hg.ar n (yaJ _ hn)
  ·have hne:¬n=a:=λe=>hn (by rw[e];exact hm)
   show c8 n (a1z a _ st.ar)=_∧c8 n (a1z a _ st₂.ar)=_
   rw[c6 hA,c6 hA₂,yap hne,yap hne];exact ⟨rfl,rfl⟩
 ·have hA₂:c8 a st₂.ar=some A:=(hg.ar a (yaJ _ hm)).trans hA;rw[hau];simp only[hdn,yac,hg.eq (x:=x) (by simp[hl]) hx (by simp),hg.eq (x:=i) (by simp[hl]) hi (by simp),hg.eq (x:=y) (by simp[hl]) rfl hyu];unfold g59;simp only[hM,hA₂,hok,hso,hxs,hys,ybl,yac];exact h2
end
end
section
section
variable {κ:Type} {El:κ→Type} {S:Sg κ El} {P:Program}
variable {st:St κ El} {R:Type} [KdEq κ]
variable {o:Oper} {q:Bool} {call:Nat→List (D κ El)→List (List (D κ El))→(D κ El→List (List (D κ El))→Option R)→Option R} {k:St κ El→Option R} {r:R}
def c2f {st st':St κ El} {d d':D κ El} (h:a6g st d=some (st',d')):d≠.undef:=λe=>by subst e;cases h
def a27:∀{cs cs':List (D κ El)} {st st':St κ El},a1x st cs=some (st',cs')→∀d∈cs,d≠.undef:=by
 intro cs
 induction cs with
 |nil=>intro cs' st st' h d hd;cases hd
 |cons c cs ih=>
  intro cs' st st' h d hd;simp only[a1x]at h;split at h
  ·rename_i s1 d1 h1;split at h
   ·rename_i s2 cs2 h2;rcases yaM.1 hd with rfl|hd
    ·exact c2f h1
    ·exact ih h2 d hd
   ·cases h
  ·cases h
def d5a:∀{cs cs':List (D κ El)} {j:Nat} {ns bss} {st st':St κ El},a2c st j cs=some (st',cs',ns,bss)→∀d∈cs,d≠.undef:=by
 intro cs
 induction cs with
 |nil=>intro cs' j ns bss st st' h d hd;cases hd
 |cons c cs ih=>
  intro cs' j ns bss st st' h d hd;unfold a2c at h;split at h
  ·rename_i heq;cases heq
  ·rename_i b off cs0 heq;obtain ⟨rfl,rfl⟩:=yce heq;split at h
   ·split at h
    ·split at h
     ·rename_i h2;rcases yaM.1 hd with rfl|hd
      ·simp
      ·exact ih h2 d hd
     ·cases h
    ·cases h
   ·cases h
  ·rename_i d0 cs0 hne heq;obtain ⟨rfl,rfl⟩:=yce heq;split at h
   ·rename_i h1;split at h
    ·rename_i h2;rcases yaM.1 hd with rfl|hd
     ·exact c2f h1
     ·exact ih h2 d hd
    ·cases h
   ·cases h
def Agr.opds' {fp:List (Nat×Nat)} {xs:List Operand} {st₂:St κ El} (h:Agr fp xs st st₂):∀{l:List Operand},(∀x∈l,x∈xs)→(∀x∈l,Ev.opd st x≠.undef)→l.map (Ev.opd st₂)=l.map (Ev.opd st):=by
 intro l
 induction l with
 |nil=>intros;rfl
 |cons x l ih=>
  intro hl hs;simp only[ybu];rw[h.eq (hl x (by simp)) rfl (hs x (by simp)),ih (λy hy=>hl y (by simp[hy])) (λy hy=>hs y (by simp[hy]))]
def a3h {cl:Call} {fo:Operand} {f:Nat} {pre caps:List (D κ El)} (ho:o.op=.call cl) (hc:cl.callee=.value fo) (hf:opd st fo=.fn f pre caps) {st₂:St κ El}
 (hg:Agr ((m0 o st 0).rd++(m0 o st 0).wr) (looks o) st st₂) (hne:∀d∈cl.args.toList.map (opd st),d≠.undef) :
 opd st₂ fo=.fn f pre caps∧cl.args.toList.map (opd st₂)=cl.args.toList.map (opd st)∧AG (m0 o st 0).wr st st₂:=by
 have hl:=c7x ho hc;refine ⟨hg.eq (by rw[hl];simp) hf (by simp),hg.opds' (λx hx=>by rw[hl];simp[hx]) (λx hx=>hne _ (ybe.2 ⟨x,hx,rfl⟩)),hg.ag (λp hp=>yaJ _ hp)⟩
def a4b {cl:Call} {fo:Operand} {f:Nat} {pre caps:List (D κ El)} (ho:o.op=.call cl) (hc:cl.callee=.value fo) (hf:opd st fo=.fn f pre caps) :
 (∀d∈pre++cl.args.toList.map (opd st)++caps,a18 st (m0 o st 0).wr d)∧∀d,o.dst=some d→(0,d)∈(m0 o st 0).wr∧(1,d)∈(m0 o st 0).wr:=by
 have hw:(m0 o st 0).wr=(match o.dst with|some d=>[(0,d),(1,d)]|none=>[])++(fo::cl.args.toList).flatMap (λx=>a34 st (opd st x)):=by unfold m0;simp only[ho,hc,List.flatMap_cons];cases o.dst<;>rfl
 rw[hw];constructor
 ·intro d hd;have hfn:∀e∈pre++caps,a18 st ((match o.dst with|some d=>[(0,d),(1,d)]|none=>[])++(fo::cl.args.toList).flatMap (λx=>a34 st (opd st x))) e:=λe he=>
   a18.elem (f:=f) (pre:=pre) (caps:=caps) (λp hp=>yaJ _ (ybm.2 ⟨fo,by simp,by rw[hf];exact hp⟩)) he
  rcases yau.1 hd with h1|h1
  ·rcases yau.1 h1 with h2|h2
   ·exact hfn d (ybk _ h2)
   ·obtain ⟨x,hx,rfl⟩:=ybe.1 h2;exact a18.of (λp hp=>yaJ _ (ybm.2 ⟨x,by simp[hx],hp⟩))
  ·exact hfn d (yaJ _ h1)
 ·intro d hd;rw[hd];exact ⟨ybk _ (by simp),ybk _ (by simp)⟩
def a35 {l:List (D κ El)} {pre caps:List (D κ El)} {d:D κ El} (h:d∈l):d∈pre++l++caps:=by simp[h]
def a15 {cl:Call} {fo:Operand} {f:Nat} {pre caps:List (D κ El)} (ho:o.op=.call cl) (hc:cl.callee=.value fo) {st:St κ El} {k:St κ El→Option R} (hf:opd st fo=.fn f pre caps) :
 aop P S call q o st k=a0m S call q st o.dst f (pre++cl.args.toList.map (opd st)++caps) k:=by
 unfold aop;simp only[ho,hc,hf]
def e95 (cn:z7 call) {cl:Call} {fo:Operand} {f:Nat} {pre caps:List (D κ El)} (ho:o.op=.call cl) (hc:cl.callee=.value fo) (hf:opd st fo=.fn f pre caps) (hm:S.md f=.data)
 (h:a0m S call q st o.dst f (pre++cl.args.toList.map (opd st)++caps) k=some r):Loc P S call q o st k r:=by
 have hK:∀(st:St κ El) (args:List (D κ El)) (k:St κ El→Option R),a0m S call q st o.dst f args k=(match a1x st args with
  |some (st,ds)=>call f ds [] (λd bs=>match bs with | []=>k (put st o.dst d)|_=>none)
  |none=>none):=λst args k=>by unfold a0m;rw[hm];cases q<;>rfl
 rw[hK]at h;obtain ⟨hdeep,-⟩:=a4b ho hc hf;split at h
 ·rename_i st1 ds hdat;obtain ⟨d,bs',hk,hall⟩:=cn _ _ _ _ _ h;split at hk
  ·refine ⟨_,hk,λst₂ hg=>?_⟩;obtain ⟨e1,e2,ag⟩:=a3h ho hc hf hg (λd hd=>a27 hdat d (a35 hd));obtain ⟨st₂1,hdat₂,D1⟩:=a16 hdat ag hdeep;refine ⟨_,D1.put (dst:=o.dst) (v:=d),λk₂ h2=>?_⟩;rw[a15 ho hc e1,hK,e2,hdat₂];exact hall _ h2
  ·cases hk
 ·cases h
def Dlt.newAr {dst:Option Nat} {wr:List (Nat×Nat)} {st1 st₂ st₂1:St κ El} {d:Nat} {v:D κ El} {A:Ar κ El} (hd:(1,d)∈wr) (D1:DD wr st st1 st₂ st₂1) :
 Dlt dst wr st {Ev.put st1 dst v with ar:=(d,A)::st1.ar} st₂ {Ev.put st₂1 dst v with ar:=(d,A)::st₂1.ar}:=by
 refine Dlt.setAr D1 (λm hm'=>?_) (λm hm'=>?_)
 ·rw[e8,e8];split
  ·rfl
  ·exact D1.ag.ar m hm'
 ·have hne:¬m=d:=λe=>hm' (by rw[e];exact hd)
  rw[e8,e8,yap hne,yap hne];exact ⟨rfl,rfl⟩
def e10 (cn:z7 call) {cl:Call} {fo:Operand} {f:Nat} {pre caps:List (D κ El)} (ho:o.op=.call cl) (hc:cl.callee=.value fo) (hf:opd st fo=.fn f pre caps) (hm:S.md f=.fresh)
 (h:a0m S call q st o.dst f (pre++cl.args.toList.map (opd st)++caps) k=some r):Loc P S call q o st k r:=by
 cases q with
 |true=>unfold a0m at h;rw[hm]at h;cases h
 |false=>
  obtain ⟨hdeep,hdst'⟩:=a4b ho hc hf;unfold a0m at h;rw[hm]at h;simp only at h;split at h
  ·rename_i st1 ds n hdat hdst;obtain ⟨d,bs',hk,hall⟩:=cn _ _ _ _ _ h;split at hk
   ·split at hk
    ·rename_i kd xs;rw[d7]at hk;split at hk
     ·rename_i hfr;refine ⟨_,hk,λst₂ hg=>?_⟩;obtain ⟨e1,e2,ag⟩:=a3h ho hc hf hg (λd hd=>a27 hdat d (a35 hd));obtain ⟨st₂1,hdat₂,D1⟩:=a16 hdat ag hdeep;have hm1:=(hdst' n hdst).2;have hfr₂:c8 n st₂1.ar=c8 n st1.ar:=D1.ag.ar n hm1;rw[hdst];refine ⟨_,Dlt.newAr (D1:=D1) hm1 (v:=.arr n 0) (dst:=some n) (A:=⟨kd,xs,0,false,false⟩),λk₂ h2=>?_⟩;rw[a15 ho hc e1];unfold a0m;rw[hm,hdst];simp only[e2,hdat₂];refine hall _ ?_;simp only[hfr₂,hfr,yac];exact h2
     ·cases hk
    ·cases hk
   ·cases hk
  ·cases h
def e98 (cn:z7 call) {cl:Call} {fo:Operand} {f:Nat} {pre caps:List (D κ El)} (ho:o.op=.call cl) (hc:cl.callee=.value fo) (hf:opd st fo=.fn f pre caps) (hm:S.md f=.newb)
 (h:a0m S call q st o.dst f (pre++cl.args.toList.map (opd st)++caps) k=some r):Loc P S call q o st k r:=by
 cases q with
 |true=>unfold a0m at h;rw[hm]at h;cases h
 |false=>
  obtain ⟨hdeep,hdst'⟩:=a4b ho hc hf;unfold a0m at h;rw[hm]at h;simp only at h;split at h
  ·rename_i st1 ds n hdat hdst;obtain ⟨d,bs',hk,hall⟩:=cn _ _ _ _ _ h;split at hk
   ·rename_i cs;rw[d7]at hk;split at hk
    ·rename_i hfr;refine ⟨_,hk,λst₂ hg=>?_⟩;obtain ⟨e1,e2,ag⟩:=a3h ho hc hf hg (λd hd=>a27 hdat d (a35 hd));obtain ⟨st₂1,hdat₂,D1⟩:=a16 hdat ag hdeep;have hm0:=(hdst' n hdst).1;have hfr₂:c8 n st₂1.bx=c8 n st1.bx:=D1.ag.bx n hm0;rw[hdst];refine ⟨_,Dlt.newBox (D1:=D1) hm0 (v:=.ptr n 0) (dst:=some n) (cs:=cs),λk₂ h2=>?_⟩;rw[a15 ho hc e1];unfold a0m;rw[hm,hdst];simp only[e2,hdat₂];refine hall _ ?_;simp only[hfr₂,hfr,yac];exact h2
    ·cases hk
   ·cases hk
  ·cases h
def c5v:∀{ns:List Nat} {bs:List (List (D κ El))} {bx bx' bx₂:List (Nat×List (D κ El))},a43 bx ns bs=some bx'→(∀n∈ns,c8 n bx₂=c8 n bx)→
 ∃bx₂',a43 bx₂ ns bs=some bx₂'∧(∀n,c8 n bx₂=c8 n bx→c8 n bx₂'=c8 n bx')∧∀n,n∉ns→c8 n bx'=c8 n bx∧c8 n bx₂'=c8 n bx₂:=by
 intro ns
 induction ns with
 |nil=>
  intro bs bx bx' bx₂ h ha;cases bs with
  |nil=>cases h;exact ⟨bx₂,rfl,λn hn=>hn,λn _=>⟨rfl,rfl⟩⟩
  |cons b bs=>cases h
 |cons n ns ih=>
  intro bs bx bx' bx₂ h ha;cases bs with
  |nil=>cases h
  |cons b bs=>
   simp only[a43]at h ⊢;split at h
   ·rename_i old hold;rw[d7]at h;split at h
    ·rename_i hlen;have h₂:c8 n bx₂=some old:=(ha n (by simp)).trans hold;have hstep:∀m,c8 m bx₂=c8 m bx→c8 m (a1z n b bx₂)=c8 m (a1z n b bx):=λm hm=>by
      rw[c6 hold,c6 h₂];split
      ·rfl
      ·exact hm
     obtain ⟨bx₂',e,h3,h4⟩:=ih h (λm hm=>hstep m (ha m (by simp[hm])));refine ⟨bx₂',by simp only[h₂,hlen,yac,e],λm hm=>h3 m (hstep m hm),λm hm=>?_⟩;have hne:¬m=n:=λe=>hm (by rw[e];simp)
     obtain ⟨h5,h6⟩:=h4 m (λh=>hm (by simp[h]));rw[c6 hold,yap hne]at h5;rw[c6 h₂,yap hne]at h6;exact ⟨h5,h6⟩
    ·cases h
   ·cases h
def g2f (cn:z7 call) {cl:Call} {fo:Operand} {f:Nat} {pre caps:List (D κ El)} (ho:o.op=.call cl) (hc:cl.callee=.value fo) (hf:opd st fo=.fn f pre caps) (hm:S.md f=.mut)
 (h:a0m S call q st o.dst f (pre++cl.args.toList.map (opd st)++caps) k=some r):Loc P S call q o st k r:=by
 have hK:∀(st:St κ El) (args:List (D κ El)) (k:St κ El→Option R),a0m S call q st o.dst f args k=(match a2c st 0 args with
  |some (st,ds,ns,bss)=>bif args.all (a9e ns) then call f ds bss (λd bs=>match a43 st.bx ns bs with
   |some bx=>k (put {st with bx:=bx} o.dst d)
   |none=>none) else none
  |none=>none):=λst args k=>by unfold a0m;rw[hm];cases q<;>rfl
 ·obtain ⟨hdeep,hdst'⟩:=a4b ho hc hf;rw[hK]at h;split at h
  ·rename_i st1 ds ns bss hdat;rw[d7]at h;split at h
   ·rename_i hap;obtain ⟨d,bs',hk,hall⟩:=cn _ _ _ _ _ h;split at hk
    ·rename_i bx hbx;refine ⟨_,hk,λst₂ hg=>?_⟩;obtain ⟨e1,e2,ag⟩:=a3h ho hc hf hg (λd hd=>d5a hdat d (a35 hd));obtain ⟨⟨st₂1,hdat₂,D1⟩,hns⟩:=c7z hdat ag hdeep;obtain ⟨bx₂,hbx₂,h3,h4⟩:=c5v hbx (bx₂:=st₂1.bx) (λn hn=>D1.ag.bx n (hns n hn));refine ⟨_,Dlt.put (dst:=o.dst) (d:=d) (d₂:=d) (st1:={st1 with bx:=bx}) (st₂1:={st₂1 with bx:=bx₂}) (.inr rfl) (λs=>?_) (λb hb=>?_) (λb hb=>?_) (λn hn=>?_) (λn hn=>?_),λk₂ h2=>?_⟩
     ·show c8 s st1.env=_∧c8 s st₂1.env=_
      rw[D1.env.1,D1.env.2];exact ⟨rfl,rfl⟩
     ·exact h3 b (D1.ag.bx b hb)
     ·have hnb:b∉ns:=λh=>hb (hns b h)
      have:=h4 b hnb;rw[D1.bx.1]at this;rw[D1.bx.2]at this;exact this
     ·exact D1.ag.ar n hn
     ·exact D1.ark n hn
     ·rw[a15 ho hc e1,hK];simp only[e2,hdat₂,hap,yac];refine hall _ ?_;simp only[hbx₂];exact h2
    ·cases hk
   ·cases h
  ·cases h
def e94 (cn:z7 call) {cl:Call} {fo:Operand} {f:Nat} {pre caps:List (D κ El)} (ho:o.op=.call cl) (hc:cl.callee=.value fo) (hf:opd st fo=.fn f pre caps) (hm:S.md f=.cons)
 (h:a0m S call q st o.dst f (pre++cl.args.toList.map (opd st)++caps) k=some r):Loc P S call q o st k r:=by
 cases q with
 |true=>unfold a0m at h;rw[hm]at h;cases h
 |false=>
  obtain ⟨hdeep,hdst'⟩:=a4b ho hc hf;unfold a0m at h;rw[hm]at h;simp only at h;split at h
  ·rename_i a v rest n hargs hdst;split at h
   ·rename_i st1 ds hdat;split at h
    ·rename_i A hA;rw[d7]at h;split at h
     ·rename_i hok;obtain ⟨d,bs',hk,hall⟩:=cn _ _ _ _ _ h;split at hk
      ·split at hk
       ·rename_i kd xs;rw[d7]at hk;split at hk
        ·rename_i hfr;refine ⟨_,hk,λst₂ hg=>?_⟩;obtain ⟨e1,e2,ag⟩:=a3h ho hc hf hg (λd hd=>by
          have:=a35 (pre:=pre) (caps:=caps) hd;rw[hargs]at this;rcases yaM.1 this with rfl|h'
          ·simp
          ·exact a27 hdat d h')
         obtain ⟨st₂1,hdat₂,D1⟩:=a16 hdat ag (λd hd=>hdeep d (by rw[hargs];simp[hd]));have hma:(1,a)∈(m0 o st 0).wr:=by
          have:=hdeep (.arr a v) (by rw[hargs];simp);exact this.1 _ (by simp[a6j,m5])
         have hA₂:c8 a st₂1.ar=some A:=(D1.ag.ar a hma).trans hA;have hm1:=(hdst' n hdst).2;have hfr₂:c8 n st₂1.ar=c8 n st1.ar:=D1.ag.ar n hm1;rw[hdst];refine ⟨{Ev.put st₂1 (some n) (.arr n 0) with ar:=(n,⟨kd,xs,0,false,false⟩)::a1z a {A with dead:=true} st₂1.ar},Dlt.setAr D1 (λm hm'=>?_) (λm hm'=>?_),λk₂ h2=>?_⟩
         ·rw[e8,e8,c6 hA,c6 hA₂];split
          ·rfl
          ·split
           ·rfl
           ·exact D1.ag.ar m hm'
         ·have hne:¬m=n:=λe=>hm' (by rw[e];exact hm1)
          have hne':¬m=a:=λe=>hm' (by rw[e];exact hma)
          rw[e8,e8,c6 hA,c6 hA₂,yap hne,yap hne,yap hne',yap hne'];exact ⟨rfl,rfl⟩
         ·rw[a15 ho hc e1];unfold a0m;rw[hm,hdst,e2,hargs];simp only[hdat₂,hA₂,hok,yac];refine hall _ ?_;simp only[hfr₂,hfr,yac];exact h2
        ·cases hk
       ·cases hk
      ·cases hk
     ·cases h
    ·cases h
   ·cases h
  ·rename_i rest n hargs hdst;split at h
   ·rename_i kd st1 ds hik hdat;obtain ⟨d,bs',hk,hall⟩:=cn _ _ _ _ _ h;split at hk
    ·split at hk
     ·rename_i kd' xs;rw[d7]at hk;split at hk
      ·rename_i hfr;refine ⟨_,hk,λst₂ hg=>?_⟩;obtain ⟨e1,e2,ag⟩:=a3h ho hc hf hg (λd hd=>by
        have:=a35 (pre:=pre) (caps:=caps) hd;rw[hargs]at this;rcases yaM.1 this with rfl|h'
        ·simp
        ·exact a27 hdat d h')
       obtain ⟨st₂1,hdat₂,D1⟩:=a16 hdat ag (λd hd=>hdeep d (by rw[hargs];simp[hd]));have hm1:=(hdst' n hdst).2;have hfr₂:c8 n st₂1.ar=c8 n st1.ar:=D1.ag.ar n hm1;rw[hdst];refine ⟨_,Dlt.newAr (D1:=D1) hm1 (v:=.arr n 0) (dst:=some n) (A:=⟨kd',xs,0,false,false⟩),λk₂ h2=>?_⟩;rw[a15 ho hc e1];unfold a0m;rw[hm,hdst,e2,hargs];simp only[hik,hdat₂];refine hall _ ?_;simp only[hfr₂,hfr,yac];exact h2
      ·cases hk
     ·cases hk
    ·cases hk
   ·cases h
  ·cases h
def e96 (cn:z7 call) {cl:Call} {fo:Operand} {f:Nat} {pre caps:List (D κ El)} (ho:o.op=.call cl) (hc:cl.callee=.value fo) (hf:opd st fo=.fn f pre caps) (hm:S.md f=.inpl)
 (h:a0m S call q st o.dst f (pre++cl.args.toList.map (opd st)++caps) k=some r):Loc P S call q o st k r:=by
 cases q with
 |true=>unfold a0m at h;rw[hm]at h;cases h
 |false=>
  obtain ⟨hdeep,hdst'⟩:=a4b ho hc hf;unfold a0m at h;rw[hm]at h;simp only at h;split at h
  ·rename_i a v rest hargs;split at h
   ·rename_i st1 ds hdat;split at h
    ·rename_i A hA;rw[d7]at h;split at h
     ·rename_i hok;obtain ⟨d,bs',hk,hall⟩:=cn _ _ _ _ _ h;split at hk
      ·split at hk
       ·rename_i kd xs;split at hk
        ·rename_i xs1 hcast;refine ⟨_,hk,λst₂ hg=>?_⟩;obtain ⟨e1,e2,ag⟩:=a3h ho hc hf hg (λd hd=>by
          have:=a35 (pre:=pre) (caps:=caps) hd;rw[hargs]at this;rcases yaM.1 this with rfl|h'
          ·simp
          ·exact a27 hdat d h')
         obtain ⟨st₂1,hdat₂,D1⟩:=a16 hdat ag (λd hd=>hdeep d (by rw[hargs];simp[hd]));have hma:(1,a)∈(m0 o st 0).wr:=by
          have:=hdeep (.arr a v) (by rw[hargs];simp);exact this.1 _ (by simp[a6j,m5])
         have hA₂:c8 a st₂1.ar=some A:=(D1.ag.ar a hma).trans hA;refine ⟨{Ev.put st₂1 o.dst (.tup []) with ar:=a1z a ⟨A.k,xs1,v,false,false⟩ st₂1.ar},Dlt.setAr D1 (λm hm'=>?_) (λm hm'=>?_),λk₂ h2=>?_⟩
         ·rw[c6 hA,c6 hA₂];split
          ·rfl
          ·exact D1.ag.ar m hm'
         ·have hne':¬m=a:=λe=>hm' (by rw[e];exact hma)
          rw[c6 hA,c6 hA₂,yap hne',yap hne'];exact ⟨rfl,rfl⟩
         ·rw[a15 ho hc e1];unfold a0m;rw[hm,e2,hargs];simp only[hdat₂,hA₂,hok,yac];refine hall _ ?_;simp only[hcast];exact h2
        ·cases hk
       ·cases hk
      ·cases hk
     ·cases h
    ·cases h
   ·cases h
  ·rename_i rest hargs;split at h
   ·rename_i kd st1 ds hik hdat;obtain ⟨d,bs',hk,hall⟩:=cn _ _ _ _ _ h;split at hk
    ·split at hk
     ·rename_i kd' xs;split at hk
      ·rename_i ys hcast;refine ⟨_,hk,λst₂ hg=>?_⟩;obtain ⟨e1,e2,ag⟩:=a3h ho hc hf hg (λd hd=>by
        have:=a35 (pre:=pre) (caps:=caps) hd;rw[hargs]at this;rcases yaM.1 this with rfl|h'
        ·simp
        ·exact a27 hdat d h')
       obtain ⟨st₂1,hdat₂,D1⟩:=a16 hdat ag (λd hd=>hdeep d (by rw[hargs];simp[hd]));refine ⟨_,D1.put (dst:=o.dst) (v:=.tup []),λk₂ h2=>?_⟩;rw[a15 ho hc e1];unfold a0m;rw[hm,e2,hargs];simp only[hik,hdat₂];refine hall _ ?_;simp only[hcast];exact h2
      ·cases hk
     ·cases hk
    ·cases hk
   ·cases h
  ·cases h
def e99 (cn:z7 call) {cl:Call} {fo:Operand} {f:Nat} {pre caps:List (D κ El)} (ho:o.op=.call cl) (hc:cl.callee=.value fo) (hf:opd st fo=.fn f pre caps) (hm:S.md f=.nmap)
 (h:a0m S call q st o.dst f (pre++cl.args.toList.map (opd st)++caps) k=some r):Loc P S call q o st k r:=by
 cases q with
 |true=>unfold a0m at h;rw[hm]at h;cases h
 |false=>
  obtain ⟨hdeep,hdst'⟩:=a4b ho hc hf;unfold a0m at h;rw[hm]at h;simp only at h;split at h
  ·rename_i st1 ds n hdat hdst;obtain ⟨d,bs',hk,hall⟩:=cn _ _ _ _ _ h;split at hk
   ·split at hk
    ·rename_i x kd xs;rw[d7]at hk;split at hk
     ·rename_i hfr;refine ⟨_,hk,λst₂ hg=>?_⟩;obtain ⟨e1,e2,ag⟩:=a3h ho hc hf hg (λd hd=>a27 hdat d (a35 hd));obtain ⟨st₂1,hdat₂,D1⟩:=a16 hdat ag hdeep;have hm1:=(hdst' n hdst).2;have hfr₂:c8 n st₂1.ar=c8 n st1.ar:=D1.ag.ar n hm1;rw[hdst];refine ⟨_,Dlt.newAr (D1:=D1) hm1 (v:=.tup [x,.arr n 0]) (dst:=some n) (A:=⟨kd,xs,0,true,true⟩),λk₂ h2=>?_⟩;rw[a15 ho hc e1];unfold a0m;rw[hm,hdst];simp only[e2,hdat₂];refine hall _ ?_;simp only[hfr₂,hfr,yac];exact h2
     ·cases hk
    ·cases hk
   ·cases hk
  ·cases h
def g2a {cl:Call} {fo:Operand} {f:Nat} {pre caps:List (D κ El)} (ho:o.op=.call cl) (hc:cl.callee=.value fo) (hf:opd st fo=.fn f pre caps) (hm:S.md f=.bld)
 (h:a0m S call q st o.dst f (pre++cl.args.toList.map (opd st)++caps) k=some r):Loc P S call q o st k r:=by
 cases q with
 |true=>unfold a0m at h;rw[hm]at h;cases h
 |false=>
  obtain ⟨hdeep,hdst'⟩:=a4b ho hc hf;unfold a0m at h;rw[hm]at h;simp only at h;obtain ⟨B,a,v,rest,A,xs,hB,hargs,hA,hok,hxs,hcase⟩:=d72 h;have hma:(1,a)∈(m0 o st 0).wr:=by
   have:=hdeep (.arr a v) (by rw[hargs];simp);exact this.1 _ (by simp[a6j,m5])
  have hne:∀d∈cl.args.toList.map (opd st),d≠.undef:=λd hd=>by
   have:=a35 (pre:=pre) (caps:=caps) hd;rw[hargs]at this;rcases yaM.1 this with rfl|h'
   ·simp
   ·rcases hcase with ⟨_,s,rfl,_⟩|⟨_,rfl,_⟩
    ·rw[yba.1 h'];simp
    ·cases h'
  have hok2:=hok;unfold d2m at hok2;rcases hcase with ⟨h1,s,rfl,hl,hk⟩|⟨h1,rfl,hk⟩
  ·refine ⟨_,hk,λst₂ hg=>?_⟩;obtain ⟨e1,e2,ag⟩:=a3h ho hc hf hg hne;have hA₂:c8 a st₂.ar=some A:=(ag.ar a hma).trans hA;refine ⟨{Ev.put st₂ o.dst .undef with ar:=a1z a ⟨B.k,xs++B.of s,v,true,true⟩ st₂.ar},Dlt.setAr (.refl ag) (λm hm'=>?_) (λm hm'=>?_),λk₂ h2=>?_⟩
   ·rw[c6 hA,c6 hA₂];split
    ·rfl
    ·exact ag.ar m hm'
   ·have hne':¬m=a:=λe=>hm' (by rw[e];exact hma)
    rw[c6 hA,c6 hA₂,yap hne',yap hne'];exact ⟨rfl,rfl⟩
   ·rw[a15 ho hc e1];unfold a0m;rw[hm,e2,hargs];simp only;unfold g8q;simp only[hB,hA₂,hok2,hxs,h1,decide_eq_true hl,yac];exact h2
  ·refine ⟨_,hk,λst₂ hg=>?_⟩;obtain ⟨e1,e2,ag⟩:=a3h ho hc hf hg hne;have hA₂:c8 a st₂.ar=some A:=(ag.ar a hma).trans hA;refine ⟨{Ev.put st₂ o.dst (.str (B.to xs)) with ar:=a1z a ⟨B.k,[],v,false,true⟩ st₂.ar},Dlt.setAr (.refl ag) (λm hm'=>?_) (λm hm'=>?_),λk₂ h2=>?_⟩
   ·rw[c6 hA,c6 hA₂];split
    ·rfl
    ·exact ag.ar m hm'
   ·have hne':¬m=a:=λe=>hm' (by rw[e];exact hma)
    rw[c6 hA,c6 hA₂,yap hne',yap hne'];exact ⟨rfl,rfl⟩
   ·rw[a15 ho hc e1];unfold a0m;rw[hm,e2,hargs];simp only;unfold g8q;simp only[hB,hA₂,hok2,hxs,h1,yac];exact h2
def h0q (cn:z7 call) (h:aop P S call q o st k=some r):Loc P S call q o st k r:=by
 cases ho:o.op with
 |move x=>exact d18 (.inl ho) h
 |assign x=>exact d18 (.inr ho) h
 |pick x y z=>exact f0a ho h
 |alloc e=>exact e1w ho h
 |box e x=>exact g2b ho h
 |build t ps=>exact e1y ho h
 |buildSlice t n ps=>exact b6f ho h
 |load t x=>exact e97 ho h
 |store t x y=>exact e14 ho h
 |nilCheck x=>exact c3h ho h
 |binOp op t x y u=>exact e1x ho h
 |unOp op t x=>exact f0b ho h
 |convert s t x=>exact c7u ho h
 |makeFunc fn pre caps=>exact c3g ho h
 |makeSlice t x y=>exact c0f ho h
 |slice t x lo hi mx=>exact e12 ho h
 |fieldAddr t x f=>exact c0d ho h
 |field t x f=>exact e1z ho h
 |indexAddr t x i=>exact c0e ho h
 |index t x i=>exact e11 ho h
 |extract x i=>exact c7v ho h
 |makeMap t z=>exact c7w ho h
 |lookup t x i ok=>exact d45 ho h
 |mapUpdate t x i y=>exact a90 (.inl ho) h
 |insert t x i y=>exact a90 (.inr ho) h
 |call cl=>
  cases hc:cl.callee with
  |builtin b=>
   cases b with
   |len=>exact g2c ho hc h
   |min=>exact g2e ho hc h
   |max=>exact g2d ho hc h
   |append=>exact d44 ho hc h
   |_=>unfold aop at h;simp only[ho,hc]at h;unfold a1g at h;split at h<;>first|contradiction|cases h
  |value fo=>
   unfold aop at h;simp only[ho,hc]at h;split at h
   ·rename_i f pre caps hf;cases hm:S.md f with
    |data=>exact e95 cn ho hc hf hm h
    |fresh=>exact e10 cn ho hc hf hm h
    | «mut»=>exact g2f cn ho hc hf hm h
    |cons=>exact e94 cn ho hc hf hm h
    |inpl=>exact e96 cn ho hc hf hm h
    |newb=>exact e98 cn ho hc hf hm h
    |nmap=>exact e99 cn ho hc hf hm h
    |bld=>exact g2a ho hc hf hm h
   ·cases h
  |invoke x m=>unfold aop at h;simp only[ho,hc]at h;cases h
 |_=>unfold aop at h;simp only[ho]at h;cases h
end
end
section
section
variable {κ:Type} {El:κ→Type} {S:Sg κ El} {P:Program}
variable {st:St κ El} {R:Type} [KdEq κ]
variable {o:Oper} {q:Bool} {call:Nat→List (D κ El)→List (List (D κ El))→(D κ El→List (List (D κ El))→Option R)→Option R} {k:St κ El→Option R} {r:R}
def slot (st:St κ El) (s:Nat):D κ El:=opd st (.tmp s)
def b5o {st:St κ El} {s:Nat} {d:D κ El} (h:c8 s st.env=some d):slot st s=d:=by simp[slot,opd,h]
def a1m {st st':St κ El} {s:Nat} (h:c8 s st'.env=c8 s st.env):slot st' s=slot st s:=by simp[slot,opd,h]
def a3q (st:St κ El) (dst:Option Nat) (d:D κ El) (s:Nat):slot (put st dst d) s=if dst=some s then d else slot st s:=by
 simp only[slot,opd,a01];by_cases h:dst=some s
 ·simp only[yaF h]
 ·simp only[yap h]
structure Sub (st C:St κ El):Prop where
 env:∀s,slot st s=.undef∨slot C s=slot st s
 bx:∀b,c8 b C.bx=c8 b st.bx
 ar:∀n,c8 n C.ar=c8 n st.ar
def Sub.refl (st:St κ El):Sub st st:=⟨λ_=>.inr rfl,λ_=>rfl,λ_=>rfl⟩
def Sub.trans {st C E:St κ El} (h:Sub st C) (h':Sub C E):Sub st E:=
 ⟨λs=>by
  rcases h.env s with h1|h1
  ·exact .inl h1
  ·rcases h'.env s with h2|h2
   ·exact .inl (by rw[←h1,h2])
   ·exact .inr (h2.trans h1),
  λb=>(h'.bx b).trans (h.bx b),λn=>(h'.ar n).trans (h.ar n)⟩
def Sub.opd {st C:St κ El} (h:Sub st C) (x:Operand):Ev.opd st x=.undef∨Ev.opd C x=Ev.opd st x:=by
 cases x with
 |tmp s=>exact h.env s
 |_=>exact .inr rfl
def Sub.opd_eq {st C:St κ El} (h:Sub st C) {x:Operand} {d:D κ El} (he:Ev.opd st x=d) (hn:d≠.undef):Ev.opd C x=d:=by
 rcases h.opd x with h1|h1
 ·rw[h1]at he;exact absurd he.symm hn
 ·rw[h1,he]
def Sub.put_undef {st C:St κ El} (h:Sub st C) (dst:Option Nat) (d:D κ El):Sub (Ev.put st dst .undef) (Ev.put C dst d):=
 ⟨λs=>by rw[a3q,a3q];split;exact .inl rfl;exact h.env s,λb=>by rw[a2l,a2l];exact h.bx b,λn=>by rw[a3d,a3d];exact h.ar n⟩
def Sub.put_same {st C:St κ El} (h:Sub st C) (dst:Option Nat) (d:D κ El):Sub (Ev.put st dst d) (Ev.put C dst d):=
 ⟨λs=>by rw[a3q,a3q];split;exact .inr rfl;exact h.env s,λb=>by rw[a2l,a2l];exact h.bx b,λn=>by rw[a3d,a3d];exact h.ar n⟩
def Sub.undefs_left {C:St κ El}:∀{l:List Oper} {st:St κ El},Sub st C→Sub (a2f st l) C:=by
 intro l
 induction l with
 |nil=>intro st h;exact h
 |cons o l ih=>
  intro st h;refine ih ⟨λs=>?_,λb=>by rw[a2l];exact h.bx b,λn=>by rw[a3d];exact h.ar n⟩;rw[a3q];split
  ·exact .inl rfl
  ·exact h.env s
def Rel.weaken {c:Cx} {st st':St κ El} {g:Gh} {a:Act} {w:World} (h:Rel S c st g a w) (hs:Sub st' st):Rel S c st' g a w where
 nt:=h.nt
 df:=h.df
 env:=λs d hd=>by
  have:=h.opd (.tmp s);rcases hs.env s with h1|h1
  ·rw[b5o hd]at h1;rw[h1];exact .undef _
  ·rw[b5o hd]at h1;cases hl:c8 s st.env with
   |none=>
    have e:slot st s=.undef:=by simp only[slot,Ev.opd,hl]
    rw[e]at h1;rw[←h1];exact .undef _
   |some d'=>rw[b5o hl]at h1;rw[←h1];exact h.env s d' hl
 bx:=λb cs hb=>h.bx b cs (by rw[hs.bx];exact hb)
 bd:=λb blk hb=>by rw[←hs.bx];exact h.bd b blk hb
 ar:=λn A hn=>h.ar n A (by rw[hs.ar];exact hn)
 ad:=λn hn=>by rw[←hs.ar];exact h.ad n hn
 ib:=h.ib
 ol:=h.ol
 i0:=h.i0
 i1:=h.i1
 ij:=h.ij
 j0:=h.j0
 j1:=h.j1
 jm:=h.jm
 old:=h.old
 mb:=h.mb
 mo:=h.mo
 pa:=h.pa
 pn:=h.pn
 sz:=h.sz
 os:=h.os
 out:=h.out
 tape:=h.tape
 gl:=h.gl
 gb:=h.gb
def g6s (P:Program) (S:Sg κ El) (o:Oper) (C C1:St κ El) (f:Foot):Prop:=
 ∀st₂,Agr (f.rd++f.wr) (looks o) C st₂→∃st₂',Dlt o.dst f.wr C C1 st₂ st₂'∧OpS P S o st₂ st₂'
def b97 {o:Oper} {st:St κ El} {i j:Nat}:(m0 o st i).rd=(m0 o st j).rd∧(m0 o st i).wr=(m0 o st j).wr∧(m0 o st i).i=i:=by
 unfold m0;cases o.op<;>try exact ⟨rfl,rfl,rfl⟩
 rename_i c;simp only;cases c.callee<;>try exact ⟨rfl,rfl,rfl⟩
 rename_i b;cases b<;>exact ⟨rfl,rfl,rfl⟩
def Sub.agr {st C:St κ El} (h:Sub st C) (fp:List (Nat×Nat)) (xs:List Operand):Agr fp xs st C:=⟨λx _=>h.opd x,λb _=>h.bx b,λn _=>h.ar n⟩
def Sub.agr_trans {st C st₂:St κ El} (h:Sub st C) {fp:List (Nat×Nat)} {xs:List Operand} (ha:Agr fp xs C st₂):Agr fp xs st st₂:=
 ⟨λx hx=>by
  rcases h.opd x with h1|h1
  ·exact .inl h1
  ·rcases ha.opd x hx with h2|h2
   ·exact .inl (by rw[←h1,h2])
   ·exact .inr (h2.trans h1),
  λb hb=>(ha.bx b hb).trans (h.bx b),λn hn=>(ha.ar n hn).trans (h.ar n)⟩
def f1t (G:GoodP P S) (cn:z7 call) (cok:a02 P S call) (h:aop P S call q o st k=some r) {C:St κ El} (hs:Sub st C) (i:Nat) :
 ∃st' C1,k st'=some r∧Sub st' C1∧g6s P S o C C1 (m0 o st i)∧(∀s,o.dst≠some s→slot st' s=slot st s):=by
 classical
 obtain ⟨st',hk,hloc⟩:=h0q cn h;obtain ⟨C0,D1,-⟩:=hloc C (hs.agr _ _);have hfi:(m0 o st i).rd=(m0 o st 0).rd∧(m0 o st i).wr=(m0 o st 0).wr:=⟨b97.1,b97.2.1⟩
 obtain ⟨C1,hbx,har,henv,hdst⟩:∃C1:St κ El,C1.bx=C0.bx∧C1.ar=C0.ar∧(∀s,o.dst≠some s→c8 s C1.env=c8 s C0.env)∧(∀s,o.dst=some s→c8 s C1.env=c8 s st'.env):=by
  cases hd:o.dst with
  |none=>exact ⟨C0,rfl,rfl,λ_ _=>rfl,λs h=>by cases h⟩
  |some d=>
   cases hv:c8 d st'.env with
   |none=>
    refine ⟨C0,rfl,rfl,λ_ _=>rfl,λs h=>?_⟩;cases h
    rcases D1.dst d hd with h1|h1
    ·rw[hv]at h1;cases h1
    ·exact h1
   |some v=>
    refine ⟨{C0 with env:=(d,v)::C0.env},rfl,rfl,λs h=>?_,λs h=>?_⟩
    ·show c8 s ((d,v)::C0.env)=_
     rw[e8,yap (λe=>h (by rw[e]))]
    ·cases h
     show c8 d ((d,v)::C0.env)=_
     rw[e8,yaF rfl,hv]
 refine ⟨st',C1,hk,⟨λs=>?_,λb=>?_,λn=>?_⟩,λst₂ ha=>?_,λs hs'=>a1m (D1.env s hs').1⟩
 ·by_cases hd:o.dst=some s
  ·exact .inr (a1m (hdst s hd))
  ·rw[a1m (henv s hd),a1m (D1.env s hd).1,a1m (D1.env s hd).2];exact hs.env s
 ·rw[hbx];by_cases hb:(0,b)∈(m0 o st 0).wr
  ·exact D1.bxw b hb
  ·rw[(D1.bxk b hb).1,(D1.bxk b hb).2];exact hs.bx b
 ·rw[har];by_cases hn:(1,n)∈(m0 o st 0).wr
  ·exact D1.arw n hn
  ·rw[(D1.ark n hn).1,(D1.ark n hn).2];exact hs.ar n
 ·rw[hfi.1,hfi.2]at ha;obtain ⟨st₂',D2,hall⟩:=hloc st₂ (hs.agr_trans ha);refine ⟨st₂',?_,?_⟩
  ·rw[hfi.2];refine ⟨λs hs'=>⟨?_,(D2.env s hs').2⟩,λs hd=>?_,λb hb=>?_,λb hb=>⟨?_,(D2.bxk b hb).2⟩,λn hn=>?_,λn hn=>⟨?_,(D2.ark n hn).2⟩⟩
   ·rw[henv s hs',(D1.env s hs').2]
   ·rcases D2.dst s hd with h1|h1
    ·exact .inl (by rw[hdst s hd,h1])
    ·exact .inr (by rw[h1,hdst s hd])
   ·rw[D2.bxw b hb,hbx,D1.bxw b hb]
   ·rw[hbx,(D1.bxk b hb).2]
   ·rw[D2.arw n hn,har,D1.arw n hn]
   ·rw[har,(D1.ark n hn).2]
  ·have h2:=hall (λs=>if s=st₂' then some r else none) (by simp);obtain ⟨st'',hk'',hop⟩:=g8j G cok h2;simp only at hk'';split at hk''
   ·rename_i e;rw[←e];exact hop
   ·cases hk''
def a3t (all:List Oper) (o:Oper) (C:St κ El) (b:Bool):Prop:=
 match o.guard,b with
 |none,b=>b=true
 |some (j,w),true=>∃d,(all[j]?).bind (·.dst)=some d∧slot C d=.bool w
 |some (j,w),false=>∃d,(all[j]?).bind (·.dst)=some d∧(slot C d=.bool (!w)∨slot C d=.tup [])
inductive Fl (P:Program) (S:Sg κ El) (all:List Oper):Nat→List Oper→St κ El→List Foot→St κ El→List Foot→Prop
 |nil (i C fp):Fl P S all i [] C fp C fp
 |run (i o os C C1 C' fp f fp') (hg:a3t all o C true) (hi:f.i=i) (hl:g6s P S o C C1 f) (h:Fl P S all (i+1) os C1 (f::fp) C' fp'):Fl P S all i (o::os) C fp C' fp'
 |quiet (i o os C C1 C' fp fp') (hg:a3t all o C true) (hl:g6s P S o C C1 ⟨i,[],[]⟩) (h:Fl P S all (i+1) os C1 fp C' fp'):Fl P S all i (o::os) C fp C' fp'
 |skip (i o os C C' fp fp') (hg:a3t all o C false) (h:Fl P S all (i+1) os (put C o.dst (.tup [])) fp C' fp'):Fl P S all i (o::os) C fp C' fp'
def Fl.append {all:List Oper} {i j:Nat} {l m:List Oper} {C C1 C':St κ El} {fp fp1 fp':List Foot} (h:Fl P S all i l C fp C1 fp1) (hj:j=i+l.length) (h':Fl P S all j m C1 fp1 C' fp') :
 Fl P S all i (l++m) C fp C' fp':=by
 induction h generalizing j with
 |nil i C fp=>simp at hj;subst hj;exact h'
 |run i o os C C1 C2 fp f fp2 hg hi hl h ih=>exact .run _ _ _ _ _ _ _ _ _ hg hi hl (ih (by simp at hj ⊢;omega) h')
 |quiet i o os C C1 C2 fp fp2 hg hl h ih=>exact .quiet _ _ _ _ _ _ _ _ hg hl (ih (by simp at hj ⊢;omega) h')
 |skip i o os C C2 fp fp2 hg h ih=>exact .skip _ _ _ _ _ _ _ hg (ih (by simp at hj ⊢;omega) h')
def b98 {a b:Option (Nat×Bool)} (h:gEq a b=true):a=b:=by
 unfold gEq at h;split at h<;>first|rfl|(simp only[yaS]at h;rw[h])|cases h
def d6q {ctx:Option (Nat×Bool)}:∀{l seg rest:List Oper},d6p ctx l=(seg,rest)→l=seg++rest∧(∀p rest',rest=p::rest'→p.guard=ctx):=by
 intro l
 induction l with
 |nil=>intro seg rest h;simp only[d6p,ya7]at h;obtain ⟨rfl,rfl⟩:=h;exact ⟨rfl,λp r h=>by cases h⟩
 |cons o l ih=>
  intro seg rest h;simp only[d6p,d7]at h;split at h
  ·rename_i hg;simp only[ya7]at h;obtain ⟨rfl,rfl⟩:=h;exact ⟨rfl,λp r h=>by cases h;exact b98 hg⟩
  ·cases hsp:d6p ctx l with
   |mk a b=>
    rw[hsp]at h;simp only[ya7]at h;obtain ⟨rfl,rfl⟩:=h;obtain ⟨e,h2⟩:=ih hsp;exact ⟨by rw[e];rfl,h2⟩
def f04 (C:St κ El):List Oper→St κ El
 | []=>C
 |o::os=>f04 (put C o.dst (.tup [])) os
def a83 {g:Nat} {o:Oper} (h:c4e g o=true):o.dst≠some g:=by
 unfold c4e at h;cases ho:o.dst with
 |none=>simp
 |some d=>rw[ho]at h;intro e;cases e;simp[a82]at h
def f05 {all:List Oper} {gi g:Nat} {w:Bool} (hgd:(all[gi]?).bind (·.dst)=some g):∀{l:List Oper} {acc:List Nat} {i:Nat} {C:St κ El} {fp:List Foot},
 slot C g=.bool (!w)→l.all (c4e g)=true→d25 all gi w acc l=true→(∀d∈acc,slot C d=.tup [])→Fl P S all i l C fp (f04 C l) fp:=by
 intro l
 induction l with
 |nil=>intros;exact .nil _ _ _
 |cons o l ih=>
  intro acc i C fp hb hn hk ha;simp only[ybR,yae]at hn;simp only[d25,yae]at hk;have hne:=a83 hn.1;refine .skip _ _ _ _ _ _ _ ?_ (ih (acc:=(match o.dst with|some d=>d::acc|none=>acc)) ?_ hn.2 hk.2 ?_)
  ·unfold a3t;cases hg:o.guard with
   |none=>rw[hg]at hk;simp at hk
   |some jw=>
    obtain ⟨j,w'⟩:=jw;have h1:=hk.1;rw[hg]at h1;simp only[ybr]at h1;rcases h1 with h1|h1
    ·have:=b98 h1;cases this
     exact ⟨g,hgd,.inl hb⟩
    ·split at h1
     ·rename_i d hd;obtain ⟨x,hx,he⟩:=List.any_eq_true.1 h1;rw[yaS]at he;subst he;exact ⟨d,hd,.inr (ha d hx)⟩
     ·cases h1
  ·rw[a3q,yap hne];exact hb
  ·intro d hd;rw[a3q];split
   ·rfl
   ·rename_i hne';cases ho:o.dst with
    |none=>rw[ho]at hd;exact ha d hd
    |some d'=>
     rw[ho]at hd hne';rcases yaM.1 hd with rfl|hd
     ·exact absurd rfl hne'
     ·exact ha d hd
def c54:∀{l:List Oper} {st C:St κ El},Sub st C→Sub (a2f st l) (f04 C l):=by
 intro l
 induction l with
 |nil=>intro st C h;exact h
 |cons o l ih=>intro st C h;exact ih (h.put_undef _ _)
def b5p {s:Nat}:∀{l:List Oper} {st:St κ El},(∀o∈l,o.dst≠some s)→slot (a2f st l) s=slot st s:=by
 intro l
 induction l with
 |nil=>intros;rfl
 |cons o l ih=>
  intro st h;rw[a2f,ih (λo ho=>h o (by simp[ho])),a3q,yap (h o (by simp))]
def b2l (all:List Oper) (ctx:Option (Nat×Bool)) (os:List Oper) (st:St κ El):Prop:=
 match ctx with
 |none=>True
 |some (gi,w)=>∃g,(all[gi]?).bind (·.dst)=some g∧slot st g=.bool w∧∀o∈os,o.dst≠some g
def b2l.guard {all:List Oper} {ctx:Option (Nat×Bool)} {os:List Oper} {st C:St κ El} (h:b2l all ctx os st) (hs:Sub st C) (hg:o.guard=ctx):a3t all o C true:=by
 unfold a3t;rw[hg];unfold b2l at h;cases ctx with
 |none=>rfl
 |some p=>
  obtain ⟨gi,w⟩:=p;obtain ⟨g,h1,h2,h3⟩:=h;exact ⟨g,h1,hs.opd_eq (x:=.tmp g) h2 (by simp)⟩
def b2l.next {all:List Oper} {ctx:Option (Nat×Bool)} {os os':List Oper} {st st':St κ El} (h:b2l all ctx os st) (hsub:∀o∈os',o∈os) (he:∀s,(∀o∈os,o.dst≠some s)→slot st' s=slot st s):b2l all ctx os' st':=by
 unfold b2l at *;cases ctx with
 |none=>trivial
 |some p=>
  obtain ⟨gi,w⟩:=p;obtain ⟨g,h1,h2,h3⟩:=h;exact ⟨g,h1,(he g h3).trans h2,λo ho=>h3 o (hsub o ho)⟩
def e2g (G:GoodP P S) (cn:z7 call) (cok:a02 P S call) {p:Oper} {c:Nat} {x y:Operand} (hp:p.op=.pick (.tmp c) x y) {C:St κ El} (hs:Sub st C) {t v:Bool} (ht:slot st c=.bool t) (hv:opd st (bif t then x else y)=.bool v) (i:Nat) (r:R) :
 ∃C1,Sub (put st p.dst (.bool v)) C1∧g6s P S p C C1 ⟨i,[],[]⟩:=by
 classical
 have h:aop P S call false p st (λs=>if s=put st p.dst (.bool v) then some r else none)=some r:=by
  unfold aop;have ht':opd st (.tmp c)=.bool t:=ht;simp only[hp,ht'];cases t with
  |true=>simp only[yac]at hv ⊢;rw[hv];simp
  |false=>simp only[yaa]at hv ⊢;rw[hv];simp
 obtain ⟨st',C1,hk,hsub,hl,-⟩:=f1t G cn cok h hs i;have e:st'=put st p.dst (.bool v):=by
  by_cases he:st'=put st p.dst (.bool v)
  ·exact he
  ·rw[yap he]at hk;cases hk
 subst e;refine ⟨C1,hsub,?_⟩;have:m0 p st i=⟨i,[],[]⟩:=by unfold m0;simp only[hp]
 rw[←this];exact hl
def d6u {o:Oper} {v:Bool} {d:Nat} {l:List Oper} {st C:St κ El} (h:Sub (put st (some d) (.bool v)) C):Sub (put (a2f st l) (some d) (.bool v)) C:=by
 refine Sub.trans ?_ h;exact (Sub.undefs_left (Sub.refl st)).put_same _ _
def f6m (G:GoodP P S) (cn:z7 call) (cok:a02 P S call) {all:List Oper}:∀(n:Nat) {ctx:Option (Nat×Bool)} {os:List Oper} {i:Nat} {fp:List Foot} {st C:St κ El} {k:St κ El→List Foot→Option R},
 c6g P S call all n ctx os i fp st k=some r→Sub st C→b2l all ctx os st→∃st' fp' C',k st' fp'=some r∧Sub st' C'∧Fl P S all i os C fp C' fp'∧(∀s,(∀o∈os,o.dst≠some s)→slot st' s=slot st s):=by
 intro n
 induction n with
 |zero=>intro ctx os i fp st C k h;cases h
 |succ n ih=>
  intro ctx os i fp st C k h hs hc;cases os with
  |nil=>exact ⟨st,fp,C,h,hs,.nil _ _ _,λ_ _=>rfl⟩
  |cons o os=>
   simp only[c6g]at h;rw[d7]at h;split at h
   ·rename_i hg;have hg:=b98 hg;obtain ⟨st1,C1,hk,hs1,hl,hfr⟩:=f1t G cn cok h hs i;have hc1:b2l all ctx os st1:=hc.next (λo ho=>by simp[ho]) (λs hs'=>hfr s (hs' o (by simp)));obtain ⟨st',fp',C',hk',hs',hfl,hfr'⟩:=ih hk hs1 hc1;exact ⟨st',fp',C',hk',hs',.run _ _ _ _ _ _ _ _ _ (hc.guard hs hg) (b97 (j:=0)).2.2 hl hfl,λs hs'=>(hfr' s (λo' ho'=>hs' o' (by simp[ho']))).trans (hfr s (hs' o (by simp)))⟩
   ·split at h
    ·cases h
    ·rename_i gi w hgd;split at h
     ·rename_i seg p rest hsp;obtain ⟨hos,hpg⟩:=d6q hsp;have hpg:=hpg p rest rfl;split at h
      ·rename_i c x y d g hpo hpd hall;rw[d7]at h;split at h
       rotate_left
       ·cases h
       rename_i hchk;simp only[yae,yaS]at hchk;obtain ⟨rfl,hcalm,hnd,hskip⟩:=hchk;have hnd':∀o'∈o::seg,o'.dst≠some c:=λo' ho'=>a83 (yaj.1 hnd o' ho')
       split at h
       rotate_left
       ·cases h
       rename_i gv hgv;have hsl:slot st c=.bool gv:=hgv;have hlist:o::os=(o::seg)++p::rest:=by rw[hos];rfl
       have active:∀{st1:St κ El} {C1:St κ El} {fp1:List Foot} {t v:Bool},Fl P S all i (o::seg) C fp C1 fp1→Sub st1 C1→slot st1 c=.bool t→opd st1 (bif t then x else y)=.bool v→(∀s,(∀o'∈o::seg,o'.dst≠some s)→slot st1 s=slot st s)→
        c6g P S call all n ctx rest (i+seg.length+2) fp1 (put (a2f st1 (o::seg)) (some d) (.bool v)) k=some r→
        ∃st' fp' C',k st' fp'=some r∧Sub st' C'∧Fl P S all i (o::os) C fp C' fp'∧(∀s,(∀o'∈o::os,o'.dst≠some s)→slot st' s=slot st s):=by
        intro st1 C1 fp1 t v hfl1 hs1 ht hv hfr1 hrest;obtain ⟨C2,hs2,hl2⟩:=e2g G cn cok hpo hs1 ht hv (i+seg.length+1) r;rw[hpd]at hs2;have hs3:=d6u (o:=o) (l:=o::seg) hs2;have hfr2:∀s,(∀o'∈o::os,o'.dst≠some s)→slot (put (a2f st1 (o::seg)) (some d) (.bool v)) s=slot st s:=by
         intro s hs';rw[hlist]at hs';have hd:¬(some d=some s):=λe=>hs' p (by simp) (by rw[hpd];exact e)
         rw[a3q,yap hd,b5p (λo' ho'=>hs' o' (ybk _ ho')),hfr1 s (λo' ho'=>hs' o' (ybk _ ho'))]
        have hc3:b2l all ctx rest (put (a2f st1 (o::seg)) (some d) (.bool v)):=hc.next (λo' ho'=>by rw[hlist];simp[ho']) hfr2;obtain ⟨st',fp',C',hk',hs',hfl',hfr'⟩:=ih hrest hs3 hc3;refine ⟨st',fp',C',hk',hs',?_,λs hs'=>?_⟩
        ·rw[hlist];refine hfl1.append (j:=i+seg.length+1) (by simp;omega) ?_;refine .quiet _ _ _ _ C2 _ _ _ ((hc.next (os':=[p]) (st':=st1) (λo' ho'=>by rw[hlist];simp at ho';simp[ho']) (λs hs'=>?_)).guard hs1 hpg) hl2 ?_
         ·exact hfr1 s (λo' ho'=>hs' o' (by rw[hlist];exact ybk _ ho'))
         ·exact hfl'
        ·rw[hfr' s (λo' ho'=>hs' o' (by rw[hlist];simp[ho'])),hfr2 s hs']
       have taken:∀{z:Operand},slot st c=.bool w→(z=bif w then x else y)→
        c6g P S call all n (some (gi,w)) (o::seg) i fp st (λst' fp'=>match opd st' z with | .bool v=>c6g P S call all n ctx rest (i+seg.length+2) fp' (put (a2f st' (o::seg)) (some d) (.bool v)) k|_=>none)=some r→
        ∃st' fp' C',k st' fp'=some r∧Sub st' C'∧Fl P S all i (o::os) C fp C' fp'∧(∀s,(∀o'∈o::os,o'.dst≠some s)→slot st' s=slot st s):=by
        intro z hw hz h1;obtain ⟨st1,fp1,C1,hk1,hs1,hfl1,hfr1⟩:=ih h1 hs ⟨c,hall,hw,hnd'⟩;split at hk1
        ·rename_i v hv;exact active hfl1 hs1 ((hfr1 c hnd').trans hw) (by rw[←hz];exact hv) hfr1 hk1
        ·cases hk1
       have left:∀{z:Operand},slot st c=.bool (!w)→(z=bif !w then x else y)→
        (match opd (a2f st (o::seg)) z with | .bool v=>c6g P S call all n ctx rest (i+seg.length+2) fp (put (a2f st (o::seg)) (some d) (.bool v)) k|_=>none)=some r→
        ∃st' fp' C',k st' fp'=some r∧Sub st' C'∧Fl P S all i (o::os) C fp C' fp'∧(∀s,(∀o'∈o::os,o'.dst≠some s)→slot st' s=slot st s):=by
        intro z hw hz h1;split at h1
        ·rename_i v hv;have hcg:slot C c=.bool (!w):=hs.opd_eq (x:=.tmp c) hw (by simp);have hfr1:∀s,(∀o'∈o::seg,o'.dst≠some s)→slot (a2f st (o::seg)) s=slot st s:=λs hs'=>b5p hs'
         have hs1:Sub (a2f st (o::seg)) (f04 C (o::seg)):=c54 hs;obtain ⟨C2,hs2,hl2⟩:=e2g G cn cok hpo hs1 ((hfr1 c hnd').trans hw) (by rw[←hz];exact hv) (i+seg.length+1) r;rw[hpd]at hs2;have hfr2:∀s,(∀o'∈o::os,o'.dst≠some s)→slot (put (a2f st (o::seg)) (some d) (.bool v)) s=slot st s:=by
          intro s hs';rw[hlist]at hs';have hd:¬(some d=some s):=λe=>hs' p (by simp) (by rw[hpd];exact e)
          rw[a3q,yap hd,hfr1 s (λo' ho'=>hs' o' (ybk _ ho'))]
         have hc3:b2l all ctx rest (put (a2f st (o::seg)) (some d) (.bool v)):=hc.next (λo' ho'=>by rw[hlist];simp[ho']) hfr2;obtain ⟨st',fp',C',hk',hs',hfl',hfr'⟩:=ih h1 hs2 hc3;refine ⟨st',fp',C',hk',hs',?_,λs hs'=>?_⟩
         ·rw[hlist];refine (f05 (fp:=fp) hall hcg hnd hskip (λd hd=>by cases hd)).append (j:=i+seg.length+1) (by simp;omega) ?_;refine .quiet _ _ _ _ C2 _ _ _ ((hc.next (os':=[p]) (st':=a2f st (o::seg)) (λo' ho'=>by rw[hlist];simp at ho';simp[ho']) (λs hs'=>?_)).guard hs1 hpg) hl2 ?_
          ·exact hfr1 s (λo' ho'=>hs' o' (by rw[hlist];exact ybk _ ho'))
          ·exact hfl'
         ·rw[hfr' s (λo' ho'=>hs' o' (by rw[hlist];simp[ho'])),hfr2 s hs']
        ·cases h1
       cases w with
       |true=>
        simp only[d7]at h;split at h
        ·rename_i hgt;subst hgt;exact taken hsl rfl h
        ·rename_i hgt;have hgt:gv=false:=by simpa using hgt
         subst hgt;exact left hsl rfl h
       |false=>
        simp only[d7]at h;split at h
        ·rename_i hgt;subst hgt;exact left hsl rfl h
        ·rename_i hgt;have hgt:gv=false:=by simpa using hgt
         subst hgt;exact taken hsl rfl h
      ·cases h
     ·cases h
end
end
section
section
variable {κ:Type} {El:κ→Type} {S:Sg κ El} {P:Program}
variable {st:St κ El} {R:Type} [KdEq κ]
variable {o:Oper} {c:Cx} {g:Gh} {a:Act} {w:World}
def Rel.drew (h:Rel S c st g a w) (n:Nat):Rel S c st g a {w with drawn:=n}:=by
 have le:Le w g {w with drawn:=n} g:=⟨λb o hi=>⟨rfl,hi⟩,λb o hj=>⟨rfl,hj⟩,λ_ _ h=>h,λ_ h=>h,λ_ _=>yav _,λ_ _ _ _ _ h=>h,λ_ _=>rfl⟩
 refine h.step (M:=λ_=>False) (w':={w with drawn:=n}) (g':=g) ?_ h.nt h.df (λs d hs=>(h.env s d hs).mono le) (λb cs hb=>.inl ⟨hb,λ_ _ h=>h⟩) h.bd
  (λn A hA=>.inl ⟨hA,λ_=>rfl,rfl,λ_ _ h=>h,λ_ _ _ h=>h⟩) h.ad
 exact ⟨yav _,rfl,rfl,rfl,λb _ _=>⟨rfl,rfl⟩,λb h=>h.elim,λb o hi=>⟨hi,λ_=>rfl⟩,λb o hi _=>.inl hi,h.ib,h.ol,
  λb o=>⟨.inr,λhh=>hh.elim (h.ij b o) id⟩,λ_ _ h=>h,λ_ h=>h,λ_ _=>yav _,λ_ _ _ _ _ h=>h,λ_ _=>rfl,λ_ h=>h⟩
def c5w (h:Rel S c st g a w) (s:Nat):VR S w g (a.tmps.getD s undef) (slot st s):=h.opd (.tmp s)
def b1n (h:Rel S c st g a w) {ops:Array Oper} {j d:Nat} {b:Bool} (hd:(ops.toList[j]?).bind (·.dst)=some d) (hs:slot st d=.bool b):yielded ops a.tmps j=some b:=by
 have hv:=c5w h d;rw[hs]at hv;have e:=hv.bool_inv;rw[yax]at hd;unfold yielded;rw[hd];simp only[ybU];rcases ybv d a.tmps.size with hlt|hge
 ·rw[ybG,yao hlt,Option.getD_some]at e;rw[yao hlt,e]
 ·rw[ybG,yb4 hge]at e;cases e
def VR.tup0 {v:Value} (h:VR S w g v (.tup [])):v=.tuple #[]:=by
 obtain ⟨vs,rfl,hs,_⟩:=h.tup_inv;have:vs = #[]:=by simpa using hs
 rw[this]
def c58 (h:Rel S c st g a w) {ops:Array Oper} {j d:Nat} (hd:(ops.toList[j]?).bind (·.dst)=some d) (hs:slot st d=.tup []):yielded ops a.tmps j=none:=by
 have hv:=c5w h d;rw[hs]at hv;have e:=hv.tup0;rw[yax]at hd;unfold yielded;rw[hd];simp only[ybU];rcases ybv d a.tmps.size with hlt|hge
 ·rw[ybG,yao hlt,Option.getD_some]at e;rw[yao hlt,e]
 ·rw[yb4 hge]
def c56 (h:Rel S c st g a w) {ops:Array Oper} {b:Bool} (hg:a3t ops.toList o st b):Region.wanted o (yielded ops a.tmps)=b:=by
 unfold a3t at hg;unfold Region.wanted;cases ho:o.guard with
 |none=>rw[ho]at hg;cases b<;>simp_all
 |some p=>
  obtain ⟨j,x⟩:=p;rw[ho]at hg;cases b with
  |true=>
   obtain ⟨d,hd,hs⟩:=hg;simp only[b1n h hd hs];simp
  |false=>
   obtain ⟨d,hd,hs|hs⟩:=hg
   ·simp only[b1n h hd hs];cases x<;>decide
   ·simp only[c58 h hd hs];cases x<;>decide
def Dlt.sub {dst:Option Nat} {wr:List (Nat×Nat)} {C C1 σ σ':St κ El} (h:Dlt dst wr C C1 σ σ') (hs:Sub C σ):Sub C1 σ' where
 env:=λs=>by
  by_cases hd:dst=some s
  ·rcases h.dst s hd with h1|h1
   ·exact .inl (b5o h1)
   ·exact .inr (a1m h1)
  ·rw[a1m (h.env s hd).1,a1m (h.env s hd).2];exact hs.env s
 bx:=λb=>by
  by_cases hb:(0,b)∈wr
  ·exact h.bxw b hb
  ·rw[(h.bxk b hb).1,(h.bxk b hb).2];exact hs.bx b
 ar:=λn=>by
  by_cases hn:(1,n)∈wr
  ·exact h.arw n hn
  ·rw[(h.ark n hn).1,(h.ark n hn).2];exact hs.ar n
def a69 (P:Program) (S:Sg κ El) (all:List Oper) (o:Oper) (C C1:St κ El) (f:Foot):Prop:=
 (a3t all o C true∧g6s P S o C C1 f)∨(a3t all o C false∧C1=put C o.dst (.tup [])∧f.wr=[])
def a69.wp {ops:Array Oper} {C C1:St κ El} {f:Foot} (h:a69 P S ops.toList o C C1 f) {i:Nat} (hi:ops[i]?=some o) {σ:St κ El}
 (hag:Agr (f.rd++f.wr) (looks o) C σ) (hgd:∀j x,o.guard=some (j,x)→∀d,(ops.toList[j]?).bind (·.dst)=some d→slot C d=.undef∨slot σ d=slot C d) (hr:Rel S c σ g a w) (hd:∀t,o.dst=some t→t<c.nt) :
 ∃σ',Dlt o.dst f.wr C C1 σ σ'∧∀{K:Act→World→Prop} {Q:Exit→Act→World→Prop},(∀g' a' w',Rel S c σ' g' a' w'→K a' w')→wpOp P ops Q i K a w:=by
 have hgi:∀b,a3t ops.toList o C b→a3t ops.toList o σ b:=by
  intro b hb;unfold a3t at *;cases ho:o.guard with
  |none=>rw[ho]at hb;exact hb
  |some p=>
   obtain ⟨j,x⟩:=p;rw[ho]at hb;cases b with
   |true=>
    obtain ⟨d,h1,h2⟩:=hb;rcases hgd j x ho d h1 with h3|h3
    ·rw[h3]at h2;cases h2
    ·exact ⟨d,h1,by rw[h3,h2]⟩
   |false=>
    obtain ⟨d,h1,h2⟩:=hb;rcases hgd j x ho d h1 with h3|h3
    ·rcases h2 with h2|h2<;>(rw[h3]at h2;cases h2)
    ·exact ⟨d,h1,by rw[h3];exact h2⟩
 rcases h with ⟨hg,hl⟩|⟨hg,rfl,hw⟩
 ·obtain ⟨σ',hD,hop⟩:=hl σ hag;refine ⟨σ',hD,λ{K Q} hK=>?_⟩;unfold wpOp;simp only[hi,c56 hr (hgi true hg),ybD];exact .inl (hop c g a w hr hd K Q hK)
 ·refine ⟨put σ o.dst (.tup []),?_,λ{K Q} hK=>?_⟩
  ·rw[hw];exact .put (.inr rfl) (λs=>⟨rfl,rfl⟩) (λb hb=>by cases hb) (λb _=>⟨rfl,rfl⟩) (λb hb=>by cases hb) (λb _=>⟨rfl,rfl⟩)
  ·unfold wpOp;simp only[hi,c56 hr (hgi false hg),yaz,ybd];exact hK g _ w (hr.put (.data (.tup #[] [] rfl (λi v d h1 h2=>by simp at h2))) hd)
def Fl.steps {all:List Oper} {i:Nat} {os:List Oper} {C C':St κ El} {fp fp':List Foot} (h:Fl P S all i os C fp C' fp') :
 ∃Cs:Nat→St κ El,∃fs:Nat→Foot,Cs i=C∧Cs (i+os.length)=C'∧(∀f∈fp,f∈fp')∧
  ∀(j:Nat) o,os[j]?=some o→a69 P S all o (Cs (i+j)) (Cs (i+j+1)) (fs (i+j))∧(((fs (i+j)).i=i+j∧fs (i+j)∈fp')∨((fs (i+j)).wr=[]∧(fs (i+j)).rd=[])):=by
 have step:∀{i:Nat} {o:Oper} {os:List Oper} {C C1 C':St κ El} {fp fp':List Foot} (f:Foot),(∀f'∈fp,f'∈fp')→a69 P S all o C C1 f→((f.i=i∧f∈fp')∨(f.wr=[]∧f.rd=[]))→
  (∃Cs:Nat→St κ El,∃fs:Nat→Foot,Cs (i+1)=C1∧Cs (i+1+os.length)=C'∧
   ∀(j:Nat) o,os[j]?=some o→a69 P S all o (Cs (i+1+j)) (Cs (i+1+j+1)) (fs (i+1+j))∧(((fs (i+1+j)).i=i+1+j∧fs (i+1+j)∈fp')∨((fs (i+1+j)).wr=[]∧(fs (i+1+j)).rd=[])))→
  ∃Cs:Nat→St κ El,∃fs:Nat→Foot,Cs i=C∧Cs (i+(o::os).length)=C'∧(∀f∈fp,f∈fp')∧
   ∀(j:Nat) o',(o::os)[j]?=some o'→a69 P S all o' (Cs (i+j)) (Cs (i+j+1)) (fs (i+j))∧(((fs (i+j)).i=i+j∧fs (i+j)∈fp')∨((fs (i+j)).wr=[]∧(fs (i+j)).rd=[])):=by
  intro i o os C C1 C' fp fp' f hfp hst hf ⟨Cs,fs,h1,h2,h3⟩;refine ⟨λn=>if n=i then C else Cs n,λn=>if n=i then f else fs n,by simp,?_,hfp,λj o' hj=>?_⟩
  ·have:¬(i+(o::os).length=i):=by simp
   simp only[yap this];rw[←h2];congr 1;simp;omega
  ·cases j with
   |zero=>
    simp only[yas,yam]at hj;subst hj;have e:¬(i+0+1=i):=by omega
    simp only[ya9,ybD,yap e]at *;rw[h1];exact ⟨hst,hf⟩
   |succ j=>
    simp only[yaL]at hj;have:=h3 j o' hj;have e1:i+1+j=i+(j+1):=by omega
    rw[e1]at this;have e2:¬(i+(j+1)=i):=by omega
    have e3:¬(i+(j+1)+1=i):=by omega
    simp only[yap e2,yap e3];exact this
 induction h with
 |nil i C fp=>exact ⟨λ_=>C,λ_=>⟨0,[],[]⟩,rfl,rfl,λf h=>h,λj o h=>by simp at h⟩
 |run i o os C C1 C' fp f fp' hg hi hl h ih=>
  obtain ⟨Cs,fs,h1,h2,h3,h4⟩:=ih;exact step f (λf' hf'=>h3 f' (by simp[hf'])) (.inl ⟨hg,hl⟩) (.inl ⟨hi,h3 f (by simp)⟩) ⟨Cs,fs,h1,h2,h4⟩
 |quiet i o os C C1 C' fp fp' hg hl h ih=>
  obtain ⟨Cs,fs,h1,h2,h3,h4⟩:=ih;exact step ⟨i,[],[]⟩ h3 (.inl ⟨hg,hl⟩) (.inr ⟨rfl,rfl⟩) ⟨Cs,fs,h1,h2,h4⟩
 |skip i o os C C' fp fp' hg h ih=>
  obtain ⟨Cs,fs,h1,h2,h3,h4⟩:=ih;exact step ⟨i,[],[]⟩ h3 (.inr ⟨hg,rfl,rfl⟩) (.inr ⟨rfl,rfl⟩) ⟨Cs,fs,h1,h2,h4⟩
def Fl.order {ops:Array Oper} {Q:Exit→Act→World→Prop} {Cs:Nat→St κ El} {fs:Nat→Foot}
 (hst:∀(j:Nat) o,ops[j]?=some o→a69 P S ops.toList o (Cs j) (Cs (j+1)) (fs j)) (hd:∀(j:Nat) o,ops[j]?=some o→∀t,o.dst=some t→t<c.nt) :
 ∀(m i:Nat),i+m=ops.size→∀{σ:St κ El} {g:Gh} {a:Act} {w:World},Sub (Cs i) σ→Rel S c σ g a w→(∀g' a' w',Rel S c (Cs ops.size) g' a' w'→Q .normal a' w')→wpOps P ops Q (List.range' i m) a w:=by
 intro m
 induction m with
 |zero=>
  intro i hi σ g a w hs hr hQ;have:i=ops.size:=by omega
  subst this;exact hQ g a w (hr.weaken hs)
 |succ m ih=>
  intro i hi σ g a w hs hr hQ;rw[List.range'_succ,wpOps_cons];have hlt:i<ops.size:=by omega
  have hio:ops[i]?=some ops[i]:=yao hlt;obtain ⟨σ',hD,hwp⟩:=(hst i _ hio).wp hio (hs.agr _ _) (λj x _ d _=>hs.env d) hr (hd i _ hio);exact hwp (λg' a' w' hr'=>ih (i+1) (by omega) (hD.sub hs) hr' hQ)
end
end
section
section cur
variable {α:Type} {n:Nat} {wrt:Nat→Prop} {v:Nat→α} {Rr:α→α→Prop}
def Cur (n:Nat) (wrt:Nat→Prop) (v:Nat→α) (Rr:α→α→Prop) (L:Nat→Prop) (x:α):Prop:=
 (∃i,i<n∧L i∧wrt i∧(∀j,i<j→j<n→L j→¬wrt j)∧Rr (v (i+1)) x)∨((∀j,j<n→L j→¬wrt j)∧Rr (v 0) x)
def a5z (hv:∀i,i<n→¬wrt i→v (i+1)=v i):∀(d i:Nat),i+d≤n→(∀j,i≤j→j<i+d→¬wrt j)→v (i+d)=v i:=by
 intro d
 induction d with
 |zero=>intros;rfl
 |succ d ih=>
  intro i hi h;rw[←ih i (by omega) (λj h1 h2=>h j h1 (by omega))];exact hv (i+d) (by omega) (h (i+d) (by omega) (by omega))
def Cur.read (hv:∀i,i<n→¬wrt i→v (i+1)=v i) {L:Nat→Prop} {x:α} (h:Cur n wrt v Rr L x) {i:Nat} (hi:i≤n) (hL:¬L i) (hlt:∀j,j<i→wrt j→L j) (hgt:∀j,i<j→j<n→L j→¬wrt j):Rr (v i) x:=by
 rcases h with ⟨k,hk,hLk,hwk,hmax,hx⟩|⟨hno,hx⟩
 ·have hki:k<i:=by
   rcases ycc k i with h1|h1|h1
   ·exact h1
   ·subst h1;exact absurd hLk hL
   ·exact absurd hwk (hgt k h1 hk hLk)
  have:=a5z hv (i-(k+1)) (k+1) (by omega) (λj h1 h2 hw=>hmax j (by omega) (by omega) (hlt j (by omega) hw) hw);rw[show k+1+(i-(k+1))=i by omega]at this;rw[this];exact hx
 ·have:=a5z hv i 0 (by omega) (λj h1 h2 hw=>hno j (by omega) (hlt j (by omega) hw) hw);rw[yaI]at this;rw[this];exact hx
def Cur.last (hv:∀i,i<n→¬wrt i→v (i+1)=v i) {L:Nat→Prop} {x:α} (h:Cur n wrt v Rr L x) (hall:∀j,j<n→L j):Rr (v n) x:=by
 rcases h with ⟨k,hk,hLk,hwk,hmax,hx⟩|⟨hno,hx⟩
 ·have:=a5z hv (n-(k+1)) (k+1) (by omega) (λj h1 h2 hw=>hmax j (by omega) (by omega) (hall j (by omega)) hw);rw[show k+1+(n-(k+1))=n by omega]at this;rw[this];exact hx
 ·have:=a5z hv n 0 (by omega) (λj h1 h2 hw=>hno j (by omega) (hall j (by omega)) hw);rw[yaI]at this;rw[this];exact hx
def Cur.write {L L':Nat→Prop} {x':α} {i:Nat} (hi:i<n) (hL':∀j,L' j↔L j∨j=i) (hw:wrt i) (hgt:∀j,i<j→j<n→L j→¬wrt j) (hx:Rr (v (i+1)) x'):Cur n wrt v Rr L' x':=
 .inl ⟨i,hi,(hL' i).2 (.inr rfl),hw,λj h1 h2 h3=>((hL' j).1 h3).elim (λh=>hgt j h1 h2 h) (λh=>by omega),hx⟩
def Cur.keep {L L':Nat→Prop} {x x':α} {i:Nat} (hL':∀j,L' j↔L j∨j=i) (hw:¬wrt i) (h:Cur n wrt v Rr L x) (hx:x'=x):Cur n wrt v Rr L' x':=by
 subst hx;rcases h with ⟨k,hk,hLk,hwk,hmax,hx⟩|⟨hno,hx⟩
 ·exact .inl ⟨k,hk,(hL' k).2 (.inl hLk),hwk,λj h1 h2 h3=>((hL' j).1 h3).elim (λh=>hmax j h1 h2 h) (λh=>by subst h;exact hw),hx⟩
 ·exact .inr ⟨λj h1 h2=>((hL' j).1 h2).elim (λh=>hno j h1 h) (λh=>by subst h;exact hw),hx⟩
def Cur.start {L:Nat→Prop} {x:α} (h:∀j,¬L j) (hx:Rr (v 0) x):Cur n wrt v Rr L x:=.inr ⟨λj _ hj=>absurd hj (h j),hx⟩
end cur
def c98:∀(l:List Oper) (acc:List Nat) (j:Nat),j<acc.length→(c1n acc l)[j]?=acc[j]?:=by
 intro l
 induction l with
 |nil=>intro acc j _;rfl
 |cons o l ih=>intro acc j hj;simp only[c1n];rw[ih _ _ (by simp;omega),yat hj]
def e8m {acc:List Nat} {i:Nat}:∀(l:List Edge) (s:Nat),(l.foldl (λs e=>bif Region.binds .any e then s ||| 2 ^ e.on ||| acc.getD e.on 0 else s) s).testBit i=true→
 s.testBit i=true∨∃e∈l,Region.binds .any e=true∧(i=e.on∨(acc.getD e.on 0).testBit i=true):=by
 intro l
 induction l with
 |nil=>intro s h;exact .inl h
 |cons e l ih=>
  intro s h;rcases ih _ h with h1|⟨e',he',h1⟩
  ·simp only[d7]at h1;split at h1
   ·rename_i hb;simp only[Nat.testBit_or,ybr,Nat.testBit_two_pow,yad]at h1;rcases h1 with (h1|h1)|h1
    ·exact .inl h1
    ·exact .inr ⟨e,by simp,hb,.inl h1.symm⟩
    ·exact .inr ⟨e,by simp,hb,.inr h1⟩
   ·exact .inl h1
  ·exact .inr ⟨e',by simp[he'],h1⟩
def e62:∀(l:List Oper) (acc:List Nat) (j:Nat) (o:Oper),l[j]?=some o→∀i,((c1n acc l).getD (acc.length+j) 0).testBit i=true→
 ∃e∈o.after,Region.binds .any e=true∧(i=e.on∨(((c1n acc l).take (acc.length+j)).getD e.on 0).testBit i=true):=by
 intro l
 induction l with
 |nil=>intro acc j o h;simp at h
 |cons o l ih=>
  intro acc j o' hj i hb;simp only[c1n]at hb ⊢;generalize hx:(o.after.toList.foldl (λs e=>bif Region.binds .any e then s ||| 2 ^ e.on ||| acc.getD e.on 0 else s) 0)=x at hb ⊢;cases j with
  |zero=>
   simp only[yas,yam]at hj;subst hj;have e1:(c1n (acc++[x]) l).getD (acc.length+0) 0=x:=by
    rw[ybK,c98 _ _ _ (by simp),ya9,yaG (yav _)];simp
   rw[e1,←hx]at hb;rcases e8m _ _ hb with h1|⟨e,he,hbd,h1⟩
   ·simp at h1
   ·refine ⟨e,by simpa using he,hbd,h1.imp id (λh2=>?_)⟩;have ht:(c1n (acc++[x]) l).take (acc.length+0)=acc:=by
     apply List.ext_getElem?;intro m;rw[yaH];by_cases hm:m<acc.length
     ·rw[yaF (by omega),c98 _ _ _ (by simp;omega),yat hm]
     ·rw[yap (by omega),List.getElem?_eq_none (by omega)]
    rw[ht];exact h2
  |succ j=>
   simp only[yaL]at hj;have e1:acc.length+(j+1)=(acc++[x]).length+j:=by simp;omega
   rw[e1]at hb ⊢;exact ih (acc++[x]) j o' hj i hb
def b1l {all:List Oper} {bef:List Nat} {j:Nat} {y:Oper}:∀{l:List Oper} {i:Nat},b5n all bef j y i l=true→∀(m:Nat) x,l[m]?=some x→i+m<j→(bef.getD j 0).testBit (i+m)=true∨c95 all x y=true:=by
 intro l
 induction l with
 |nil=>intro i _ m x h;simp at h
 |cons z l ih=>
  intro i h m x hm hlt;simp only[b5n,ybr,yae,Nat.ble_eq]at h;rcases h with h|⟨h1,h2⟩
  ·omega
  ·cases m with
   |zero=>simp only[yas,yam]at hm;subst hm;simpa using h1
   |succ m=>
    simp only[yaL]at hm;have:=ih h2 m x hm (by omega);rw[show i+1+m=i+(m+1) by omega]at this;exact this
def y5 {all:List Oper} {bef:List Nat}:∀{l:List Oper} {j:Nat},b2j all bef j l=true→∀(m:Nat) y,l[m]?=some y→(∀e∈y.after,Region.binds .any e=true→e.on<j+m)∧b5n all bef (j+m) y 0 all=true:=by
 intro l
 induction l with
 |nil=>intro j _ m y h;simp at h
 |cons z l ih=>
  intro j h m y hm;simp only[b2j,yae]at h;cases m with
  |zero=>
   simp only[yas,yam]at hm;subst hm;refine ⟨λe he hb=>?_,h.1.2⟩;have:=yaj.1 h.1.1 e (by simpa using he);simp only[hb,yak,ybg,Nat.ble_eq]at this;omega
  |succ m=>
   simp only[yaL]at hm;have:=ih h.2 m y hm;rw[show j+1+m=j+(m+1) by omega]at this;exact this
def g6e (all:List Oper) (o:Oper) (s:Nat):Prop:=(Operand.tmp s)∈looks o∨∃j x,o.guard=some (j,x)∧(all[j]?).bind (·.dst)=some s
def b1k {all:List Oper} {d:Nat} {o:Oper} (h:c0y all d o=false):¬g6e all o d:=by
 unfold c0y at h;rw[yai]at h;rintro (h1|⟨j,x,hg,hd⟩)
 ·have:=ybL.1 h.1 _ h1;simp[a82]at this
 ·have h2:=h.2;rw[hg]at h2;simp only[hd,a82]at h2;simp at h2
def b2p {all:List Oper} {x y:Oper} (h:c95 all x y=true):(∀d,x.dst=some d→¬g6e all y d∧y.dst≠some d)∧(∀d,y.dst=some d→¬g6e all x d):=by
 unfold c95 at h;rw[yae]at h;constructor
 ·intro d hd;have h1:=h.1;rw[hd]at h1;simp only[yae,yan]at h1;exact ⟨b1k h1.1,a83 h1.2⟩
 ·intro d hd;have h1:=h.2;rw[hd]at h1;simp only[yan]at h1;exact b1k h1
def c2l {l m:List (Nat×Nat)} (h:h4r l m=true):∀p∈l,p∉m:=by
 intro p hp hm;have:=yaj.1 (yaj.1 h p hp) p hm;simp[a82]at this
section
variable {κ:Type} {El:κ→Type} {S:Sg κ El} {P:Program}
variable [KdEq κ] {c:Cx}
structure Inv (ops:Array Oper) (Cs:Nat→St κ El) (fs:Nat→Foot) (L:Nat→Prop) (σ:St κ El):Prop where
 env:∀s,Cur ops.size (λi=>∃o,ops[i]?=some o∧o.dst=some s) (λi=>slot (Cs i) s) (λu v=>u=.undef∨v=u) L (slot σ s)
 bx:∀b,Cur ops.size (λi=>(0,b)∈(fs i).wr) (λi=>c8 b (Cs i).bx) (λu v=>v=u) L (c8 b σ.bx)
 ar:∀n,Cur ops.size (λi=>(1,n)∈(fs i).wr) (λi=>c8 n (Cs i).ar) (λu v=>v=u) L (c8 n σ.ar)
def Bef (ops:Array Oper) (i j:Nat):Prop:=((c1n [] ops.toList).getD j 0).testBit i=true
def a25 {ops:Array Oper} (hs:c01 ops.toList=true) {L:Nat→Prop} (hL:∀(j:Nat) o,ops[j]?=some o→L j→∀e∈o.after,Region.binds .any e=true→L e.on) :
 ∀(j:Nat),j<ops.size→∀i,Bef ops i j→(∀o,ops[j]?=some o→∀e∈o.after,Region.binds .any e=true→L e.on)→L i:=by
 intro j
 induction j using Nat.strongRecOn with
 |_ j ih=>
  intro hj i hb he;have hjo:ops[j]?=some ops[j]:=yao hj;have hjl:ops.toList[j]?=some ops[j]:=by rw[yax];exact hjo
  unfold Bef at hb;obtain ⟨e,hem,hbd,h1⟩:=e62 ops.toList [] j ops[j] hjl i (by simpa using hb);have hon:=(y5 hs j ops[j] hjl).1 e hem hbd;simp only[yaI]at hon;have hLe:=he _ hjo e hem hbd;rcases h1 with rfl|h1
  ·exact hLe
  ·refine ih e.on hon (by omega) i ?_ (λo ho e' he' hb'=>hL e.on o ho hLe e' he' hb');unfold Bef;rw[ybK,yaH,yaF (by simpa using hon),←ybK]at h1;exact h1
def c68 {bef:List Nat} {fp:List Foot} (h:d0r bef fp=true) {x y:Foot} (hx:x∈fp) (hy:y∈fp) (hne:x.i≠y.i):x.wr=[]∨(bef.getD x.i 0).testBit y.i=true∨(bef.getD y.i 0).testBit x.i=true∨((∀p∈x.wr,p∉y.rd)∧∀p∈x.wr,p∉y.wr):=by
 have h1:=yaj.1 h x hx;simp only[ybr]at h1;rcases h1 with h1|h1
 ·exact .inl (by simpa using h1)
 ·have h2:=yaj.1 h1 y hy;simp only[ybr,yae,a82,yad]at h2;rcases h2 with ((h2|h2)|h2)|h2
  ·exact absurd h2 hne
  ·exact .inr (.inl h2)
  ·exact .inr (.inr (.inl h2))
  ·exact .inr (.inr (.inr ⟨c2l h2.1,c2l h2.2⟩))
def Fl.any {ops:Array Oper} {Q:Exit→Act→World→Prop} {Cs:Nat→St κ El} {fs:Nat→Foot} {fp:List Foot}
 (hst:∀(j:Nat) o,ops[j]?=some o→a69 P S ops.toList o (Cs j) (Cs (j+1)) (fs j)) (hfp:∀(j:Nat) o,ops[j]?=some o→((fs j).i=j∧fs j∈fp)∨((fs j).wr=[]∧(fs j).rd=[]))
 (hd:∀(j:Nat) o,ops[j]?=some o→∀t,o.dst=some t→t<c.nt)
 (hs:c01 ops.toList=true) (hw:d0r (c1n [] ops.toList) fp=true)
 (hve:∀i,i<ops.size→∀s,(¬∃o,ops[i]?=some o∧o.dst=some s)→slot (Cs (i+1)) s=slot (Cs i) s)
 (hvb:∀i,i<ops.size→∀b,(0,b)∉(fs i).wr→c8 b (Cs (i+1)).bx=c8 b (Cs i).bx)
 (hva:∀i,i<ops.size→∀n,(1,n)∉(fs i).wr→c8 n (Cs (i+1)).ar=c8 n (Cs i).ar)
 (hQ:∀g' a' w',Rel S c (Cs ops.size) g' a' w'→Q .normal a' w') :
 ∀(fuel:Nat) (listed:Array Bool) {σ:St κ El} {g:Gh} {a:Act} {w:World},listed.size=ops.size→((List.range ops.size).filter (λi=>!listed.getD i true)).length≤fuel→
  (∀(j:Nat) o,ops[j]?=some o→listed.getD j false=true→∀e∈o.after,Region.binds .any e=true→listed.getD e.on false=true)→
  Inv ops Cs fs (λi=>listed.getD i false=true) σ→Rel S c σ g a w→wpAny P .any ops Q fuel listed a w:=by
 have pair:∀{L:Nat→Prop},(∀(j:Nat) o,ops[j]?=some o→L j→∀e∈o.after,Region.binds .any e=true→L e.on)→∀{i:Nat} {oi:Oper},ops[i]?=some oi→¬L i→(∀e∈oi.after,Region.binds .any e=true→L e.on)→
  ∀{j:Nat} {oj:Oper},ops[j]?=some oj→j≠i→(Bef ops j i∧L j)∨(¬Bef ops j i∧Bef ops i j∧¬L j)∨(¬Bef ops i j∧¬Bef ops j i∧(∀d,oj.dst=some d→¬g6e ops.toList oi d∧oi.dst≠some d)):=by
  intro L hL i oi hi hLi he j oj hj hne;have hil:i<ops.size:=(yah.1 hi).1;have hjl:j<ops.size:=(yah.1 hj).1;by_cases h1:Bef ops j i
  ·exact .inl ⟨h1,a25 hs hL i hil j h1 (λo ho=>by rw[hi]at ho;cases ho;exact he)⟩
  ·by_cases h2:Bef ops i j
   ·refine .inr (.inl ⟨h1,h2,λhLj=>hLi (a25 hs hL j hjl i h2 (λo ho e' he' hb'=>hL j o ho hLj e' he' hb'))⟩)
   ·refine .inr (.inr ⟨h2,h1,?_⟩);have hl1:ops.toList[i]?=some oi:=by rw[yax];exact hi
    have hl2:ops.toList[j]?=some oj:=by rw[yax];exact hj
    rcases Nat.lt_or_gt_of_ne hne with hlt|hgt
    ·have h3:=b1l (y5 hs i oi hl1).2 j oj hl2 (by omega);simp only[yaI]at h3;exact (b2p (h3.resolve_left h1)).1
    ·have h3:=b1l (y5 hs j oj hl2).2 i oi hl1 (by omega);simp only[yaI]at h3;have h4:=b2p (h3.resolve_left h2);intro d hd';refine ⟨h4.2 d hd',λe=>(h4.1 d e).2 hd'⟩
 intro fuel
 induction fuel with
 |zero=>
  intro listed σ g a w hsz hcnt hcl hinv hr;have hall:∀j,j<ops.size→listed.getD j false=true:=by
   intro j hj;have h0:(List.range ops.size).filter (λi=>!listed.getD i true)=[]:=yaq (by omega);have:=List.filter_eq_nil_iff.1 h0 j (by simpa using hj);have hlt:j<listed.size:=by omega
   simp[hlt]at this ⊢;exact this
  refine ⟨?_,hQ g a w (hr.weaken ⟨λs=>?_,λb=>?_,λn=>?_⟩)⟩
  ·apply List.eq_nil_iff_forall_not_mem.2;intro j hj;obtain ⟨h1,o,ho,-⟩:=mem_ready.1 hj;have hlt:=(yah.1 ho).1;have:=hall j hlt;have hlt':j<listed.size:=by omega
   simp[hlt']at h1 this;rw[h1]at this;cases this
  ·exact (hinv.env s).last (λi hi h=>hve i hi s h) hall
  ·exact (hinv.bx b).last (λi hi h=>hvb i hi b h) hall
  ·exact (hinv.ar n).last (λi hi h=>hva i hi n h) hall
 |succ fuel ih=>
  intro listed σ g a w hsz hcnt hcl hinv hr;constructor
  ·
   intro hnil;have hall:∀j,j<ops.size→listed.getD j false=true:=by
    intro j
    induction j using Nat.strongRecOn with
    |_ j ihj=>
     intro hj;cases hl:listed.getD j false with
     |true=>rfl
     |false=>
      exfalso;have hjo:ops[j]?=some ops[j]:=yao hj;have hlt:j<listed.size:=by omega
      have:j∈Region.ready .any ops listed:=by
       rw[mem_ready];refine ⟨by simp[hlt]at hl ⊢;exact hl,ops[j],hjo,λe he hb=>?_⟩;have hon:=(y5 hs j ops[j] (by rw[yax];exact hjo)).1 e he hb;simp only[yaI]at hon;exact ihj e.on hon (by omega)
      rw[hnil]at this;cases this
   refine hQ g a w (hr.weaken ⟨λs=>?_,λb=>?_,λn=>?_⟩)
   ·exact (hinv.env s).last (λi hi h=>hve i hi s h) hall
   ·exact (hinv.bx b).last (λi hi h=>hvb i hi b h) hall
   ·exact (hinv.ar n).last (λi hi h=>hva i hi n h) hall
  ·intro i hi;obtain ⟨hun,oi,hio,hedge⟩:=mem_ready.1 hi;have hil:i<ops.size:=(yah.1 hio).1;have hill:i<listed.size:=by omega
   have hnL:¬(listed.getD i false=true):=by simp[hill]at hun ⊢;exact hun
   have two:=λ{j:Nat} {oj:Oper} (hj:ops[j]?=some oj) (hne:j≠i)=>pair (L:=λi=>listed.getD i false=true) hcl hio hnL hedge hj hne
   have slotB:∀s,(g6e ops.toList oi s∨oi.dst=some s)→(∀j,j<i→(∃o,ops[j]?=some o∧o.dst=some s)→listed.getD j false=true)∧(∀j,i<j→j<ops.size→listed.getD j false=true→¬∃o,ops[j]?=some o∧o.dst=some s):=by
    intro s hsee;constructor
    ·rintro j hj ⟨oj,hjo,hds⟩;rcases two hjo (by omega) with h1|h1|h1
     ·exact h1.2
     ·exfalso;have hjl:j<ops.size:=(yah.1 hjo).1;have:i<j:=a25 hs (L:=λm=>m<j) (λm o ho hm e he hb=>by
       have:=(y5 hs m o (by rw[yax];exact ho)).1 e he hb;omega) j hjl i h1.2.1 (λo ho e he hb=>by
        have:=(y5 hs j o (by rw[yax];exact ho)).1 e he hb;omega)
      omega
     ·have h2:=h1.2.2 s hds;rcases hsee with h3|h3
      ·exact absurd h3 h2.1
      ·exact absurd h3 h2.2
    ·rintro j hj hjl hLj ⟨oj,hjo,hds⟩;rcases two hjo (by omega) with h1|h1|h1
     ·have:j<i:=a25 hs (L:=λm=>m<i) (λm o ho hm e he hb=>by
       have:=(y5 hs m o (by rw[yax];exact ho)).1 e he hb;omega) i hil j h1.1 (λo ho e he hb=>by
        have:=(y5 hs i o (by rw[yax];exact ho)).1 e he hb;omega)
      omega
     ·exact h1.2.2 hLj
     ·have h2:=h1.2.2 s hds;rcases hsee with h3|h3
      ·exact absurd h3 h2.1
      ·exact absurd h3 h2.2
   have memB:∀p,(p∈(fs i).rd∨p∈(fs i).wr)→(∀j,j<i→p∈(fs j).wr→listed.getD j false=true)∧(∀j,i<j→j<ops.size→listed.getD j false=true→p∉(fs j).wr):=by
    intro p hp;have hfi:(fs i).i=i∧fs i∈fp:=by
     rcases hfp i oi hio with h1|h1
     ·exact h1
     ·rw[h1.1,h1.2]at hp;simp at hp
    have key:∀{j:Nat} {oj:Oper},ops[j]?=some oj→j≠i→p∈(fs j).wr→Bef ops j i∨Bef ops i j:=by
     intro j oj hjo hne hpj;have hfj:(fs j).i=j∧fs j∈fp:=by
      rcases hfp j oj hjo with h1|h1
      ·exact h1
      ·rw[h1.1]at hpj;cases hpj
     have:=c68 hw hfj.2 hfi.2 (by rw[hfj.1,hfi.1];exact hne);rw[hfj.1,hfi.1]at this;rcases this with h1|h1|h1|h1
     ·rw[h1]at hpj;cases hpj
     ·exact .inr h1
     ·exact .inl h1
     ·rcases hp with h2|h2
      ·exact absurd h2 (h1.1 p hpj)
      ·exact absurd h2 (h1.2 p hpj)
    constructor
    ·intro j hj hpj;have hjl:j<ops.size:=by omega
     have hjo:ops[j]?=some ops[j]:=yao hjl;rcases key hjo (by omega) hpj with h1|h1
     ·exact a25 hs hcl i hil j h1 (λo ho=>by rw[hio]at ho;cases ho;exact hedge)
     ·exfalso;have:i<j:=a25 hs (L:=λm=>m<j) (λm o ho hm e he hb=>by
       have:=(y5 hs m o (by rw[yax];exact ho)).1 e he hb;omega) j hjl i h1 (λo ho e he hb=>by
        have:=(y5 hs j o (by rw[yax];exact ho)).1 e he hb;omega)
      omega
    ·intro j hj hjl hLj hpj;have hjo:ops[j]?=some ops[j]:=yao hjl;rcases key hjo (by omega) hpj with h1|h1
     ·have:j<i:=a25 hs (L:=λm=>m<i) (λm o ho hm e he hb=>by
       have:=(y5 hs m o (by rw[yax];exact ho)).1 e he hb;omega) i hil j h1 (λo ho e he hb=>by
        have:=(y5 hs i o (by rw[yax];exact ho)).1 e he hb;omega)
      omega
     ·exact hnL (a25 hs hcl j hjl i h1 (λo ho e' he' hb'=>hcl j o ho hLj e' he' hb'))
   have rdS:∀s,g6e ops.toList oi s→slot (Cs i) s=.undef∨slot σ s=slot (Cs i) s:=λs hsee=>
    (hinv.env s).read (λi hi h=>hve i hi s h) (Nat.le_of_lt hil) hnL (slotB s (.inl hsee)).1 (slotB s (.inl hsee)).2
   have hag:Agr ((fs i).rd++(fs i).wr) (looks oi) (Cs i) σ:=by
    refine ⟨λx hx=>?_,λb hb=>?_,λn hn=>?_⟩
    ·cases x with
     |tmp s=>exact rdS s (.inl hx)
     |_=>exact .inr rfl
    ·have:=memB (0,b) (yau.1 hb);exact (hinv.bx b).read (λi hi h=>hvb i hi b h) (Nat.le_of_lt hil) hnL this.1 this.2
    ·have:=memB (1,n) (yau.1 hn);exact (hinv.ar n).read (λi hi h=>hva i hi n h) (Nat.le_of_lt hil) hnL this.1 this.2
   obtain ⟨σ',hD,hwp⟩:=(hst i oi hio).wp hio hag (λj x hg d hd'=>rdS d (.inr ⟨j,x,hg,hd'⟩)) hr (hd i oi hio);have hL':∀j,(listed.setIfInBounds i true).getD j false=true↔listed.getD j false=true∨j=i:=by
    intro j;by_cases hji:j=i
    ·subst hji;simp[hill]
    ·rw[getD_set_ne false (Ne.symm hji)];simp[hji]
   refine hwp (λg' a' w' hr'=>ih (listed.setIfInBounds i true) (by simpa using hsz) ?_ (λj o ho hj e he hb=>?_) ⟨λs=>?_,λb=>?_,λn=>?_⟩ hr')
   ·
    have hlt:((List.range ops.size).filter (λj=>!(listed.setIfInBounds i true).getD j true)).length<((List.range ops.size).filter (λj=>!listed.getD j true)).length:=by
     have hsub:(List.range ops.size).filter (λj=>!(listed.setIfInBounds i true).getD j true)=((List.range ops.size).filter (λj=>!listed.getD j true)).filter (λj=>decide (j≠i)):=by
      rw[ybV];apply ycd;intro j hj;by_cases hji:j=i
      ·subst hji;simp[hill]
      ·rw[getD_set_ne true (Ne.symm hji)];simp[hji]
     rw[hsub];apply List.length_filter_lt_length_iff_exists.2;exact ⟨i,by rw[yaE];exact ⟨by simpa using hil,by rw[hun];rfl⟩,by simp⟩
    omega
   ·rcases (hL' j).1 hj with h1|h1
    ·exact (hL' e.on).2 (.inl (hcl j o ho h1 e he hb))
    ·subst h1;rw[hio]at ho;cases ho
     exact (hL' e.on).2 (.inl (hedge e he hb))
   ·by_cases hds:oi.dst=some s
    ·refine Cur.write (L:=λi=>listed.getD i false=true) hil hL' ⟨oi,hio,hds⟩ (slotB s (.inr hds)).2 ?_;rcases hD.dst s hds with h1|h1
     ·exact .inl (b5o h1)
     ·exact .inr (a1m h1)
    ·refine Cur.keep (L:=λi=>listed.getD i false=true) hL' (λ⟨o,ho,h⟩=>by rw[hio]at ho;cases ho;exact hds h) (hinv.env s) (a1m (hD.env s hds).2)
   ·by_cases hb:(0,b)∈(fs i).wr
    ·exact Cur.write (L:=λi=>listed.getD i false=true) hil hL' hb (memB (0,b) (.inr hb)).2 (hD.bxw b hb)
    ·exact Cur.keep (L:=λi=>listed.getD i false=true) hL' hb (hinv.bx b) (hD.bxk b hb).2
   ·by_cases hn:(1,n)∈(fs i).wr
    ·exact Cur.write (L:=λi=>listed.getD i false=true) hil hL' hn (memB (1,n) (.inr hn)).2 (hD.arw n hn)
    ·exact Cur.keep (L:=λi=>listed.getD i false=true) hL' hn (hinv.ar n) (hD.ark n hn).2
def a69.keeps {all:List Oper} {o:Oper} {C C1:St κ El} {f:Foot} (h:a69 P S all o C C1 f) :
 (∀s,o.dst≠some s→slot C1 s=slot C s)∧(∀b,(0,b)∉f.wr→c8 b C1.bx=c8 b C.bx)∧(∀n,(1,n)∉f.wr→c8 n C1.ar=c8 n C.ar):=by
 rcases h with ⟨-,hl⟩|⟨-,rfl,hw⟩
 ·obtain ⟨σ',hD,-⟩:=hl C ((Sub.refl C).agr _ _);exact ⟨λs hs=>a1m (hD.env s hs).1,λb hb=>(hD.bxk b hb).1,λn hn=>(hD.ark n hn).1⟩
 ·exact ⟨λs hs=>by rw[a3q,yap hs],λb _=>by rw[a2l],λn _=>by rw[a3d]⟩
def e3l {R:Type} {r:R} {call:Nat→List (D κ El)→List (List (D κ El))→(D κ El→List (List (D κ El))→Option R)→Option R} (G:GoodP P S) (cn:z7 call) (cok:a02 P S call) (hmix:P.follows .mixedOrders=true)
 {id:Nat} {ops:Array Oper} {draw:Bool} {st:St κ El} {k:St κ El→Option R}
 (h:c6g P S call ops.toList (ops.toList.length+1) none ops.toList 0 [] st (λst' fp=>bif !draw||(d0r (c1n [] ops.toList) fp&&c01 ops.toList) then k st' else none)=some r) :
 ∃st',k st'=some r∧∀{c:Cx} {g:Gh} {a:Act} {w:World},Rel S c st g a w→(∀o∈ops.toList,∀t,o.dst=some t→t<c.nt)→
  ∀{Q:Exit→Act→World→Prop},(∀g' a' w',Rel S c st' g' a' w'→Q .normal a' w')→(Code.region id ops draw).wp P Q a w:=by
 obtain ⟨st',fp',C',hk,hsub,hfl,-⟩:=f6m G cn cok _ h (Sub.refl st) trivial;rw[d7]at hk;split at hk
 rotate_left
 ·cases hk
 rename_i hcheck;refine ⟨st',hk,λ{c g a w} hr hd {Q} hQ=>?_⟩;obtain ⟨Cs,fs,h1,h2,h3,h4⟩:=hfl.steps;simp only[yaI]at h2 h4;have hsz:ops.toList.length=ops.size:=by simp
 have hst:∀(j:Nat) o,ops[j]?=some o→a69 P S ops.toList o (Cs j) (Cs (j+1)) (fs j):=λj o ho=>(h4 j o (by rw[yax];exact ho)).1
 have hdt:∀(j:Nat) o,ops[j]?=some o→∀t,o.dst=some t→t<c.nt:=λj o ho=>hd o (by rw[Array.mem_toList_iff];exact Array.mem_of_getElem? ho)
 have hfin:∀g' a' w',Rel S c (Cs ops.size) g' a' w'→Q .normal a' w':=λg' a' w' hr'=>hQ g' a' w' (hr'.weaken (by rw[←hsz,h2];exact hsub))
 cases draw with
 |false=>
  refine wp_region ?_;rw[List.range_eq_range'];exact Fl.order hst hdt ops.size 0 (by omega) (σ:=st) (by rw[h1];exact Sub.refl st) hr hfin
 |true=>
  simp only[yak,ybg,yae]at hcheck;refine wp_region_any hmix ?_;refine Fl.any hst (λj o ho=>(h4 j o (by rw[yax];exact ho)).2) hdt hcheck.2 hcheck.1 ?_ ?_ ?_ hfin ops.size _ (σ:=st) (by simp) ?_ ?_ ?_ (hr.drew _)
  ·intro i hi s hno;exact (hst i _ (yao hi)).keeps.1 s (λe=>hno ⟨_,yao hi,e⟩)
  ·intro i hi b hb;exact (hst i _ (yao hi)).keeps.2.1 b hb
  ·intro i hi n hn;exact (hst i _ (yao hi)).keeps.2.2 n hn
  ·exact ybt (yaX _ _) (by simp)
  ·intro j o ho hj;have hlt:=(yah.1 ho).1;simp[hlt]at hj
  ·have hno:∀j,¬((Array.replicate ops.size false).getD j false=true):=by
    intro j;rcases ybv j ops.size with h|h<;>simp[h]
   exact ⟨λs=>Cur.start hno (by rw[h1];exact .inr rfl),λb=>Cur.start hno (by rw[h1]),λn=>Cur.start hno (by rw[h1])⟩
end
end
section
section
variable {κ:Type} {El:κ→Type} {S:Sg κ El} {P:Program}
variable [KdEq κ]
def f6f:Ex→Exit
 |.normal=>.normal
 |.exit i=>.exit i
 |.ret=>.ret
def a68 (nt:Nat):Code→Prop
 |.region _ ops _=>∀o∈ops.toList,∀t,o.dst=some t→t<nt
 |.seq a b=>a68 nt a∧a68 nt b
 |.cond _ a b=>a68 nt a∧a68 nt b
 |.block _ c=>a68 nt c
 |.loop c=>a68 nt c
 |.scope c=>a68 nt c
 |_=>True
def d9z (nt:Nat):Code→Bool
 |.region _ ops _=>ops.toList.all λo=>match o.dst with|some t=>Nat.ble (t+1) nt|none=>true
 |.seq a b=>d9z nt a&&d9z nt b
 |.cond _ a b=>d9z nt a&&d9z nt b
 |.block _ c=>d9z nt c
 |.loop c=>d9z nt c
 |.scope c=>d9z nt c
 |_=>true
def d90 {nt:Nat}:∀{c:Code},d9z nt c=true→a68 nt c:=by
 intro c
 induction c with
 |region id ops draw=>
  intro h o ho t ht;have:=yaj.1 h o ho;rw[ht]at this;simpa[Nat.lt_iff_add_one_le]using this
 |seq a b iha ihb=>intro h;simp only[d9z,yae]at h;exact ⟨iha h.1,ihb h.2⟩
 |cond c a b iha ihb=>intro h;simp only[d9z,yae]at h;exact ⟨iha h.1,ihb h.2⟩
 |block id c ih=>intro h;exact ih h
 |loop c ih=>intro h;exact ih h
 |scope c ih=>intro h;exact ih h
 |_=>intro _;trivial
def a68.body {nt:Nat}:∀{c b:Code},a68 nt c→b∈j6 c→a68 nt b:=by
 intro c
 induction c with
 |seq a b iha ihb=>intro b' h hb;simp only[j6,yau]at hb;exact hb.elim (iha h.1) (ihb h.2)
 |cond c a b iha ihb=>intro b' h hb;simp only[j6,yau]at hb;exact hb.elim (iha h.1) (ihb h.2)
 |block id c ih=>intro b h hb;exact ih h hb
 |loop c ih=>
  intro b h hb;simp only[j6,yaM]at hb;rcases hb with rfl|hb
  ·exact h
  ·exact ih h hb
 |scope c ih=>intro b h hb;exact ih h hb
 |_=>intro b h hb;simp[j6]at hb
def a4p:∀{c b b':Code},b∈j6 c→b'∈j6 b→b'∈j6 c:=by
 intro c
 induction c with
 |seq a b iha ihb=>intro x y h hb;simp only[j6,yau]at h ⊢;exact h.imp (λh=>iha h hb) (λh=>ihb h hb)
 |cond c a b iha ihb=>intro x y h hb;simp only[j6,yau]at h ⊢;exact h.imp (λh=>iha h hb) (λh=>ihb h hb)
 |block id c ih=>intro x y h hb;exact ih h hb
 |loop c ih=>
  intro x y h hb;simp only[j6,yaM]at h ⊢;rcases h with rfl|h
  ·exact .inr hb
  ·exact .inr (ih h hb)
 |scope c ih=>intro x y h hb;exact ih h hb
 |_=>intro x y h hb;simp[j6]at h
def h34 (P:Program) (S:Sg κ El) (nt m:Nat) (code:Code) (st:St κ El) (e:Ex) (st':St κ El):Prop:=
 ∀{c:Cx} {g:Gh} {a:Act} {w:World},Rel S c st g a w→c.nt=nt→c.ar=m→∀{Q:Exit→Act→World→Prop},(∀g' a' w',Rel S c st' g' a' w'→Q (f6f e) a' w')→code.wp P Q a w
def c9u (P:Program) (S:Sg κ El) (nt m:Nat) (fn:Func) (loops:{R:Type}→Nat→St κ El→(Ex→St κ El→Option R)→Option R) (id:Nat):Prop:=
 ∀{R:Type} (st:St κ El) (k:Ex→St κ El→Option R) (r:R),loops id st k=some r→∃e st',k e st'=some r∧h34 P S nt m (.loop (a08 fn id)) st e st'
def d91 {nt m:Nat} {fn:Func} {loops:{R:Type}→Nat→St κ El→(Ex→St κ El→Option R)→Option R} (G:GoodP P S) (hmix:P.follows .mixedOrders=true)
 {R:Type} {call:Nat→List (D κ El)→List (List (D κ El))→(D κ El→List (List (D κ El))→Option R)→Option R} (cn:z7 call) (cok:a02 P S call) {r:R} :
 ∀{code:Code} {st:St κ El} {k:Ex→St κ El→Option R},a68 nt code→(∀b∈j6 code,a08 fn (m9 b)=b∧c9u P S nt m fn @loops (m9 b))→
  evc P S call (loops (R:=R)) code st k=some r→∃e st',k e st'=some r∧h34 P S nt m code st e st':=by
 intro code
 induction code with
 |skip=>intro st k _ _ h;exact ⟨.normal,st,h,λ{c g a w} hr _ _ {Q} hQ=>wp_skip (hQ g a w hr)⟩
 |region id ops draw=>
  intro st k hd _ h;obtain ⟨st',hk,hw⟩:=e3l G cn cok hmix h;exact ⟨.normal,st',hk,λ{c g a w} hr hnt _ {Q} hQ=>hw hr (λo ho t ht=>by rw[hnt];exact hd o ho t ht) hQ⟩
 |seq x y ihx ihy=>
  intro st k hd hl h;simp only[evc]at h;obtain ⟨e,st1,hk,h1⟩:=ihx hd.1 (λb hb=>hl b (by simp[j6,hb])) h;cases e with
  |normal=>
   obtain ⟨e2,st2,hk2,h2⟩:=ihy hd.2 (λb hb=>hl b (by simp[j6,hb])) hk;exact ⟨e2,st2,hk2,λ{c g a w} hr hnt hm {Q} hQ=>wp_seq (h1 hr hnt hm (λg' a' w' hr'=>h2 hr' hnt hm hQ))⟩
  |exit i=>exact ⟨.exit i,st1,hk,λ{c g a w} hr hnt hm {Q} hQ=>wp_seq (h1 hr hnt hm (λg' a' w' hr'=>hQ g' a' w' hr'))⟩
  |ret=>exact ⟨.ret,st1,hk,λ{c g a w} hr hnt hm {Q} hQ=>wp_seq (h1 hr hnt hm (λg' a' w' hr'=>hQ g' a' w' hr'))⟩
 |cond cd x y ihx ihy=>
  intro st k hd hl h;simp only[evc]at h;split at h
  ·rename_i v hv;rw[d7]at h;split at h
   ·rename_i hvt;obtain ⟨e,st1,hk,h1⟩:=ihx hd.1 (λb hb=>hl b (by simp[j6,hb])) h;refine ⟨e,st1,hk,λ{c g a w} hr hnt hm {Q} hQ=>?_⟩;have hb:=hr.opd cd;rw[hv,hvt]at hb;exact wp_cond_true hb.bool_inv (h1 hr hnt hm hQ)
   ·rename_i hvf;have hvf:v=false:=by simpa using hvf
    obtain ⟨e,st1,hk,h1⟩:=ihy hd.2 (λb hb=>hl b (by simp[j6,hb])) h;refine ⟨e,st1,hk,λ{c g a w} hr hnt hm {Q} hQ=>?_⟩;have hb:=hr.opd cd;rw[hv,hvf]at hb;exact wp_cond_false hb.bool_inv (h1 hr hnt hm hQ)
  ·cases h
 |block id c ih=>
  intro st k hd hl h;simp only[evc]at h;obtain ⟨e,st1,hk,h1⟩:=ih hd hl h;cases e with
  |normal=>exact ⟨.normal,st1,hk,λ{c g a w} hr hnt hm {Q} hQ=>wp_block (h1 hr hnt hm (λg' a' w' hr'=>hQ g' a' w' hr'))⟩
  |ret=>exact ⟨.ret,st1,hk,λ{c g a w} hr hnt hm {Q} hQ=>wp_block (h1 hr hnt hm (λg' a' w' hr'=>hQ g' a' w' hr'))⟩
  |exit j=>
   simp only[d7]at hk;split at hk
   ·rename_i hj;rw[yaS]at hj;refine ⟨.normal,st1,hk,λ{c g a w} hr hnt hm {Q} hQ=>wp_block (h1 hr hnt hm (λg' a' w' hr'=>?_))⟩;show (if j=id then Q .normal a' w' else Q (.exit j) a' w')
    rw[yaF hj];exact hQ g' a' w' hr'
   ·rename_i hj;rw[yaS]at hj;refine ⟨.exit j,st1,hk,λ{c g a w} hr hnt hm {Q} hQ=>wp_block (h1 hr hnt hm (λg' a' w' hr'=>?_))⟩;show (if j=id then Q .normal a' w' else Q (.exit j) a' w')
    rw[yap hj];exact hQ g' a' w' hr'
 |loop c ih=>
  intro st k hd hl h;simp only[evc]at h;have hc:=hl c (by simp[j6]);obtain ⟨e,st',hk,h1⟩:=hc.2 st k r h;rw[hc.1]at h1;exact ⟨e,st',hk,h1⟩
 |exit id=>intro st k _ _ h;exact ⟨.exit id,st,h,λ{c g a w} hr _ _ {Q} hQ=>wp_exit (hQ g a w hr)⟩
 |ret=>intro st k _ _ h;exact ⟨.ret,st,h,λ{c g a w} hr _ _ {Q} hQ=>wp_ret (hQ g a w hr)⟩
 |_=>intro st k _ _ h;cases h
def c9v (P:Program) (S:Sg κ El) (m:Nat) (st st':St κ El):Prop:=
 ∀{c:Cx} {g:Gh} {a:Act} {w:World},Rel S c st g a w→c.ar=m→∃g',Rel S c st' g' a w
def c5s {nt m:Nat} {α β:Type} {body:Code} {step:α→Option (α⊕β)} {enc:α→St κ El} {out:β→Ex×St κ El}
 (hstep:∀a x,step a=some x→match x with
  |.inl a'=>∃st',c9v P S m st' (enc a')∧h34 P S nt m body (enc a) .normal st'
  |.inr b=>∃st' e,e≠.normal∧(out b).1=e∧c9v P S m st' (out b).2∧h34 P S nt m body (enc a) e st') :
 ∀(n:Nat) {a:α} {b:β},o7 step n a=some b→∀{c:Cx} {g:Gh} {act:Act} {w:World},Rel S c (enc a) g act w→c.nt=nt→c.ar=m→
  ∀{Q:Exit→Act→World→Prop},(∀g' a' w',Rel S c (out b).2 g' a' w'→Q (f6f (out b).1) a' w')→Code.rounds P body Q n act w:=by
 intro n
 induction n with
 |zero=>intro a b h;cases h
 |succ n ih=>
  intro a b h c g act w hr hnt hm Q hQ;simp only[o7]at h;split at h
  ·rename_i a' hs;obtain ⟨st',hto,hev⟩:=hstep a _ hs;rw[rounds_succ];refine hev hr hnt hm (λg' a'' w' hr'=>?_);obtain ⟨g2,hr2⟩:=hto hr' hm;exact ih h hr2 hnt hm hQ
  ·rename_i b' hs;simp only[yam]at h;subst h;obtain ⟨st',e,hne,he,hto,hev⟩:=hstep a _ hs;rw[rounds_succ];refine hev hr hnt hm (λg' a'' w' hr'=>?_);obtain ⟨g2,hr2⟩:=hto hr' hm;have:=hQ g2 a'' w' hr2;rw[he]at this;cases e with
   |normal=>exact absurd rfl hne
   |exit i=>exact this
   |ret=>exact this
  ·cases h
def g3j {nt m:Nat} {fn:Func} {id:Nat} {α β:Type} {loops:{R:Type}→Nat→St κ El→(Ex→St κ El→Option R)→Option R}
 {call:{R:Type}→Nat→List (D κ El)→List (List (D κ El))→(D κ El→List (List (D κ El))→Option R)→Option R}
 {pr:St κ El→Option (St κ El)} {fc:FC κ El α} {step:α→Option (α⊕β)} {outs:Ex→St κ El→Option β} {outk:{R:Type}→β→(Ex→St κ El→Option R)→Option R} (out:β→Ex×St κ El)
 (G:GoodP P S) (hmix:P.follows .mixedOrders=true) (cn:∀{R:Type},z7 (R:=R) call) (cok:∀{R:Type},a02 (R:=R) P S call)
 (hd:a68 nt (a08 fn id)) (hl:∀b∈j6 (a08 fn id),a08 fn (m9 b)=b∧c9u P S nt m fn @loops (m9 b))
 (el:∀a,evc P S call (loops (R:=α⊕β)) (a08 fn id) (fc.enc a) (d4u pr fc outs)=step a)
 (hp:∀st st1 a,pr st=some st1→fc.dec st1=some a→c9v P S m st (fc.enc a))
 (ho:∀e st b,outs e st=some b→(out b).1=e∧c9v P S m st (out b).2)
 (hk:∀{R:Type} b (k:Ex→St κ El→Option R),outk b k=k (out b).1 (out b).2)
 (heq:∀{R:Type} (st:St κ El) (k:Ex→St κ El→Option R),loops id st k=h3g pr fc step outk st k):c9u P S nt m fn @loops id:=by
 intro R st k r h;rw[heq]at h;unfold h3g at h;split at h
 ·rename_i st1 hpr;split at h
  ·rename_i a hdec;split at h
   ·rename_i b hw;rw[hk]at h;refine ⟨_,_,h,λ{c g act w} hr hnt hm {Q} hQ=>?_⟩;obtain ⟨g',hr'⟩:=hp st st1 a hpr hdec hr hm;refine wp_loop_rounds c1a (c5s (step:=step) (enc:=fc.enc) (out:=out) (λa x hs=>?_) c1a hw hr' hnt hm hQ);rw[←el a]at hs;obtain ⟨e,st',hleaf,hev⟩:=d91 G hmix cn cok hd hl hs;cases x with
    |inl a'=>
     unfold d4u at hleaf;cases e with
     |normal=>
      simp only at hleaf;split at hleaf
      ·rename_i st2 h1;split at hleaf
       ·rename_i a2 h2;cases hleaf
        exact ⟨st',hp st' st2 a' h1 h2,hev⟩
       ·cases hleaf
      ·cases hleaf
     |exit i=>simp only at hleaf;split at hleaf<;>cases hleaf
     |ret=>simp only at hleaf;split at hleaf<;>cases hleaf
    |inr b'=>
     unfold d4u at hleaf;cases e with
     |normal=>
      simp only at hleaf;split at hleaf
      ·split at hleaf<;>cases hleaf
      ·cases hleaf
     |exit i=>
      simp only at hleaf;split at hleaf
      ·rename_i b2 h1;cases hleaf
       exact ⟨st',.exit i,by simp,(ho _ _ _ h1).1,(ho _ _ _ h1).2,hev⟩
      ·cases hleaf
     |ret=>
      simp only at hleaf;split at hleaf
      ·rename_i b2 h1;cases hleaf
       exact ⟨st',.ret,by simp,(ho _ _ _ h1).1,(ho _ _ _ h1).2,hev⟩
      ·cases hleaf
   ·cases h
  ·cases h
 ·cases h
end
end
end Go.Proofs.YtnajckeiaobmkabGreatDoor.Ev
