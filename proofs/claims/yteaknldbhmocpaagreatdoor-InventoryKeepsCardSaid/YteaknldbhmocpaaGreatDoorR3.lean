/- InventoryKeeps: a part of the proof of the given statement, which is proved without conditions. -/
import Derived.Test.YteaknldbhmocpaaGreatDoorR2
import Derived.Conc.MuLone
import Derived.ChangeMade
import Derived.DataReads
import GoSem.ClaimChange
import Derived.Below
set_option linter.all false
namespace Go.Proofs.YteaknldbhmocpaaGreatDoor.Ev
open Go
section
section
variable {κ:Type} {El:κ→Type} {S:Sg κ El} {P:Program}
variable {c:Cx} {st:St κ El} {g:Gh} {a:Act} {w:World}
inductive Wd {κ:Type} {El:κ→Type}:D κ El→D κ El→Prop
 |leaf (d d') (h:Wk d d'):Wd d d'
 |agg (cs cs') (hl:cs.length=cs'.length) (h:∀(i:Nat) d d',cs[i]?=some d→cs'[i]?=some d'→Wd d d'):Wd (.agg cs) (.agg cs')
 |tup (cs cs') (hl:cs.length=cs'.length) (h:∀(i:Nat) d d',cs[i]?=some d→cs'[i]?=some d'→Wd d d'):Wd (.tup cs) (.tup cs')
 |cptr (cs cs' off) (hl:cs.length=cs'.length) (h:∀(i:Nat) d d',cs[i]?=some d→cs'[i]?=some d'→Wd d d'):Wd (.cptr cs off) (.cptr cs' off)
 |fn (f p p' c c') (hp:p.length=p'.length) (hc:c.length=c'.length) (h1:∀(i:Nat) d d',p[i]?=some d→p'[i]?=some d'→Wd d d') (h2:∀(i:Nat) d d',c[i]?=some d→c'[i]?=some d'→Wd d d') :
  Wd (.fn f p c) (.fn f p' c')
theorem Wd.refl (d:D κ El):Wd d d:=.leaf d d (.same d)
def WL (cs cs':List (D κ El)):Prop:=cs.length=cs'.length∧∀(i:Nat) d d',cs[i]?=some d→cs'[i]?=some d'→Wd d d'
theorem WL.refl (cs:List (D κ El)):WL cs cs:=⟨rfl,fun i d d' h1 h2=>by rw[h1]at h2;cases h2;exact .refl d⟩
theorem WL.nil:WL ([]:List (D κ El)) []:=.refl _
theorem WL.cons {d d':D κ El} {cs cs':List (D κ El)} (h:Wd d d') (hs:WL cs cs'):WL (d::cs) (d'::cs'):=by
 refine ⟨by simp[hs.1],fun i e e' h1 h2=>?_⟩;cases i with
 |zero=>simp only[yap,yak]at h1 h2;subst h1 h2;exact h
 |succ i=>exact hs.2 i e e' (by simpa using h1) (by simpa using h2)
theorem WL.app {cs cs' ds ds':List (D κ El)} (h:WL cs cs') (hs:WL ds ds'):WL (cs++ds) (cs'++ds'):=by
 refine ⟨by simp[h.1,hs.1],fun i e e' h1 h2=>?_⟩;by_cases hi:i<cs.length
 ·rw[yaz hi]at h1;rw[yaz (by rw[←h.1];exact hi)]at h2;exact h.2 i e e' h1 h2
 ·rw[yaA (by omega)]at h1;rw[yaA (by rw[←h.1];omega),←h.1]at h2;exact hs.2 _ e e' h1 h2
theorem WL.get {cs cs':List (D κ El)} (h:WL cs cs') {i:Nat} {d':D κ El} (hd:cs'[i]?=some d'):∃d,cs[i]?=some d∧Wd d d':=by
 have hi:i<cs.length:=by rw[h.1];exact (zL hd)
 exact ⟨cs[i],yab hi,h.2 i _ _ (yab hi) hd⟩
theorem Wd.dr {I J:Nat→Nat→Prop} {d d':D κ El} (h:Wd d d'):∀{v:Value},DR S w I J v d→DR S w I J v d':=by
 induction h with
 |leaf d d' h=>intro v hv;exact h.dr hv
 |agg cs cs' hl h ih=>
  intro v hv;cases hv with
  |agg vs _ hs h1=>
   refine .agg vs cs' (by rw[hs,hl]) (fun i v d' e1 e2=>?_);obtain ⟨d,e3,_⟩:=WL.get ⟨hl,h⟩ e2;exact ih i d d' e3 e2 (h1 i v d e1 e3)
 |tup cs cs' hl h ih=>
  intro v hv;cases hv with
  |tup vs _ hs h1=>
   refine .tup vs cs' (by rw[hs,hl]) (fun i v d' e1 e2=>?_);obtain ⟨d,e3,_⟩:=WL.get ⟨hl,h⟩ e2;exact ih i d d' e3 e2 (h1 i v d e1 e3)
 |cptr cs cs' off hl h ih=>
  intro v hv;cases hv with
  |cptr b o _ _ cv hc h1=>
   refine .cptr b o cs' off cv (fun j hj=>hc j (by rw[hl];exact hj)) (fun j d' e2=>?_);obtain ⟨d,e3,_⟩:=WL.get ⟨hl,h⟩ e2;exact ih j d d' e3 e2 (h1 j d e3)
 |fn f p p' c c' hp hc h1 h2 ih1 ih2=>
  intro v hv;cases hv with
  |fn _ pv cv _ _ hpv hcv g1 g2=>
   refine .fn f pv cv p' c' (by rw[hpv,hp]) (by rw[hcv,hc]) (fun i v d' e1 e2=>?_) (fun i v d' e1 e2=>?_)
   ·obtain ⟨d,e3,_⟩:=WL.get ⟨hp,h1⟩ e2;exact ih1 i d d' e3 e2 (g1 i v d e1 e3)
   ·obtain ⟨d,e3,_⟩:=WL.get ⟨hc,h2⟩ e2;exact ih2 i d d' e3 e2 (g2 i v d e1 e3)
theorem Wk.vr {d d':D κ El} (h:Wk d d') {v:Value} (hv:VR S w g v d):VR S w g v d':=by
 cases h with
 |same=>exact hv
 |lsn k xs=>exact .data (hv.lsn_inv.lsn_lst.1)
 |nil k=>rw[hv.nil_inv];exact .data (.lst0 _ _ _ (fun _=>rfl))
theorem Wd.vr {d d':D κ El} (h:Wd d d'):∀{v:Value},VR S w g v d→VR S w g v d':=by
 induction h with
 |leaf d d' h=>intro v hv;exact h.vr hv
 |agg cs cs' hl h ih=>
  intro v hv;obtain ⟨vs,rfl,hs,h1⟩:=hv.agg_inv;refine .agg vs cs' (by rw[hs,hl]) (fun i v d' e1 e2=>?_);obtain ⟨d,e3,_⟩:=WL.get ⟨hl,h⟩ e2;exact ih i d d' e3 e2 (h1 i v d e1 e3)
 |tup cs cs' hl h ih=>
  intro v hv;obtain ⟨vs,rfl,hs,h1⟩:=hv.tup_inv;refine .tup vs cs' (by rw[hs,hl]) (fun i v d' e1 e2=>?_);obtain ⟨d,e3,_⟩:=WL.get ⟨hl,h⟩ e2;exact ih i d d' e3 e2 (h1 i v d e1 e3)
 |cptr cs cs' off hl h ih=>
  intro v hv;exact .data ((Wd.cptr cs cs' off hl h).dr hv.cptr_inv)
 |fn f p p' c c' hp hc h1 h2 ih1 ih2=>
  intro v hv;obtain ⟨pv,cv,rfl,hpv,hcv,g1,g2⟩:=hv.fn_inv;refine .fn f pv cv p' c' (by rw[hpv,hp]) (by rw[hcv,hc]) (fun i v d' e1 e2=>?_) (fun i v d' e1 e2=>?_)
  ·obtain ⟨d,e3,_⟩:=WL.get ⟨hp,h1⟩ e2;exact ih1 i d d' e3 e2 (g1 i v d e1 e3)
  ·obtain ⟨d,e3,_⟩:=WL.get ⟨hc,h2⟩ e2;exact ih2 i d d' e3 e2 (g2 i v d e1 e3)
theorem WL.box {blk:Nat} {cs cs':List (D κ El)} (h:WL cs cs') (hb:c6t S w g blk cs):c6t S w g blk cs':=by
 obtain ⟨vals,t,h1,h2,h3⟩:=hb;refine ⟨vals,t,h1,by rw[h2,h.1],fun i v d' e1 e2=>?_⟩;obtain ⟨d,e3,e4⟩:=h.get e2;exact e4.vr (h3 i v d e1 e3)
theorem WL.boxD {I J:Nat→Nat→Prop} {blk:Nat} {cs cs':List (D κ El)} (h:WL cs cs') (hb:d3v S w I J blk cs):d3v S w I J blk cs':=by
 obtain ⟨vals,t,h1,h2,h3⟩:=hb;refine ⟨vals,t,h1,by rw[h2,h.1],fun i v d' e1 e2=>?_⟩;obtain ⟨d,e3,e4⟩:=h.get e2;exact e4.dr (h3 i v d e1 e3)
theorem WL.args {I J:Nat→Nat→Prop} {vs:Array Value} {cs cs':List (D κ El)} (h:WL cs cs') (ha:b6v S w I J vs cs):b6v S w I J vs cs':=by
 refine ⟨by rw[ha.1,h.1],fun i v d' e1 e2=>?_⟩;obtain ⟨d,e3,e4⟩:=h.get e2;exact e4.dr (ha.2 i v d e1 e3)
end
section
variable {κ:Type} {El:κ→Type} {α β γ:Type}
def f8 (c:Cod κ El α):Prop:=∀d a,c.dec d=some a→Wd d (c.enc a)
def j8 (c:CC κ El α):Prop:=∀ds a,c.dec ds=some a→WL ds (c.enc a)
def e3x (c:BC κ El α):Prop:=∀bs b,c.dec bs=some b→bs.length=(c.enc b).length∧∀(j:Nat) cs cs',bs[j]?=some cs→(c.enc b)[j]?=some cs'→WL cs cs'
theorem f8.int (k:IntKind):f8 (Cod.int k:Cod κ El Int):=by
 intro d a h;unfold Cod.int at h ⊢;simp only at h ⊢;split at h
 ·rename_i k' n;rw[c4]at h;split at h
  ·rename_i hk;rw[a64 hk];cases h;exact .refl _
  ·cases h
 ·cases h
theorem f8.bool:f8 (Cod.bool:Cod κ El Bool):=by
 intro d a h;unfold Cod.bool at h ⊢;simp only at h ⊢;split at h
 ·cases h;exact .refl _
 ·cases h
theorem f8.str:f8 (Cod.str:Cod κ El (List UInt8)):=by
 intro d a h;unfold Cod.str at h ⊢;simp only at h ⊢;split at h
 ·cases h;exact .refl _
 ·cases h
theorem a1w [KdEq κ] {k k':κ} {xs:List (El k)} {ys:List (El k')} (h:a55 xs=some ys):∃e:k=k',e▸xs=ys:=by
 unfold a55 at h;split at h
 ·rename_i e _;cases h
  exact ⟨e.down,rfl⟩
 ·cases h
theorem f8.lst [KdEq κ] (k:κ):f8 (Cod.lst k:Cod κ El (List (El k))):=by
 intro d a h;unfold Cod.lst at h ⊢;simp only at h ⊢;split at h
 ·obtain ⟨e,h'⟩:=a1w h;subst e;cases h';exact .refl _
 ·obtain ⟨e,h'⟩:=a1w h;subst e;cases h';exact .leaf _ _ (.lsn _ _)
 ·cases h;exact .leaf _ _ (.nil _)
 ·cases h
theorem f8.lsn [KdEq κ] (k:κ):f8 (Cod.lsn k:Cod κ El (List (El k))):=by
 intro d a h;unfold Cod.lsn at h ⊢;simp only at h ⊢;split at h
 ·obtain ⟨e,h'⟩:=a1w h;subst e;cases h';exact .refl _
 ·cases h
theorem f8.agg {c:CC κ El α} (hc:j8 c):f8 (Cod.agg c):=by
 intro d a h;unfold Cod.agg at h ⊢;simp only at h ⊢;split at h
 ·have:=hc _ _ h;exact .agg _ _ this.1 this.2
 ·cases h
theorem f8.cptr {c:CC κ El α} (hc:j8 c):f8 (Cod.cptr c):=by
 intro d a h;unfold Cod.cptr at h ⊢;simp only at h ⊢;split at h
 ·have:=hc _ _ h;exact .cptr _ _ _ this.1 this.2
 ·cases h
theorem f8.tup {c:CC κ El α} (hc:j8 c):f8 (Cod.tup c):=by
 intro d a h;unfold Cod.tup at h ⊢;simp only at h ⊢;split at h
 ·have:=hc _ _ h;exact .tup _ _ this.1 this.2
 ·cases h
theorem f8.unit:f8 (Cod.unit:Cod κ El Unit):=by
 intro d a h;unfold Cod.unit at h ⊢;simp only at h ⊢;split at h
 ·exact .refl _
 ·cases h
theorem f8.ptrc (n:Nat):f8 (Cod.ptrc n:Cod κ El Unit):=by
 intro d a h;unfold Cod.ptrc at h ⊢;simp only at h ⊢;split at h
 ·rw[c4]at h;split at h
  ·rename_i hb;rw[yaT]at hb;rw[hb];exact .refl _
  ·cases h
 ·cases h
theorem f8.fnc (f:Nat) {p:CC κ El α} {c:CC κ El β} (hp:j8 p) (hc:j8 c):f8 (Cod.fnc f p c):=by
 intro d a h;unfold Cod.fnc at h ⊢;simp only at h ⊢;split at h
 ·rw[c4]at h;split at h
  ·rename_i hf;rw[yaT]at hf;subst hf;split at h
   ·rename_i x hx;split at h
    ·rename_i y hy;cases h
     have h1:=hp _ _ hx;have h2:=hc _ _ hy;exact .fn _ _ _ _ _ h1.1 h2.1 h1.2 h2.2
    ·cases h
   ·cases h
  ·cases h
 ·cases h
theorem f8.iso {c:Cod κ El β} {to:β→α} {frm:α→β} (hc:f8 c) (h0:∀b,frm (to b)=b):f8 (c.iso to frm):=by
 intro d a h;unfold Cod.iso at h ⊢;simp only at h ⊢;split at h
 ·rename_i b hb;cases h
  rw[h0];exact hc _ _ hb
 ·cases h
theorem f8.tup2 {c:CC κ El (α×β×Unit)} (hc:j8 c):f8 (Cod.tup2 c):=(f8.tup hc).iso (fun _=>rfl)
theorem f8.tup3 {c:CC κ El (α×β×γ×Unit)} (hc:j8 c):f8 (Cod.tup3 c):=(f8.tup hc).iso (fun _=>rfl)
theorem j8.nil:j8 (CC.nil:CC κ El Unit):=by
 intro d a h;unfold CC.nil at h ⊢;simp only at h ⊢;split at h
 ·exact .nil
 ·cases h
theorem j8.cons {c:Cod κ El α} {r:CC κ El β} (hc:f8 c) (hr:j8 r):j8 (CC.cons c r):=by
 intro d a h;unfold CC.cons at h ⊢;simp only at h ⊢;split at h
 ·split at h
  ·rename_i x hx;split at h
   ·rename_i y hy;cases h
    exact .cons (hc _ _ hx) (hr _ _ hy)
   ·cases h
  ·cases h
 ·cases h
theorem j8.part (n:Nat) {c:CC κ El α} {r:CC κ El β} (hc:j8 c) (hr:j8 r):j8 (CC.part n c r):=by
 intro d a h;unfold CC.part at h ⊢;simp only at h ⊢;split at h
 ·rename_i x hx;split at h
  ·rename_i y hy;cases h
   have:=(hc _ _ hx).app (hr _ _ hy)
   rwa [List.take_append_drop]at this
  ·cases h
 ·cases h
theorem j8.iso {c:CC κ El β} {enc:α→List (D κ El)} {to:β→α} (hc:j8 c) (h0:∀b,enc (to b)=c.enc b):j8 (c.iso enc to):=by
 intro d a h;unfold CC.iso at h ⊢;simp only at h ⊢;split at h
 ·rename_i b hb;cases h
  rw[h0];exact hc _ _ hb
 ·cases h
theorem j8.one {c:Cod κ El α} (hc:f8 c):j8 (CC.one c):=(j8.cons hc j8.nil).iso (fun _=>rfl)
theorem e3x.one {c:CC κ El α} (hc:j8 c):e3x (BC.one c):=by
 intro d a h;unfold BC.one at h ⊢;simp only at h ⊢;split at h
 ·refine ⟨rfl,fun j cs cs' h1 h2=>?_⟩;cases j with
  |zero=>simp only[yap,yak]at h1 h2;subst h1 h2;exact hc _ _ h
  |succ j=>simp at h1
 ·cases h
theorem e3x.nil:e3x (BC.nil:BC κ El Unit):=by
 intro d a h;unfold BC.nil at h ⊢;simp only at h ⊢;split at h
 ·exact ⟨rfl,fun j cs cs' h1 h2=>by simp at h1⟩
 ·cases h
theorem e3x.cons {c:CC κ El α} {r:BC κ El β} (hc:j8 c) (hr:e3x r):e3x (BC.cons c r):=by
 intro d a h;unfold BC.cons at h ⊢;simp only at h ⊢;split at h
 ·split at h
  ·rename_i x hx;split at h
   ·rename_i y hy;cases h
    have h1:=hr _ _ hy;refine ⟨by simp[h1.1],fun j cs cs' e1 e2=>?_⟩;cases j with
    |zero=>simp only[yap,yak]at e1 e2;subst e1 e2;exact hc _ _ hx
    |succ j=>exact h1.2 j cs cs' (by simpa using e1) (by simpa using e2)
   ·cases h
  ·cases h
 ·cases h
def b6w (n:Nat) (A A':Ar κ El):Prop:=(A.dead=false∧((A'=A)∨(A'={A with sealed:=true}∧n≠MA)))∨(A.dead=true∧A'=A)
structure FW (st st':St κ El) (bs as:List Nat):Prop where
 env:∀s d',b9 s st'.env=some d'→∃d,b9 s st.env=some d∧Wd d d'
 bx:∀b cs',b9 b st'.bx=some cs'→∃cs,b9 b st.bx=some cs∧WL cs cs'
 bn:∀b,b∈bs→(b9 b st'.bx).isSome=true
 ar:∀n A',b9 n st'.ar=some A'→∃A,b9 n st.ar=some A∧b6w n A A'
 an:∀n,n∈as→(b9 n st'.ar).isSome=true
def a30 (fc:FC κ El α):Prop:=∀st a,fc.dec st=some a→FW st (fc.enc a) fc.bs fc.as
theorem a30.nil:a30 (FC.nil:FC κ El Unit):=fun st a h=>⟨fun s d h=>(by cases h),fun s d h=>(by cases h),fun b h=>(by cases h),fun s d h=>(by cases h),fun b h=>(by cases h)⟩
theorem FW.slot {st st':St κ El} {bs as:List Nat} (h:FW st st' bs as) {s:Nat} {d d':D κ El} (hs:b9 s st.env=some d) (hd:Wd d d'):FW st {st' with env:=(s,d')::st'.env} bs as where
 env:=fun s0 d0 h0=>by
  replace h0:b9 s0 ((s,d')::st'.env)=some d0:=h0;rw[e8]at h0;split at h0
  ·rename_i e;subst e;cases h0;exact ⟨d,hs,hd⟩
  ·exact h.env s0 d0 h0
 bx:=h.bx
 bn:=h.bn
 ar:=h.ar
 an:=h.an
theorem a30.slot (s:Nat) {c:Cod κ El α} {r:FC κ El β} (hc:f8 c) (hr:a30 r):a30 (FC.slot s c r):=by
 intro st a h;unfold FC.slot at h ⊢;simp only at h ⊢;split at h
 ·rename_i d hd;split at h
  ·rename_i x hx;split at h
   ·rename_i y hy;cases h
    exact (hr _ _ hy).slot hd (hc _ _ hx)
   ·cases h
  ·cases h
 ·cases h
theorem a30.ptr (s b:Nat) {r:FC κ El β} (hr:a30 r):a30 (FC.ptr s b r):=by
 intro st a h;unfold FC.ptr at h ⊢;simp only at h ⊢;split at h
 ·rename_i b' hd;rw[c4]at h;split at h
  ·rename_i hb;rw[yaT]at hb;subst hb;exact (hr _ _ h).slot hd (.refl _)
  ·cases h
 ·cases h
theorem a30.arr (s b:Nat) {r:FC κ El β} (hr:a30 r):a30 (FC.arr s b r):=by
 intro st a h;unfold FC.arr at h ⊢;simp only at h ⊢;split at h
 ·rename_i b' hd;rw[c4]at h;split at h
  ·rename_i hb;rw[yaT]at hb;subst hb;exact (hr _ _ h).slot hd (.refl _)
  ·cases h
 ·cases h
theorem a30.nilS (s:Nat) {r:FC κ El β} (hr:a30 r):a30 (FC.nilS s r):=by
 intro st a h;unfold FC.nilS at h ⊢;simp only at h ⊢;split at h
 ·rename_i hd;exact (hr _ _ h).slot hd (.refl _)
 ·cases h
theorem b1h:∀{l:List (D κ El)} {ns:List Nat},b9p l ns=true→l=ns.map (fun b=>.ptr b 0):=by
 intro l
 induction l with
 |nil=>intro ns h;cases ns with|nil=>rfl|cons n ns=>cases h
 |cons d l ih=>
  intro ns h;unfold b9p at h;split at h
  ·rename_i heq;first|cases heq|(rename_i heq;cases heq)
  ·rename_i b l' b' ns' heq;obtain ⟨rfl,rfl⟩:=yb7 heq;rw[yad,yaT]at h;obtain ⟨rfl,h2⟩:=h;rw[ih h2];rfl
  ·cases h
theorem a30.clo (s f:Nat) (pre caps:List Nat) {r:FC κ El β} (hr:a30 r):a30 (FC.clo s f pre caps r):=by
 intro st a h;unfold FC.clo at h ⊢;simp only at h ⊢;split at h
 ·rename_i f' ps cs hd;rw[c4]at h;split at h
  ·rename_i hb;rw[yad,yad,yaT]at hb;obtain ⟨rfl,h1,h2⟩:=hb;rw[b1h h1,b1h h2]at hd;exact (hr _ _ h).slot hd (.refl _)
  ·cases h
 ·cases h
theorem FL.chk_eq {x:FL} {d:D κ El} (h:x.chk d=true):d=x.enc:=by
 unfold FL.chk at h;split at h
 ·rw[yad]at h;rw[ya5.1 h.2,a64 h.1];rfl
 ·rfl
 ·rw[yaT]at h;subst h;rfl
 ·rfl
 ·cases h
theorem d5k:∀{xs:List FL} {ds:List (D κ El)},g6l xs ds=true→ds=xs.map FL.enc:=by
 intro xs
 induction xs with
 |nil=>intro ds h;cases ds with|nil=>rfl|cons d ds=>cases h
 |cons x xs ih=>
  intro ds h;cases ds with
  |nil=>cases h
  |cons d ds=>
   simp only[g6l,yad]at h;rw[FL.chk_eq h.1,ih h.2];rfl
theorem a30.fix (s:Nat) (x:FL) {r:FC κ El β} (hr:a30 r):a30 (FC.fix s x r):=by
 intro st a h;unfold FC.fix at h ⊢;simp only at h ⊢;split at h
 ·rename_i d hd;rw[c4]at h;split at h
  ·rename_i hb;rw[FL.chk_eq hb]at hd;exact (hr _ _ h).slot hd (.refl _)
  ·cases h
 ·cases h
theorem a30.fixa (s:Nat) (xs:List FL) {r:FC κ El β} (hr:a30 r):a30 (FC.fixa s xs r):=by
 intro st a h;unfold FC.fixa at h ⊢;simp only at h ⊢;split at h
 ·rename_i ds hd;rw[c4]at h;split at h
  ·rename_i hb;rw[d5k hb]at hd;exact (hr _ _ h).slot hd (.refl _)
  ·cases h
 ·cases h
theorem a30.fixb (b:Nat) (xs:List FL) {r:FC κ El β} (hr:a30 r):a30 (FC.fixb b xs r):=by
 intro st a h;unfold FC.fixb at h ⊢;simp only at h ⊢;split at h
 ·rename_i ds hd;rw[c4]at h;split at h
  ·rename_i hb;rw[d5k hb]at hd;have h1:=hr _ _ h;refine ⟨h1.env,fun b0 cs0 h0=>?_,fun b0 h0=>?_,h1.ar,h1.an⟩
   ·replace h0:b9 b0 ((b,xs.map FL.enc)::(r.enc a).bx)=some cs0:=h0;rw[e8]at h0;split at h0
    ·rename_i e;subst e;cases h0;exact ⟨_,hd,.refl _⟩
    ·exact h1.bx b0 cs0 h0
   ·show (b9 b0 ((b,xs.map FL.enc)::(r.enc a).bx)).isSome=true
    rw[e8];split
    ·rfl
    ·rename_i e;rcases yaL.1 h0 with h0|h0
     ·exact absurd h0 e
     ·exact h1.bn b0 h0
  ·cases h
 ·cases h
theorem a30.box (b:Nat) {c:CC κ El α} {r:FC κ El β} (hc:j8 c) (hr:a30 r):a30 (FC.box b c r):=by
 intro st a h;unfold FC.box at h ⊢;simp only at h ⊢;split at h
 ·rename_i d hd;split at h
  ·rename_i x hx;split at h
   ·rename_i y hy;cases h
    have h1:=hr _ _ hy;refine ⟨h1.env,fun b0 cs0 h0=>?_,fun b0 h0=>?_,h1.ar,h1.an⟩
    ·replace h0:b9 b0 ((b,c.enc x)::(r.enc y).bx)=some cs0:=h0;rw[e8]at h0;split at h0
     ·rename_i e;subst e;cases h0;exact ⟨d,hd,hc _ _ hx⟩
     ·exact h1.bx b0 cs0 h0
    ·show (b9 b0 ((b,c.enc x)::(r.enc y).bx)).isSome=true
     rw[e8];split
     ·rfl
     ·rename_i e;rcases yaL.1 h0 with h0|h0
      ·exact absurd h0 e
      ·exact h1.bn b0 h0
   ·cases h
  ·cases h
 ·cases h
theorem a30.own [KdEq κ] (n:Nat) (k:κ) (sealed:Bool) {r:FC κ El β} (hr:a30 r):a30 (FC.own n k sealed r):=by
 intro st a h;unfold FC.own at h ⊢;simp only at h ⊢;split at h
 ·rename_i A hA;rw[c4]at h;split at h
  ·rename_i hok;simp only[yad,yan,yaT]at hok;split at h
   ·rename_i xs hx;split at h
    ·rename_i y hy;cases h
     have h1:=hr _ _ hy;obtain ⟨e,h'⟩:=a1w hx;have hS:b6w n A (⟨k,xs,0,sealed,false⟩:Ar κ El):=by
      obtain ⟨Ak,Axs,Av,As,Ad⟩:=A;simp only at e h' hok;subst e;cases h'
      obtain ⟨⟨rfl,rfl⟩,h3⟩:=hok;refine .inl ⟨rfl,?_⟩;cases sealed with
      |true=>exact .inr ⟨rfl,fun e=>by rw[e]at h3;simp at h3⟩
      |false=>simp at h3;subst h3;exact .inl rfl
     refine ⟨h1.env,h1.bx,h1.bn,fun n0 A0 h0=>?_,fun n0 h0=>?_⟩
     ·replace h0:b9 n0 ((n,(⟨k,xs,0,sealed,false⟩:Ar κ El))::(r.enc y).ar)=some A0:=h0;rw[e8]at h0;split at h0
      ·rename_i e;subst e;cases h0;exact ⟨A,hA,hS⟩
      ·exact h1.ar n0 A0 h0
     ·show (b9 n0 ((n,(⟨k,xs,0,sealed,false⟩:Ar κ El))::(r.enc y).ar)).isSome=true
      rw[e8];split
      ·rfl
      ·rename_i e;rcases yaL.1 h0 with h0|h0
       ·exact absurd h0 e
       ·exact h1.an n0 h0
    ·cases h
   ·cases h
  ·cases h
 ·cases h
theorem a30.map [KdEq κ] (n:Nat) (k:κ) {r:FC κ El β} (hr:a30 r):a30 (FC.map n k r):=by
 intro st a h;unfold FC.map at h ⊢;simp only at h ⊢;split at h
 ·rename_i A hA;rw[c4]at h;split at h
  ·rename_i hok;unfold d3z at hok;simp only[yad,yaT]at hok;split at h
   ·rename_i xs hx;split at h
    ·rename_i y hy;cases h
     have h1:=hr _ _ hy;obtain ⟨e,h'⟩:=a1w hx;have hS:b6w n A (⟨k,xs,0,true,true⟩:Ar κ El):=by
      obtain ⟨Ak,Axs,Av,As,Ad⟩:=A;simp only at e h' hok;subst e;cases h'
      obtain ⟨rfl,rfl,rfl⟩:=hok;exact .inr ⟨rfl,rfl⟩
     refine ⟨h1.env,h1.bx,h1.bn,fun n0 A0 h0=>?_,fun n0 h0=>?_⟩
     ·replace h0:b9 n0 ((n,(⟨k,xs,0,true,true⟩:Ar κ El))::(r.enc y).ar)=some A0:=h0;rw[e8]at h0;split at h0
      ·rename_i e;subst e;cases h0;exact ⟨A,hA,hS⟩
      ·exact h1.ar n0 A0 h0
     ·show (b9 n0 ((n,(⟨k,xs,0,true,true⟩:Ar κ El))::(r.enc y).ar)).isSome=true
      rw[e8];split
      ·rfl
      ·rename_i e;rcases yaL.1 h0 with h0|h0
       ·exact absurd h0 e
       ·exact h1.an n0 h0
    ·cases h
   ·cases h
  ·cases h
 ·cases h
end
end
section
section
variable {κ:Type} {El:κ→Type} {S:Sg κ El} {P:Program}
variable {c:Cx} {st:St κ El} {g:Gh} {a:Act} {w:World} {α β:Type}
theorem Rel.sealSome (sgk:SgOk S) {st':St κ El}:∀(l:List Nat) {st:St κ El} {g:Gh},Rel S c st g a w→(∀n∈l,n≠MA∧∃A,b9 n st.ar=some A∧A.dead=false)→
 ∃g' st2,Rel S c st2 g' a w∧st2.env=st.env∧st2.bx=st.bx∧∀n,b9 n st2.ar=if n∈l then (b9 n st.ar).map (fun A=>{A with sealed:=true}) else b9 n st.ar:=by
 intro l
 induction l with
 |nil=>intro st g hr _;exact ⟨g,st,hr,rfl,rfl,fun n=>by simp⟩
 |cons m l ih=>
  intro st g hr hl;obtain ⟨hne,A,hA,hd⟩:=hl m (by simp);obtain ⟨g1,r1,-⟩:=hr.sealx sgk hA hd hne;obtain ⟨g2,st2,r2,e1,e2,e3⟩:=ih r1 (fun n hn=>by
   obtain ⟨hne',B,hB,hdB⟩:=hl n (by simp[hn]);refine ⟨hne',?_⟩;show ∃A',b9 n (a2n m {A with sealed:=true} st.ar)=some A'∧A'.dead=false
   rw[c5 hA];split
   ·exact ⟨_,rfl,hd⟩
   ·exact ⟨B,hB,hdB⟩)
  refine ⟨g2,st2,r2,e1,e2,fun n=>?_⟩;rw[e3];show (if n∈l then (b9 n (a2n m {A with sealed:=true} st.ar)).map (fun A=>{A with sealed:=true}) else b9 n (a2n m {A with sealed:=true} st.ar))=_
  rw[c5 hA];by_cases hm:n=m
  ·subst hm;simp only[yby,yaL,true_or,hA];split<;>rfl
  ·simp only[yas hm,yaL,hm,false_or];by_cases hl':n∈l<;>simp only[hl',yby,ybf]
theorem FW.rel (sgk:SgOk S) {st st':St κ El} {bs as:List Nat} (h:FW st st' bs as) (hb:∀b,(b9 b st.bx).isSome=true→b∈bs) (ha:∀n,(b9 n st.ar).isSome=true→n∈as) (hr:Rel S c st g a w) :
 ∃g',Rel S c st' g' a w:=by
 have hfil:∀n∈as.filter (fun n=>match b9 n st'.ar with|some A=>A.sealed&&!A.dead|none=>false),∃A A',b9 n st.ar=some A∧b9 n st'.ar=some A'∧A'.sealed=true∧A.dead=false∧((A'=A)∨(A'={A with sealed:=true}∧n≠MA)):=by
  intro n hn;rw[yaS]at hn;have hn2:=hn.2;split at hn2
  ·rename_i A' hA';obtain ⟨A,hA,hs⟩:=h.ar n A' hA';rw[yad,yan]at hn2;rcases hs with ⟨h1,h2⟩|⟨h1,rfl⟩
   ·exact ⟨A,A',hA,hA',hn2.1,h1,h2⟩
   ·rw[h1]at hn2;cases hn2.2
  ·cases hn2
 obtain ⟨g2,st2,r2,e1,e2,e3⟩:=hr.sealSome sgk (st':=st') (as.filter (fun n=>match b9 n st'.ar with|some A=>A.sealed&&!A.dead|none=>false)) (fun n hn=>by
  obtain ⟨A,A',hA,-,hse,hs⟩:=hfil n hn;refine ⟨fun e=>?_,A,hA,hs.1⟩;rcases hs.2 with h2|h2
  ·rw[h2,((hr.ar n A hA).own e).2]at hse;cases hse
  ·exact h2.2 e)
 have hlk:∀n,b9 n st2.ar=b9 n st'.ar:=by
  intro n;rw[e3];split
  ·rename_i hn;obtain ⟨A,A',hA,hA',hse,hs⟩:=hfil n hn;rw[hA,hA'];rcases hs.2 with rfl|⟨rfl,-⟩
   ·obtain ⟨Ak,Axs,Av,As,Ad⟩:=A';simp only at hse;subst hse;rfl
   ·rfl
  ·rename_i hn;cases hA':b9 n st'.ar with
   |none=>
    cases hA:b9 n st.ar with
    |none=>rfl
    |some A=>
     have:=h.an n (ha n (by rw[hA];rfl));rw[hA']at this;cases this
   |some A'=>
    obtain ⟨A,hA,hs⟩:=h.ar n A' hA';rw[hA];rcases (show A'=A∨(A.dead=false∧A'={A with sealed:=true}) from hs.elim (fun h=>h.2.imp id fun q=>⟨h.1,q.1⟩) fun h=>.inl h.2) with e|⟨hdd,e⟩
    ·rw[e]
    ·exfalso;apply hn;rw[yaS];exact ⟨ha n (by rw[hA];rfl),by rw[hA'];rw[e];simp[hdd]⟩
 refine ⟨g2,{r2 with env:=fun s d hs=>?_,bx:=fun b cs hb'=>?_,bd:=fun b blk hb'=>?_,ar:=fun n A hn=>r2.ar n A (by rw[hlk];exact hn),ad:=fun n hn=>by rw[←hlk];exact r2.ad n hn}⟩
 ·obtain ⟨d0,h1,h2⟩:=h.env s d hs;exact h2.vr (r2.env s d0 (by rw[e1];exact h1))
 ·obtain ⟨cs0,h1,h2⟩:=h.bx b cs hb';obtain ⟨blk,f1,f2,f3,f4⟩:=r2.bx b cs0 (by rw[e2];exact h1);exact ⟨blk,f1,f2,f3,h2.box f4⟩
 ·obtain ⟨cs,hcs⟩:=r2.bd b blk hb';rw[e2]at hcs;exact ybP.1 (h.bn b (hb b (by rw[hcs];rfl)))
theorem b2s {γ:Type} {l:List (Nat×γ)} {ns:List Nat} {b:Nat} (h:(b9 b (a4t l ns)).isSome=true):b∈ns:=by
 rw[a3b]at h;split at h
 ·assumption
 ·cases h
theorem b3g {ss bs as:List Nat} {st1:St κ El} (h:c6a ss bs as st=some st1):(∀b,(b9 b st1.bx).isSome=true→b∈bs)∧(∀n,(b9 n st1.ar).isSome=true→n∈as):=by
 unfold c6a at h;simp only[c4]at h;split at h
 ·cases h;exact ⟨fun b h=>b2s h,fun n h=>b2s h⟩
 ·cases h
theorem b9m {st st1:St κ El} {b o m:Nat} {kd:κ} (h:b9l st b o m kd=some st1):(∀b',(b9 b' st1.bx).isSome=(b9 b' st.bx).isSome)∧∀n,(b9 n st1.ar).isSome=true→(b9 n st.ar).isSome=true∨m=n:=by
 unfold b9l at h;split at h
 rotate_left
 ·cases h
 rename_i cs hcs;split at h
 ·split at h
  ·cases h
   refine ⟨fun b'=>?_,fun n hn=>?_⟩
   ·show (b9 b' (a2n b _ st.bx)).isSome=_
    rw[c5 hcs];split
    ·rename_i e;rw[e,hcs];rfl
    ·rfl
   ·replace hn:(b9 n ((m,(⟨kd,[],0,false,false⟩:Ar κ El))::st.ar)).isSome=true:=hn;rw[e8]at hn;split at hn
    ·rename_i e;exact .inr e.symm
    ·exact .inl hn
  ·cases h
 ·rw[c4]at h;split at h
  ·cases h;exact ⟨fun _=>rfl,fun n h=>.inl h⟩
  ·cases h
 ·cases h
theorem c6s:∀{ta:List (Nat×Nat×κ)} {st st1:St κ El},c3e st ta=some st1→(∀b,(b9 b st1.bx).isSome=(b9 b st.bx).isSome)∧∀n,(b9 n st1.ar).isSome=true→(b9 n st.ar).isSome=true∨∃t∈ta,t.2.1=n:=by
 intro ta
 induction ta with
 |nil=>intro st st1 h;cases h;exact ⟨fun _=>rfl,fun n h=>.inl h⟩
 |cons t ta ih=>
  obtain ⟨s,m,kd⟩:=t;intro st st1 h;simp only[c3e]at h;rw[c4]at h;split at h
  ·split at h
   ·rename_i st2 h2;obtain ⟨h1,h3⟩:=ih h;obtain ⟨h4,h5⟩:=b9m h2;refine ⟨fun b=>(h1 b).trans (h4 b),fun n hn=>?_⟩;rcases h3 n hn with h6|⟨t,ht,h6⟩
    ·rcases h5 n h6 with h7|h7
     ·exact .inl h7
     ·exact .inr ⟨_,yaE ..,h7⟩
    ·exact .inr ⟨t,by simp[ht],h6⟩
   ·cases h
  split at h
  ·split at h
   ·obtain ⟨h1,h2⟩:=ih h;refine ⟨h1,fun n hn=>?_⟩;rcases h2 n hn with h3|⟨t,ht,h3⟩
    ·replace h3:(b9 n ((m,(⟨kd,[],0,false,false⟩:Ar κ El))::st.ar)).isSome=true:=h3;rw[e8]at h3;split at h3
     ·rename_i e;exact .inr ⟨_,yaE ..,e.symm⟩
     ·exact .inl h3
    ·exact .inr ⟨t,by simp[ht],h3⟩
   ·cases h
  ·rw[c4]at h;split at h
   ·obtain ⟨h1,h2⟩:=ih h;exact ⟨h1,fun n hn=>(h2 n hn).imp id (fun ⟨t,ht,h3⟩=>⟨t,by simp[ht],h3⟩)⟩
   ·cases h
  ·cases h
theorem c6d:∀{l:List Nat} {st st1:St κ El},d3f st l=some st1→st1.bx=st.bx∧∀n,(b9 n st1.ar).isSome=true→(b9 n st.ar).isSome=true:=by
 intro l
 induction l with
 |nil=>intro st st1 h;cases h;exact ⟨rfl,fun n h=>h⟩
 |cons m l ih=>
  intro st st1 h;simp only[d3f]at h;split at h
  ·rename_i A hA;rw[c4]at h;split at h
   ·cases h
   ·obtain ⟨h1,h2⟩:=ih h;refine ⟨h1,fun n hn=>?_⟩;have h3:=h2 n hn;replace h3:(b9 n (a2n m {A with sealed:=true} st.ar)).isSome=true:=h3;rw[c5 hA]at h3;split at h3
    ·rename_i e;rw[e,hA];rfl
    ·exact h3
  ·cases h
theorem c52:∀{l:List Nat} {st st1:St κ El},c51 st l=some st1→(∀b,(b9 b st1.bx).isSome=true→(b9 b st.bx).isSome=true)∧∀n,(b9 n st1.ar).isSome=true→(b9 n st.ar).isSome=true:=by
 intro l
 induction l with
 |nil=>intro st st1 h;cases h;exact ⟨fun n h=>h,fun n h=>h⟩
 |cons m l ih=>
  intro st st1 h;simp only[c51]at h;split at h
  ·rename_i A hA;split at h
   ·rename_i env bx hd he hb;obtain ⟨h1,h2⟩:=ih h;refine ⟨fun b hb'=>?_,fun n hn=>?_⟩
    ·rw[←(b8t hb).1 b];exact h1 b hb'
    ·have h3:=h2 n hn;replace h3:(b9 n (a2n m {A with ver:=0} st.ar)).isSome=true:=h3;rw[c5 hA]at h3;split at h3
     ·rename_i e;rw[e,hA];rfl
     ·exact h3
   ·rw[c4]at h;split at h
    ·exact ih h
    ·cases h
   ·cases h
  ·cases h
theorem c5i {ta:List (Nat×Nat×κ)} {se ss bs as:List Nat} {st1:St κ El} (h:d9p ta se ss bs as st=some st1) (hta:∀t∈ta,t.2.1∈as) :
 (∀b,(b9 b st1.bx).isSome=true→b∈bs)∧(∀n,(b9 n st1.ar).isSome=true→n∈as):=by
 unfold d9p at h;split at h
 ·rename_i st2 h2;split at h
  ·rename_i st3 h3;split at h
   ·rename_i st4 h4;obtain ⟨a1,a2⟩:=b3g h2;obtain ⟨b1,b2⟩:=c6s h3;obtain ⟨c1,c2⟩:=c6d h4;obtain ⟨d1,d2⟩:=c52 h;refine ⟨fun b hb=>a1 b (by rw[←b1 b,←c1];exact d1 b hb),fun n hn=>?_⟩;rcases b2 n (c2 n (d2 n hn)) with h5|⟨t,ht,h5⟩
    ·exact a2 n h5
    ·rw[←h5];exact hta t ht
   ·cases h
  ·cases h
 ·cases h
def b4a (m:Nat) (ta:List (Nat×Nat×κ)) (bs as fbs fas:List Nat):Bool:=
 ta.all (fun t=>as.any (Nat.beq t.2.1))&&(bs.all (fun b=>fbs.any (Nat.beq b))&&(as.all (fun n=>fas.any (Nat.beq n))&&(bif Nat.beq m MA then as.any (Nat.beq MA) else Nat.ble m 1000&&(List.range m).all (fun j=>bs.any (Nat.beq (MB+j))))))
theorem b46 {m:Nat} {ta:List (Nat×Nat×κ)} {bs as fbs fas:List Nat} (h:b4a m ta bs as fbs fas=true) :
 (∀t∈ta,t.2.1∈as)∧(∀b∈bs,b∈fbs)∧(∀n∈as,n∈fas)∧∀c:Cx,c.ar=m→(∀j,j<c.mb.length→MB+j∈bs)∧(c.pv≠none→MA∈as):=by
 unfold b4a at h;simp only[yad]at h;refine ⟨fun t ht=>a2c.1 (yaj.1 h.1 t ht),fun b hb=>a2c.1 (yaj.1 h.2.1 b hb),fun n hn=>a2c.1 (yaj.1 h.2.2.1 n hn),
  fun c hc=>?_⟩
 have h4:=h.2.2.2;rw[c4]at h4;split at h4
 ·rename_i hm;rw[yaT]at hm;subst hm;have hb:=(Cx.ar_own hc).2;exact ⟨fun j hj=>(by rw[hb]at hj;cases hj),fun _=>a2c.1 h4⟩
 ·rw[yad,Nat.ble_eq]at h4;obtain ⟨h5,h6⟩:=Cx.ar_box hc (Nat.lt_of_le_of_lt h4.1 (by decide));exact ⟨fun j hj=>a2c.1 (yaj.1 h4.2 j (by simpa[h6]using hj)),fun hp=>absurd h5 hp⟩
theorem d62 (sgk:SgOk S) {d d':D κ El} {st':St κ El} (h:d61 st d=some (st',d')) (hr:Rel S c st g a w) :
 ∃g',Rel S c st' g' a w∧Le w g w g'∧st'.env=st.env∧st'.bx=st.bx∧(∀v,VR S w g v d→VR S w g' v d'):=by
 unfold d61 at h;split at h
 ·rename_i cs;split at h
  ·rename_i s1 cs1 h1;cases h
   obtain ⟨g1,r1,l1,b1,e1,x1,n1,v1⟩:=a0k sgk h1 hr;refine ⟨g1,r1,l1,e1,x1,fun v hv=>?_⟩;obtain ⟨vs,rfl,hs,hall⟩:=hv.agg_inv;refine .agg vs cs1 (by rw[hs,n1]) (fun i v d e2 e3=>?_);have hi:i<cs.length:=by rw[←n1];exact (zL e3)
   obtain ⟨d2,h3,h4⟩:=v1 i _ (yab hi);rw[e3]at h3;cases h3
   exact .data (h4 v (hall i v _ e2 (yab hi)))
  ·cases h
 ·cases h;exact ⟨g,hr,.refl w g,rfl,rfl,fun v hv=>hv⟩
 ·obtain ⟨g1,r1,l1,b1,e1,x1,v1⟩:=a5i sgk h hr;exact ⟨g1,r1,l1,e1,x1,fun v hv=>.data (v1 v hv)⟩
theorem g4m (s:Nat) (hr:Rel S c st g a w):Rel S c (h1e st s) g a w∧(h1e st s).bx=st.bx:=by
 unfold h1e;split
 ·rename_i cs hs;refine ⟨{hr with env:=fun s0 d0 h0=>?_},rfl⟩;replace h0:b9 s0 ((s,.agg (cs.map (h2q st.ar)))::st.env)=some d0:=h0;rw[e8]at h0;split at h0
  ·rename_i e;subst e;cases h0
   obtain ⟨vs,h1,h2,h3⟩:=(hr.env s0 _ hs).agg_inv;rw[h1];refine .agg vs _ (by rw[h2,ya1]) (fun i v d e1 e2=>?_);rw[yaM,ya0]at e2;obtain ⟨x,hx,rfl⟩:=e2;have hv:=h3 i v x e1 hx;unfold h2q;split
   ·split
    ·rw[c4];split
     ·exact .undef _
     ·exact hv
    ·exact .undef _
   ·exact hv
  ·exact hr.env s0 d0 h0
 ·exact ⟨hr,rfl⟩
theorem b1u (sgk:SgOk S):∀{l:List Nat} {st st1:St κ El} {g:Gh},a6v st l=some st1→Rel S c st g a w→(∃g',Rel S c st1 g' a w)∧st1.bx=st.bx:=by
 intro l
 induction l with
 |nil=>intro st st1 g h hr;cases h;exact ⟨⟨g,hr⟩,rfl⟩
 |cons s l ih=>
  intro st st1 g h hr;simp only[a6v]at h;rw[c4]at h;split at h
  ·obtain ⟨r2,e2⟩:=g4m (s-200000) hr;obtain ⟨h2,h3⟩:=ih h r2;exact ⟨h2,h3.trans e2⟩
  split at h
  ·rename_i d hd;split at h
   ·rename_i s1 d1 h1;obtain ⟨g1,r1,l1,e1,x1,v1⟩:=d62 sgk h1 hr;have r2:Rel S c {s1 with env:=(s,d1)::s1.env} g1 a w:=by
     refine {r1 with env:=fun s0 d0 h0=>?_};replace h0:b9 s0 ((s,d1)::s1.env)=some d0:=h0;rw[e8]at h0;split at h0
     ·rename_i e;subst e;cases h0
      exact v1 _ (hr.env s0 d hd)
     ·exact r1.env s0 d0 h0
    obtain ⟨h2,h3⟩:=ih h r2;exact ⟨h2,h3.trans x1⟩
   ·cases h
  ·cases h
theorem g1p (sgk:SgOk S) {m:Nat} {ta:List (Nat×Nat×κ)} {se ss bs as:List Nat} {fc:FC κ El α} (hf:a30 fc) (hh:b4a m ta bs as fc.bs fc.as=true) :
 ∀st st1 x,g41 ta se ss bs as st=some st1→fc.dec st1=some x→c6v P S m st (fc.enc x):=by
 intro st st1 x h hd c g a w hr hm;obtain ⟨k1,k2,k3,k4⟩:=b46 hh;unfold g41 at h;split at h
 rotate_left
 ·cases h
 rename_i st0 h0;obtain ⟨⟨g0,r0⟩,-⟩:=b1u sgk h0 hr;obtain ⟨g1,r1⟩:=e8w sgk h r0 (k4 c hm);obtain ⟨n1,n2⟩:=c5i h k1;exact (hf _ _ hd).rel sgk (fun b hb=>k2 b (n1 b hb)) (fun n hn=>k3 n (n2 n hn)) r1
theorem c4o (sgk:SgOk S):∀{l:List Nat} {st st1:St κ El} {g:Gh},b0l st l=some st1→Rel S c st g a w→∃g',Rel S c st1 g' a w:=by
 intro l
 induction l with
 |nil=>intro st st1 g h hr;cases h;exact ⟨g,hr⟩
 |cons b l ih=>
  intro st st1 g h hr;simp only[b0l]at h;split at h
  ·rename_i cs hb;split at h
   ·rename_i s1 cs1 h1;obtain ⟨g1,r1,l1,b1,e1,x1,n1,v1⟩:=a0k sgk h1 hr;have hb1:b9 b s1.bx=some cs:=by rw[x1];exact hb
    refine ih h (g:=g1) {r1 with bx:=fun b0 cs0 h0=>?_,bd:=fun b0 blk h0=>?_}
    ·replace h0:b9 b0 (a2n b cs1 s1.bx)=some cs0:=h0;rw[c5 hb1]at h0;split at h0
     ·rename_i e;subst e;cases h0
      obtain ⟨blk,f1,f2,f3,vals,t,f4,f5,f6⟩:=r1.bx b0 cs hb1;obtain ⟨blk0,q1,q2,q3,vals0,t0,q4,q5,q6⟩:=hr.bx b0 cs hb;have eb:blk0=blk:=by rw[b1]at f1;rw[f1]at q1;cases q1;rfl
      subst eb;rw[q4]at f4;cases f4
      refine ⟨blk0,f1,f2,f3,vals,t,q4,by rw[q5,n1],fun i v d k1 k2=>?_⟩;have hi:i<cs.length:=by rw[←n1];exact (zL k2)
      obtain ⟨d2,h3,h4⟩:=v1 i _ (yab hi);rw[k2]at h3;cases h3
      exact .data (h4 v (q6 i v _ k1 (yab hi)))
     ·exact r1.bx b0 cs0 h0
    ·obtain ⟨cs0,hcs0⟩:=r1.bd b0 blk h0;show ∃cs,b9 b0 (a2n b cs1 s1.bx)=some cs
     rw[c5 hb1];split
     ·exact ⟨_,rfl⟩
     ·exact ⟨_,hcs0⟩
   ·cases h
  ·cases h
theorem d2o (sgk:SgOk S) {m:Nat} {rs ps bs:List Nat} {fc:FC κ El α} (hf:a30 fc) (hh:b4a (κ:=κ) m [] bs [] fc.bs fc.as=true) :
 ∀st st1 x,b8h rs ps bs st=some st1→fc.dec st1=some x→c6v P S m st (fc.enc x):=by
 intro st st1 x h hd c g a w hr hm;obtain ⟨k1,k2,k3,k4⟩:=b46 hh;unfold b8h at h;split at h
 ·rename_i s1 h1;split at h
  ·rename_i s2 h2;obtain ⟨⟨g1,r1⟩,-⟩:=b1u sgk h1 hr;obtain ⟨g2,r2⟩:=c4o sgk h2 r1;obtain ⟨g3,r3⟩:=b0y h r2 (k4 c hm);obtain ⟨n1,n2⟩:=b3g h;exact (hf _ _ hd).rel sgk (fun b hb=>k2 b (n1 b hb)) (fun n hn=>k3 n (n2 n hn)) r3
  ·cases h
 ·cases h
theorem a6o {m:Nat} {pr:St κ El→Option (St κ El)} {fc:FC κ El α} {k:α→β} {b:β} (hp:∀st st1 x,pr st=some st1→fc.dec st1=some x→c6v P S m st (fc.enc x)) (h:b2p pr fc st k=some b) :
 ∃x,b=k x∧c6v P S m st (fc.enc x):=by
 unfold b2p at h;split at h
 ·rename_i st1 h1;split at h
  ·rename_i x h2;cases h;exact ⟨x,rfl,hp _ _ _ h1 h2⟩
  ·cases h
 ·cases h
end
end
section
theorem a54.mono {nt nt':Nat} (hle:nt≤nt'):∀{c:Code},a54 nt c→a54 nt' c:=by
 intro c
 induction c with
 |region id ops draw=>intro h o ho t ht;exact yaZ (h o ho t ht) hle
 |seq a b iha ihb=>intro h;exact ⟨iha h.1,ihb h.2⟩
 |cond c a b iha ihb=>intro h;exact ⟨iha h.1,ihb h.2⟩
 |block id c ih=>intro h;exact ih h
 |loop c ih=>intro h;exact ih h
 |scope c ih=>intro h;exact ih h
 |_=>intro _;trivial
structure FnOk (P:Program) (f:Nat) (fn:Func) (code:Code):Prop where
 at_:P.funcs[f]?=some fn
 name:(fn.name == "runtime.NumGoroutine")=false
 body:fn.body=some code
 dst:a54 fn.ntmps code
def a6n:List Nat→Bool
 | []=>true
 |n::l=>!l.any (Nat.beq n)&&a6n l
theorem a6m {fn:Func} {code:Code} (hb:fn.body=some code) (hn:a6n ((f9 code).map i7)=true):∀b∈f9 code,a0a fn (i7 b)=b:=by
 intro b hm;have key:∀{l:List Code},a6n (l.map i7)=true→∀b∈l,(l.find? fun c=>Nat.beq (i7 c) (i7 b))=some b:=by
  intro l
  induction l with
  |nil=>intro _ b h;cases h
  |cons c l ih=>
   intro hn b hb;simp only[ybq,a6n,yad,yan]at hn;rw[List.find?_cons];rcases yaL.1 hb with rfl|hb
   ·simp[a7s]
   ·have hne:Nat.beq (i7 c) (i7 b)=false:=by
     cases h:Nat.beq (i7 c) (i7 b) with
     |false=>rfl
     |true=>
      have:=yb6.1 hn.1 (i7 b) (ybb.2 ⟨b,hb,rfl⟩);exact absurd h this
    rw[hne];exact ih hn.2 b hb
 unfold a0a;simp only[hb,key hn b hm]
section
variable {κ:Type} {El:κ→Type} {S:Sg κ El} {P:Program}
variable {c:Cx} {st:St κ El} {g:Gh} {a:Act} {w:World}
theorem g4k {t:TypeId} {v0 v:Value} (h:(Instr.loadAt t v0).run P w=.ok v w):(do loadVar t (←asAddr v0):Sem Value).run P w=.ok v w:=by
 unfold Instr.loadAt at h;cases v0 with
 |pointer a=>
  cases a with
  |some a=>exact h
  |none=>exact absurd h (by simp[Instr.sureAddr,stuck])
 |_=>exact absurd h (by simp[Instr.sureAddr,stuck])
def b6q (tmps:Array Value):ResultVar→Sem Value
 |.tmp t=>pure (tmps.getD t undef)
 |.cell a t=>do loadVar t (←asAddr (tmps.getD a undef))
theorem c2w (ok:PrOk P) (sgk:SgOk S) {rv:ResultVar} {d:D κ El} (h:c2v P S st rv=some d) (hr:Rel S c st g a w) :
 ∃v,(b6q a.tmps rv).run P w=.ok v w∧VR S w g v d:=by
 cases rv with
 |tmp t=>
  simp only[c2v,yak]at h;subst h;exact ⟨_,rfl,hr.opd (.tmp t)⟩
 |cell p t=>
  simp only[c2v]at h;obtain ⟨d',hd,hl⟩:=c9k ok sgk h;cases hd
  obtain ⟨v,h1,h2⟩:=hl c g a w (a.tmps.getD p undef) hr (hr.opd (.tmp p));exact ⟨v,g4k h1,h2⟩
def LB (g:Gh) (b o:Nat):Prop:=∃n,n<MB∧g.bl n=some b
theorem b1r {st':St κ El} {d d':D κ El} (h:a0t st d=some (st',d')):noC.noCl d'=true∧noC d'=true:=by
 unfold a0t at h;split at h
 case h_7=>
  split at h
  ·rw[c4]at h;split at h
   ·cases h;exact ⟨rfl,rfl⟩
   ·cases h
  ·cases h
 case h_8=>cases h
 all_goals (cases h;exact ⟨rfl,rfl⟩)
theorem a4w:∀{cs cs':List (D κ El)} {st st':St κ El},y6 st cs=some (st',cs')→∀d∈cs',noC.noCl d=true:=by
 intro cs
 induction cs with
 |nil=>intro cs' st st' h d hd;cases h;cases hd
 |cons c cs ih=>
  intro cs' st st' h d hd;simp only[y6]at h;split at h
  ·rename_i s1 d1 h1;split at h
   ·rename_i s2 cs2 h2;cases h
    rcases yaL.1 hd with rfl|hd
    ·exact (b1r h1).1
    ·exact ih h2 d hd
   ·cases h
  ·cases h
theorem b4x (sgk:SgOk S) {d d':D κ El} {st':St κ El} (hd:c2u.resC d=true) (h:a6b st d=some (st',d')) (hr:Rel S c st g a w) :
 ∃g',Rel S c st' g' a w∧Le w g w g'∧g'.bl=g.bl∧st'.env=st.env∧st'.bx=st.bx∧(∀v,VR S w g v d→DR S w g'.I (LB g') v d'):=by
 unfold a6b at h;split at h
 ·rename_i cs;split at h
  ·rename_i st1 cs1 hd;cases h
   obtain ⟨g1,r1,l1,b1,e1,x1,n1,v1⟩:=a0k sgk hd hr;refine ⟨g1,r1,l1,b1,e1,x1,fun v hv=>?_⟩;obtain ⟨vs,rfl,hl,hvs⟩:=hv.agg_inv;refine .agg vs cs1 (by rw[hl,n1]) (fun i v d' hv' hd'=>?_);have hi:i<cs.length:=by rw[←n1];exact (zL hd')
   obtain ⟨d2,h2,h3⟩:=v1 i cs[i] (yab hi);rw[hd']at h2;cases h2
   exact (h3 v (hvs i v _ hv' (yab hi))).relendL sgk (a4w hd d' (yaf hd'))
  ·cases h
 ·cases hd
 ·rename_i b off;split at h
  ·rename_i cs hb;split at h
   ·rename_i st1 cs1 hdc;cases h
    obtain ⟨g1,r1,l1,b1,e1,x1,n1,v1⟩:=a0k sgk hdc hr;refine ⟨g1,r1,l1,b1,e1,x1,fun v hv=>?_⟩;obtain ⟨blk,rfl,hbl⟩:=hv.ptr_inv;obtain ⟨blk',hbl',_,_,vals,t,hh,hs,hvals⟩:=hr.bx b cs hb;rw[hbl]at hbl';cases hbl'
    have hbm:b<MB:=by
     simp only[c2u.resC,yan]at hd;rcases ybQ b MB with h|h
     ·exact h
     ·rw[Nat.ble_eq_true_of_le h]at hd;cases hd
    have key:DR S w g1.I (LB g1) (.pointer (some ⟨blk,0+off,none⟩)) (.cptr cs1 off):=by
     refine .cptr blk 0 cs1 off (fun j=>vals.getD j undef) (fun j hj=>?_) (fun j d' hd'=>?_)
     ·have hj':j<vals.size:=by rw[hs,←n1];exact hj
      refine ⟨by simp[World.cell?,hh,hj'],⟨b,hbm,by rw[b1];simpa using hbl⟩⟩
     ·have hi:j<cs.length:=by rw[←n1];exact (zL hd')
      have hi':j<vals.size:=by rw[hs];exact hi
      obtain ⟨d2,h2,h3⟩:=v1 j cs[j] (yab hi);rw[hd']at h2;cases h2
      exact (h3 _ (hvals j _ _ (by simp[hi']) (yab hi))).relendL sgk (a4w hdc d' (yaf hd'))
    rwa [yaH]at key
   ·cases h
  ·cases h
 ·obtain ⟨g1,r1,l1,b1,e1,x1,v1⟩:=a5i sgk h hr;exact ⟨g1,r1,l1,b1,e1,x1,fun v hv=>(v1 v hv).relend sgk (b1r h).2⟩
theorem LB.mono {g g':Gh} (hbl:g'.bl=g.bl) (H:Le w g w g') {v:Value} {d:D κ El} (h:DR S w g.I (LB g) v d):DR S w g'.I (LB g') v d:=
 h.mono H.I (fun b o ⟨n,hn,hb⟩=>⟨rfl,n,hn,by rw[hbl];exact hb⟩)
theorem b1t (sgk:SgOk S):∀{cs cs':List (D κ El)} {st st':St κ El} {g:Gh},(∀d∈cs,c2u.resC d=true)→a47 st cs=some (st',cs')→Rel S c st g a w→
 ∃g',Rel S c st' g' a w∧Le w g w g'∧g'.bl=g.bl∧st'.env=st.env∧st'.bx=st.bx∧Dat S w g g' (LB g') cs cs':=by
 intro cs
 induction cs with
 |nil=>
  intro cs' st st' g hN h hr;cases h
  exact ⟨g,hr,.refl w g,rfl,rfl,rfl,rfl,fun i d hd=>by simp at hd⟩
 |cons d cs ih=>
  intro cs' st st' g hN h hr;simp only[a47]at h;split at h
  ·rename_i st1 d1 hd1;split at h
   ·rename_i st2 cs2 hd2;cases h
    obtain ⟨g1,r1,l1,b1,e1,x1,v1⟩:=b4x sgk (hN d (by simp)) hd1 hr;obtain ⟨g2,r2,l2,b2,e2,x2,n2,v2⟩:=ih (fun d' hd'=>hN d' (by simp[hd'])) hd2 r1;refine ⟨g2,r2,l1.trans l2,b2.trans b1,e2.trans e1,x2.trans x1,by simp[n2],fun i d' hd'=>?_⟩;cases i with
    |zero=>
     simp only[yap,yak]at hd';subst hd';exact ⟨d1,rfl,fun v hv=>LB.mono b2 l2 (v1 v hv)⟩
    |succ i=>
     simp only[yaN]at hd' ⊢;obtain ⟨d2,h2,h3⟩:=v2 i d' hd';exact ⟨d2,h2,fun v hv=>h3 v (hv.mono l1)⟩
   ·cases h
  ·cases h
theorem b4u (sgk:SgOk S) {d d':D κ El} {st':St κ El} (hd:c2u d=true) (h:a5h st d=some (st',d')) (hr:Rel S c st g a w) :
 ∃g',Rel S c st' g' a w∧Le w g w g'∧g'.bl=g.bl∧st'.env=st.env∧st'.bx=st.bx∧(∀v,VR S w g v d→DR S w g'.I (LB g') v d'):=by
 unfold a5h at h;split at h
 ·rename_i f pre caps;unfold c2u at hd;rw[yad]at hd;split at h
  ·rename_i st1 pre1 hd1;split at h
   ·rename_i st2 caps1 hd2;cases h
    obtain ⟨g1,r1,l1,b1,e1,x1,n1,v1⟩:=b1t sgk (fun d hm=>yaj.1 hd.1 d hm) hd1 hr;obtain ⟨g2,r2,l2,b2,e2,x2,n2,v2⟩:=b1t sgk (fun d hm=>yaj.1 hd.2 d hm) hd2 r1;refine ⟨g2,r2,l1.trans l2,b2.trans b1,e2.trans e1,x2.trans x1,fun v hv=>?_⟩;obtain ⟨p,cp,rfl,hp,hc,w1,w2⟩:=hv.fn_inv;refine .fn f p cp pre1 caps1 (by rw[hp,n1]) (by rw[hc,n2]) (fun i v d e1 e2=>?_) (fun i v d e1 e2=>?_)
    ·have hi:i<pre.length:=by rw[←n1];exact (zL e2)
     obtain ⟨d2,h3,h4⟩:=v1 i _ (yab hi);rw[e2]at h3;cases h3
     exact LB.mono b2 l2 (h4 v (w1 i v _ e1 (yab hi)))
    ·have hi:i<caps.length:=by rw[←n2];exact (zL e2)
     obtain ⟨d2,h3,h4⟩:=v2 i _ (yab hi);rw[e2]at h3;cases h3
     exact h4 v ((w2 i v _ e1 (yab hi)).mono l1)
   ·cases h
  ·cases h
 ·rename_i hne;refine b4x sgk ?_ h hr;cases d<;>first|rfl|(simp[c2u]at hd;done)|exact absurd rfl (hne _ _ _)
theorem e0z (ok:PrOk P) (sgk:SgOk S):∀{rs:List ResultVar} {ds:List (D κ El)} {st st':St κ El} {g:Gh},c2t P S st rs=some (st',ds)→Rel S c st g a w→
 ∃g' vs,Rel S c st' g' a w∧Le w g w g'∧g'.bl=g.bl∧st'.env=st.env∧st'.bx=st.bx∧(rs.mapM (b6q a.tmps)).run P w=.ok vs w∧vs.length=ds.length∧
  ∀(i:Nat) v d,vs[i]?=some v→ds[i]?=some d→DR S w g'.I (LB g') v d:=by
 intro rs
 induction rs with
 |nil=>
  intro ds st st' g h hr;cases h
  exact ⟨g,[],hr,.refl w g,rfl,rfl,rfl,rfl,rfl,fun i v d h=>by simp at h⟩
 |cons rv rs ih=>
  intro ds st st' g h hr;simp only[c2t]at h;split at h
  ·rename_i d hd;rw[c4]at h;split at h
   ·rename_i hok;split at h
    ·rename_i st1 d1 h1;split at h
     ·rename_i st2 ds2 h2;cases h
      obtain ⟨v,e0,hv⟩:=c2w ok sgk hd hr;obtain ⟨g1,r1,l1,b1,e1,x1,v1⟩:=b4u sgk hok h1 hr;obtain ⟨g2,vs,r2,l2,b2,e2,x2,e3,hl,hall⟩:=ih h2 r1;refine ⟨g2,v::vs,r2,l1.trans l2,b2.trans b1,e2.trans e1,x2.trans x1,?_,by simp[hl],fun i v' d' k1 k2=>?_⟩
      ·simp only[List.mapM_cons,Sem.run_bind,e0,e3,Sem.run_pure,Result.andThen_ok]
      ·cases i with
       |zero=>
        simp only[yap,yak]at k1 k2;subst k1 k2;exact LB.mono b2 l2 (v1 v hv)
       |succ i=>exact hall i v' d' (by simpa using k1) (by simpa using k2)
     ·cases h
    ·cases h
   ·cases h
  ·cases h
theorem d3d (fn:Func) (tmps:Array Value):results fn tmps=(fn.results.mapM (b6q tmps) >>= fun vs=>pure (if h:vs.size=1 then vs[0] else .tuple vs)):=by
 unfold results;have e:(fun | .tmp t=>pure (tmps.getD t undef) | .cell p t=>do loadVar t (←asAddr (tmps.getD p undef)):ResultVar→Sem Value)=b6q tmps:=funext fun rv=>by cases rv<;>rfl
 rw[←e];rfl
def h1z:List Value→Value
 | [v]=>v
 |vs=>.tuple vs.toArray
theorem a5v {fn:Func} {vs:List Value} (h:(fn.results.toList.mapM (b6q a.tmps)).run P w=.ok vs w) :
 (results fn a.tmps).run P w=.ok (h1z vs) w:=by
 rw[d3d,Sem.run_bind,Array.mapM_eq_mapM_toList,Sem.run_map,h];simp only[Result.andThen_ok,Sem.run_pure]
 match vs with
 | []=>rfl
 | [v]=>rfl
 |v::u::vs=>rfl
theorem d45 (sgk:SgOk S):∀{m j:Nat} {bs:List (List (D κ El))} {st:St κ El} {g:Gh},b9k st m j=some bs→Rel S c st g a w→
 ∃g' st',Rel S c st' g' a w∧Le w g w g'∧g'.bl=g.bl∧bs.length=m∧∀(i:Nat) cs,bs[i]?=some cs→∃blk,g.bl (MB+(j+i))=some blk∧d3v S w g'.I (LB g') blk cs:=by
 intro m
 induction m with
 |zero=>intro j bs st g h hr;cases h;exact ⟨g,st,hr,.refl w g,rfl,rfl,fun i cs h=>by simp at h⟩
 |succ m ih=>
  intro j bs st g h hr;simp only[b9k]at h;split at h
  ·rename_i cs hb;split at h
   ·rename_i st1 cs1 h1;split at h
    ·rename_i l h2;cases h
     obtain ⟨g1,r1,l1,b1,e1,x1,n1,v1⟩:=a0k sgk h1 hr;obtain ⟨g2,st2,r2,l2,b2,hl,hall⟩:=ih h2 r1;refine ⟨g2,st2,r2,l1.trans l2,b2.trans b1,by simp[hl],fun i cs' hi=>?_⟩;cases i with
     |zero=>
      simp only[yap,yak]at hi;subst hi;obtain ⟨blk,f1,f2,f3,vals,t,f4,f5,f6⟩:=hr.bx _ cs hb;refine ⟨blk,f1,vals,t,f4,by rw[f5,n1],fun i v d k1 k2=>?_⟩;have hi:i<cs.length:=by rw[←n1];exact (zL k2)
      obtain ⟨d2,h3,h4⟩:=v1 i _ (yab hi);rw[k2]at h3;cases h3
      exact ((h4 v (f6 i v _ k1 (yab hi))).mono l2.I l2.J).relendL sgk (a4w h1 d (yaf k2))
     |succ i=>
      obtain ⟨blk,f1,f2⟩:=hall i cs' (by simpa using hi);refine ⟨blk,?_,f2⟩;rw[←b1,show j+(i+1)=j+1+i by omega];exact f1
    ·cases h
   ·cases h
  ·cases h
theorem a57 (ds:List (D κ El)) (bs:List (List (D κ El))) (s:Nat):b9 s (enter ds bs).env=ds[s]?:=by
 have key:∀(l:List (D κ El)) (k s:Nat),b9 s ((l.zipIdx k).map (fun p=>(p.2,p.1)))=if k≤s then l[s-k]? else none:=by
  intro l
  induction l with
  |nil=>intro k s;simp[b9]
  |cons x l ih=>
   intro k s;simp only[List.zipIdx_cons,ybq];rw[e8,ih];by_cases h:s=k
   ·subst h;simp
   ·rw[yas h];by_cases h2:k≤s
    ·rw[yaK (by omega),yaK h2,show s-k=(s-(k+1))+1 by omega,yaN]
    ·rw[yas (by omega),yas h2]
 have:=key ds 0 s;simpa[enter]using this
theorem a7e (ds:List (D κ El)) (bs:List (List (D κ El))) (s:Nat):b9 s (enter ds bs).bx=if MB≤s then bs[s-MB]? else none:=by
 have key:∀(l:List (List (D κ El))) (k s:Nat),b9 s ((l.zipIdx k).map (fun p=>(MB+p.2,p.1)))=if MB+k≤s then l[s-(MB+k)]? else none:=by
  intro l
  induction l with
  |nil=>intro k s;simp[b9]
  |cons x l ih=>
   intro k s;simp only[List.zipIdx_cons,ybq];rw[e8,ih];by_cases h:s=MB+k
   ·subst h;simp
   ·rw[yas h];by_cases h2:MB+k≤s
    ·rw[yaK (by omega),yaK h2,show s-(MB+k)=(s-(MB+(k+1)))+1 by omega,yaN]
    ·rw[yas (by omega),yas h2]
 have:=key bs 0 s;simpa[enter]using this
def a8g (I J:Nat→Nat→Prop) (bls:List Nat):Gh where
 I:=I
 J:=J
 bl:=fun n=>if MB≤n then bls[n-MB]? else none
 av:=fun _ _=>none
 vc:=fun _=>0
 ad:=fun _=>False
 az:=fun _=>0
 ow:=fun b=>(bls.findIdx? (· == b)).map (fun j=>.box (MB+j))
theorem c0h {I J:Nat→Nat→Prop} {bls:List Nat} {j:Nat}:(a8g I J bls).bl (MB+j)=bls[j]?:=by
 unfold a8g;simp only;generalize MB=M;rw[yaK (Nat.le_add_right _ _),Nat.add_sub_cancel_left]
theorem e8u {I J:Nat→Nat→Prop} {bls:List Nat} (hn:bls.Nodup) {j blk:Nat} (h:bls[j]?=some blk):(a8g I J bls).ow blk=some (.box (MB+j)):=by
 obtain ⟨hj,rfl⟩:=yaG.1 h;have:bls.findIdx? (· == bls[j])=some j:=by
  rw[List.findIdx?_eq_some_iff_getElem];refine ⟨hj,by simp,fun i hi=>?_⟩;have hne:bls[i]≠bls[j]:=fun e=>by
   exact (ya2.1 hn) i j (by omega) hj hi e
  simpa using hne
 simp[a8g,this]
theorem Rel.enter {I J:Nat→Nat→Prop} {vs:Array Value} {ds:List (D κ El)} {bs:List (List (D κ El))} {bls:List Nat} {n:Nat} (hp:Pre S w I J bls) (hn:bls.Nodup) (hbl:bls.length=bs.length) (hvs:vs.size=ds.length)
 (ha:∀(i:Nat) v d,vs[i]?=some v→ds[i]?=some d→g43 S w I J bls v d) (hb:∀(j:Nat) blk cs,bls[j]?=some blk→bs[j]?=some cs→d3v S w I J blk cs) (hlt:∀b∈bls,b<w.heap.size) :
 Rel S ⟨w,bls,vs.size+(n-vs.size),I,J,[],none⟩ (Ev.enter ds bs) (a8g I J bls) {tmps:=vs++Array.replicate (n-vs.size) undef,defers:=[]} w where
 nt:=by simp
 df:=rfl
 env:=fun s d hs=>by
  rw[a57]at hs;have hlt:s<vs.size:=by rw[hvs];exact (zL hs)
  have e:(vs++Array.replicate (n-vs.size) undef).getD s undef=vs[s]:=by
   simp[ybw,Array.getElem?_append,hlt]
  show VR S w _ ((vs++Array.replicate (n-vs.size) undef).getD s undef) d
  rw[e];rcases ha s vs[s] d (yao hlt) hs with ⟨j,blk,rfl,h1,h2⟩|h1
  ·rw[h2];exact .ptr _ _ _ (by rw[c0h];exact h1)
  ·exact .data h1
 bx:=fun b cs hs=>by
  rw[a7e]at hs;split at hs
  ·rename_i hm;have hlt:b-MB<bls.length:=by rw[hbl];exact (zL hs)
   have h1:bls[b-MB]?=some bls[b-MB]:=yab hlt;refine ⟨bls[b-MB],by simp only[a8g,yaK hm];exact h1,?_,fun o hi=>?_,?_⟩
   ·rw[e8u hn h1,Nat.add_sub_cancel' hm]
   ·exact (hp.jb _ _ (hp.ij _ _ hi)).2 (ybx hlt)
   ·obtain ⟨vals,t,k1,k2,k3⟩:=hb _ _ _ h1 hs;exact ⟨vals,t,k1,k2,fun i v d e1 e2=>.data (k3 i v d e1 e2)⟩
  ·cases hs
 bd:=fun b blk hs=>by
  simp only[a8g]at hs;split at hs
  ·rename_i hm;have hlt:b-MB<bs.length:=by rw[←hbl];exact (zL hs)
   exact ⟨bs[b-MB],by rw[a7e,yaK hm];exact yab hlt⟩
  ·cases hs
 ar:=fun n A h=>by cases h
 ad:=fun n h=>by cases h
 ib:=hp.ib
 ol:=fun b x h=>by
  simp only[a8g,ya0]at h;obtain ⟨j,hj,-⟩:=h;obtain ⟨h1,h2,-⟩:=List.findIdx?_eq_some_iff_getElem.1 hj;have:bls[j]=b:=by simpa using h2
  rw[←this];exact hlt _ (ybx h1)
 i0:=fun _ _ h=>h
 i1:=fun _ _ h=>.inl h
 ij:=hp.ij
 j0:=fun _ _ h=>h
 j1:=fun _ _ h=>.inr h
 jm:=fun b o h=>⟨(hp.jb b o h).1,(hp.jb b o h).2,by simp⟩
 old:=fun b _ hm _=>⟨rfl,by
  simp only[a8g,Option.map_eq_none_iff,List.findIdx?_eq_none_iff];intro x hx;simp;exact fun e=>hm (e▸hx)⟩
 mb:=fun j blk h=>by rw[c0h];exact h
 mo:=fun b h=>by cases h
 pa:=fun h=>absurd rfl h
 pn:=fun v h=>absurd rfl h
 sz:=yau _
 os:=rfl
 out:=rfl
 tape:=rfl
 gl:=hp.gl
 gb:=fun n k xs hg hx=>(hp.gb n k xs hg hx).imp_left (fun h hm=>h (by simpa using hm))
def a6g (I J:Nat→Nat→Prop) (sz:Nat) (v0:Value) (mo:List Nat):Gh where
 I:=I
 J:=J
 bl:=fun _=>none
 av:=fun n ver=>if n=MA then (if ver=0 then some v0 else none) else none
 vc:=fun _=>0
 ad:=fun n=>n=MA
 az:=fun _=>sz
 ow:=fun b=>if b∈mo then some (.arr MA) else none
theorem b89 (kd:κ) (xs:List (El kd)) (ds:List (D κ El)) (s:Nat):b9 s (enterA kd xs ds).env=(D.arr MA 0::ds)[s]?:=a57 (D.arr MA 0::ds) [] s
theorem Rel.enterA {I J:Nat→Nat→Prop} {vs:Array Value} {kd:κ} {xs:List (El kd)} {ds:List (D κ El)} {base:Option Addr} {cap:Nat} {mo:List Nat} {n:Nat} (hp:Pre S w I J mo) (hcap:xs.length≤cap)
 (ho:(cap=0∧mo=[])∨∃blk vals t,mo=[blk]∧base=some ⟨blk,0,none⟩∧w.heap[blk]?=some (.cells vals t (0,0))∧vals.size=cap*S.sz kd∧
  ∀i (hi:i<xs.length) j d,(S.enc kd xs[i])[j]?=some d→∃v,vals[i*S.sz kd+j]?=some v∧DR S w I J v d) (ha:b6v S w I J vs ds) :
 Rel S ⟨w,[],(#[Value.slice base xs.length cap]++vs).size+(n-(#[Value.slice base xs.length cap]++vs).size),I,J,mo,some (.slice base xs.length cap)⟩ (Ev.enterA kd xs ds) (a6g I J (S.sz kd) (.slice base xs.length cap) mo)
  {tmps:=(#[Value.slice base xs.length cap]++vs)++Array.replicate (n-(#[Value.slice base xs.length cap]++vs).size) undef,defers:=[]} w where
 nt:=by simp only[Array.size_append,Array.size_replicate]
 df:=rfl
 env:=fun s d hs=>by
  rw[b89]at hs;obtain ⟨us,hus⟩:∃us,us=(#[Value.slice base xs.length cap]++vs):=⟨_,rfl⟩
  have hlt:s<us.size:=by
   have:=(zL hs)
   rw[hus];simp only[yaD]at this;have:=ha.1;simp;omega
  show VR S w _ (((#[Value.slice base xs.length cap]++vs)++Array.replicate (n-(#[Value.slice base xs.length cap]++vs).size) undef).getD s undef) d
  rw[←hus];have e:(us++Array.replicate (n-us.size) undef).getD s undef=us[s]:=by
   simp[ybw,Array.getElem?_append,hlt]
  rw[e];have h1:us[s]?=some us[s]:=yao hlt;cases s with
  |zero=>
   simp only[yap,yak]at hs;subst hs;have e0:us[0]?=some (.slice base xs.length cap):=by rw[hus,ybz (by simp)];rfl
   rw[h1]at e0;rw[ybL e0];refine .slc base xs.length cap MA 0 rfl (yau _) (fun v' hv=>?_);replace hv:(if MA=MA then (if (0:Nat)=0 then some (Value.slice base xs.length cap) else none) else none)=some v':=hv;rw[yaK rfl,yaK rfl]at hv;exact ybL hv
  |succ s=>
   simp only[yaN]at hs;have e1:us[s+1]?=vs[s]?:=by rw[hus,ybK (by simp)];simp
   rw[h1]at e1;exact .data (ha.2 s _ d e1.symm hs)
 bx:=fun b cs hs=>by cases hs
 bd:=fun b blk hs=>by cases hs
 ar:=fun m A h=>by
  replace h:b9 m [(MA,(⟨kd,xs,0,false,false⟩:Ar κ El))]=some A:=h;rw[e8]at h;split at h
  ·rename_i e;subst e;cases h
   refine ⟨rfl,rfl,rfl,fun _=>⟨base,cap,by simp[a6g],hcap,?_⟩,fun ver v hv=>?_,fun _=>⟨rfl,rfl⟩,fun h=>(by cases h)⟩
   ·rcases ho with ⟨h0,-⟩|⟨blk,vals,t,hmo,hb,hh,hs,hel⟩
    ·exact .inl h0
    ·refine .inr ⟨blk,vals,t,hb,hh,hs,by simp[a6g,hmo],fun o hi=>?_,fun hf=>(by cases hf),hel⟩;exact absurd (by rw[hmo];simp) (hp.jb blk o (hp.ij blk o hi)).2
   ·simp only[a6g,yby]at hv;split at hv
    ·rename_i e;exact ⟨e,.inl rfl⟩
    ·cases hv
  ·cases h
 ad:=fun m h=>by
  replace h:m=MA:=h;exact ⟨⟨kd,xs,0,false,false⟩,by rw[h];show b9 MA [(MA,_)]=_;rw[e8,yaK rfl]⟩
 ib:=hp.ib
 ol:=fun b x h=>by
  simp only[a6g]at h;split at h
  ·rename_i hm;rcases ho with ⟨-,h0⟩|⟨blk,vals,t,hmo,hb,hh,hs,hel⟩
   ·rw[h0]at hm;cases hm
   ·rw[hmo]at hm;simp only[ybI]at hm;subst hm;exact (yah.1 hh).1
  ·cases h
 i0:=fun _ _ h=>h
 i1:=fun _ _ h=>.inl h
 ij:=hp.ij
 j0:=fun _ _ h=>h
 j1:=fun _ _ h=>.inr h
 jm:=fun b o h=>⟨(hp.jb b o h).1,by simp,(hp.jb b o h).2⟩
 old:=fun b _ _ hm=>⟨rfl,by simp only[a6g];rw[yas hm]⟩
 mb:=fun j blk h=>by simp at h
 mo:=fun b hb=>by simp only[a6g];rw[yaK hb]
 pa:=fun _=>rfl
 pn:=fun v _ hv=>by simpa[a6g]using hv
 sz:=yau _
 os:=rfl
 out:=rfl
 tape:=rfl
 gl:=hp.gl
 gb:=fun n k xs hg hx=>(hp.gb n k xs hg hx).imp_left (fun h hm=>h (by simpa using hm))
end
end
section
section
variable {κ:Type} {El:κ→Type} {S:Sg κ El} {P:Program}
variable [KdEq κ]
def d9 (P:Program) (S:Sg κ El) (m:Nat) (fn:Func) (loops:{R:Type}→Nat→St κ El→(Ex→St κ El→Option R)→Option R) (id:Nat):Prop:=
 ∀nt,fn.ntmps≤nt→b81 P S nt m fn @loops id
theorem Rel.final {c:Cx} {st:St κ El} {g:Gh} {a:Act} {w:World} (hr:Rel S c st g a w) (hmo:c.mo=[]):GrowM c.mb c.w0 w c.I0 (fun b o=>g.I b o∨LB g b o) where
 size:=hr.sz
 os:=hr.os
 out:=hr.out
 tape:=hr.tape
 keep:=fun b hb hm=>(hr.old b hb hm (by rw[hmo];simp)).1
 hI:=fun b o hi=>.inl (hr.i0 b o hi)
 new:=fun b o hi=>by
  rcases hi with hi|⟨n,hn,hb⟩
  ·exact hr.i1 b o hi
  ·rcases ybQ b c.w0.heap.size with hlt|hge
   ·exfalso;have how:=hr.bx_ow hb;by_cases hm:b∈c.mb
    ·obtain ⟨j,hj⟩:=yaF hm;have h2:=hr.bx_ow (hr.mb j b hj);rw[how]at h2;cases h2
     exact absurd hn (by omega)
    ·rw[(hr.old b hlt hm (by rw[hmo];simp)).2]at how;cases how
   ·exact .inr hge
 ib:=fun b o hi=>by
  rcases hi with hi|⟨n,hn,hb⟩
  ·exact hr.ib b o hi
  ·exact hr.bx_lt hb
theorem DR.fin {w:World} {g:Gh} {v:Value} {d:D κ El} (h:DR S w g.I (LB g) v d):DR S w (fun b o=>g.I b o∨LB g b o) (fun b o=>g.I b o∨LB g b o) v d:=
 h.mono (fun b o hi=>⟨rfl,.inl hi⟩) (fun b o hj=>⟨rfl,.inr hj⟩)
theorem c7c {f:Nat} {fn:Func} {code:Code} {loops:{R:Type}→Nat→St κ El→(Ex→St κ El→Option R)→Option R} (G:GoodP P S) (hmix:P.follows .mixedOrders=true) (fok:FnOk P f fn code)
 {R:Type} {r:R} {call:Nat→List (D κ El)→List (List (D κ El))→(D κ El→List (List (D κ El))→Option R)→Option R} (cn:u5 call) (cok:a0j P S call)
 {st0:St κ El} {m:Nat} (hl:∀b∈f9 code,a0a fn (i7 b)=b∧d9 P S m fn @loops (i7 b))
 {fin:St κ El→Option R} (h:evc P S call (loops (R:=R)) code st0 (fun e st=>match e with | .exit _=>none | .normal=>fin st | .ret=>fin st)=some r)
 {c:Cx} {g:Gh} {w:World} {vs:Array Value} (hr:Rel S c st0 g {tmps:=vs++Array.replicate (fn.ntmps-vs.size) undef,defers:=[]} w) (hnt:c.nt=vs.size+(fn.ntmps-vs.size)) (hm:c.ar=m)
 {Qv:Value→World→Prop} (hfin:∀st,fin st=some r→∀g a w,Rel S c st g a w→∃v,(results fn a.tmps).run P w=.ok v w∧Qv v w):a1v P f vs w Qv:=by
 have hle:fn.ntmps≤vs.size+(fn.ntmps-vs.size):=by omega
 obtain ⟨e,st',hk,hev⟩:=c7t (nt:=vs.size+(fn.ntmps-vs.size)) G hmix cn cok (fok.dst.mono hle) (fun b hb=>⟨(hl b hb).1,(hl b hb).2 _ hle⟩) h;unfold a1v;rw[MuLone.run_callFunc_enter fok.at_ fok.name fok.body vs w];simp only;refine calls_of_wp fok.at_ fok.body (hev hr hnt hm (fun g' a' w' hr'=>?_));have post:fin st'=some r→a'.defers=[]∧∃v,(results fn a'.tmps).run P w'=.ok v w'∧Qv v w':=
  fun hf=>⟨hr'.df,hfin st' hf g' a' w' hr'⟩
 cases e with
 |normal=>exact post hk
 |ret=>exact post hk
 |exit i=>cases hk
theorem b1e {f:Nat} {fn:Func} {code:Code} {loops:{R:Type}→Nat→St κ El→(Ex→St κ El→Option R)→Option R} (G:GoodP P S) (hmix:P.follows .mixedOrders=true) (fok:FnOk P f fn code)
 {R:Type} {r:R} {call:Nat→List (D κ El)→List (List (D κ El))→(D κ El→List (List (D κ El))→Option R)→Option R} (cn:u5 call) (cok:a0j P S call)
 {ds:List (D κ El)} {bs:List (List (D κ El))} (hl:∀b∈f9 code,a0a fn (i7 b)=b∧d9 P S bs.length fn @loops (i7 b))
 {fin:St κ El→Option R} (h:evc P S call (loops (R:=R)) code (enter ds bs) (fun e st=>match e with | .exit _=>none | .normal=>fin st | .ret=>fin st)=some r)
 {Qc:Cx→Value→World→Prop} (hfin:∀st,fin st=some r→∀(c:Cx) g a w,Rel S c st g a w→c.mb.length=bs.length→c.mo=[]→∃v,(results fn a.tmps).run P w=.ok v w∧Qc c v w) (hlt1:bs.length<MA)
 {w:World} {I J:Nat→Nat→Prop} {vs:Array Value} {bls:List Nat} (hp:Pre S w I J bls) (hn:bls.Nodup) (hbl:bls.length=bs.length) (hvs:vs.size=ds.length)
 (ha:∀(i:Nat) v d,vs[i]?=some v→ds[i]?=some d→g43 S w I J bls v d) (hb:∀(j:Nat) blk cs,bls[j]?=some blk→bs[j]?=some cs→d3v S w I J blk cs) :
 a1v P f vs w fun v w'=>Qc ⟨w,bls,vs.size+(fn.ntmps-vs.size),I,J,[],none⟩ v w':=by
 have hlt:∀b∈bls,b<w.heap.size:=by
  intro b hm;obtain ⟨j,hj⟩:=yaF hm;have hj2:j<bs.length:=by rw[←hbl];exact (zL hj)
  obtain ⟨vals,t,h1,-⟩:=hb j b _ hj (yab hj2);exact (yah.1 h1).1
 have hr:=Rel.enter (n:=fn.ntmps) hp hn hbl hvs ha hb hlt;refine c7c G hmix fok cn cok hl h hr rfl ?_ (fun st hf g a w hr=>hfin st hf _ g a w hr hbl rfl);show (if (none:Option Value).isSome then _ else if bls.length<MA then bls.length else MA+2)=bs.length
 simp only[ybZ,yay,ybf];rw[yaK (by rw[hbl];exact hlt1),hbl]
def h1b:List (D κ El)→D κ El
 | [d]=>d
 |ds=>.tup ds
theorem g1o {w:World} {I J:Nat→Nat→Prop} {vs:List Value} {ds:List (D κ El)} (hl:vs.length=ds.length) (h:∀(i:Nat) v d,vs[i]?=some v→ds[i]?=some d→DR S w I J v d):DR S w I J (h1z vs) (h1b ds):=by
 match vs,ds,hl with
 | [v],[d],_=>exact h 0 v d rfl rfl
 | [],[],_=>exact .tup #[] [] rfl (fun i v d h1=>by simp at h1)
 |v::u::vs,d::e::ds,hl=>exact .tup _ _ (by simp at hl ⊢;exact hl) (fun i v' d' h1 h2=>h i v' d' (by simpa using h1) h2)
theorem f9r {fn:Func} {m:Nat} {st:St κ El} {R:Type} {k:D κ El→List (List (D κ El))→Option R} {r:R} (h:g73 P S fn m st k=some r) :
 ∃st1 ds bs,c2t P S st fn.results.toList=some (st1,ds)∧b9k st1 m 0=some bs∧k (h1b ds) bs=some r:=by
 unfold g73 at h;split at h
 ·rename_i st1 ds h1;split at h
  ·rename_i bs h2;refine ⟨st1,ds,bs,h1,h2,?_⟩;split at h
   ·exact h
   ·rename_i hne;have:h1b ds=.tup ds:=by
     match ds,hne with
     | [],_=>rfl
     | [d],hne=>exact absurd rfl (hne d)
     |_::_::_,_=>rfl
    rw[this];exact h
  ·cases h
 ·cases h
theorem d7a (ok:PrOk P) (sgk:SgOk S) {fn:Func} {m:Nat} {st:St κ El} {R:Type} {k:D κ El→List (List (D κ El))→Option R} {r:R} (h:g73 P S fn m st k=some r) {c:Cx} {g:Gh} {a:Act} {w:World}
 (hr:Rel S c st g a w) (hm:c.mb.length=m) (hmo:c.mo=[]) :
 ∃d bs v I',k d bs=some r∧(results fn a.tmps).run P w=.ok v w∧GrowM c.mb c.w0 w c.I0 I'∧DR S w I' I' v d∧bs.length=m∧∀(j:Nat) blk cs,c.mb[j]?=some blk→bs[j]?=some cs→d3v S w I' I' blk cs:=by
 obtain ⟨st1,ds,bs,h1,h2,h3⟩:=f9r h;obtain ⟨g1,vs,r1,l1,b1,e1,x1,hrun,hlen,hall⟩:=e0z ok sgk h1 hr;obtain ⟨g2,st2,r2,l2,b2,hbl,hbox⟩:=d45 sgk h2 r1;refine ⟨h1b ds,bs,h1z vs,_,h3,a5v hrun,r2.final hmo,(LB.mono b2 l2 (g1o hlen hall)).fin,hbl,fun j blk cs hj hcs=>?_⟩;obtain ⟨blk',f1,vals,t,f2,f3,f4⟩:=hbox j cs hcs;have:=r1.mb j blk hj;rw[yaH,this]at f1;cases f1
 exact ⟨vals,t,f2,f3,fun i v d k1 k2=>(f4 i v d k1 k2).fin⟩
variable {f:Nat} {fn:Func} {code:Code} {α β ρ:Type}
theorem Wd.argM {w:World} {I J:Nat→Nat→Prop} {bls:List Nat} {v:Value} {d d':D κ El} (hw:Wd d d') (h:g43 S w I J bls v d):g43 S w I J bls v d':=by
 rcases h with ⟨j,blk,rfl,h1,h2⟩|h
 ·cases hw with
  |leaf _ _ h=>cases h with|same=>exact .inl ⟨j,blk,rfl,h1,h2⟩
 ·exact .inr (hw.dr h)
theorem d5q {loops:{R:Type}→Nat→St κ El→(Ex→St κ El→Option R)→Option R} {call:{R:Type}→Nat→List (D κ El)→List (List (D κ El))→(D κ El→List (List (D κ El))→Option R)→Option R}
 (G:GoodP P S) (hmix:P.follows .mixedOrders=true) (fok:FnOk P f fn code) (cn:∀{R:Type},u5 (R:=R) call) (cok:∀{R:Type},a0j (R:=R) P S call)
 {ac:CC κ El α} {bc:BC κ El β} {rc:Cod κ El ρ} {F:α→β→Option (ρ×β)} (hac:j8 ac) (hbc:e3x bc) (hrc:f8 rc) {m:Nat} (hm:∀b,(bc.enc b).length=m) (hmlt:m<MA) (hmd:S.md f=.mut)
 (hl:∀b∈f9 code,a0a fn (i7 b)=b∧d9 P S m fn @loops (i7 b))
 (e:∀a b,d3e P S call (loops (R:=ρ×β)) fn (ac.enc a) (bc.enc b) (h0f rc bc)=F a b) :
 ∀ds bs a b r b',ac.dec ds=some a→bc.dec bs=some b→F a b=some (r,b')→Con P S f ds bs (rc.enc r) (bc.enc b'):=by
 intro ds bs a b r b' hds hbs hF;unfold Con;rw[hmd];intro w I J vs bls hp hn hbl hvs ha hb;rw[←e a b]at hF;unfold d3e at hF;simp only[fok.body]at hF;have hw:=hac _ _ hds;have hwb:=hbc _ _ hbs;have key:=b1e (Qc:=fun c v w'=>∃I',GrowM c.mb c.w0 w' c.I0 I'∧DR S w' I' I' v (rc.enc r)∧(bc.enc b').length=(bc.enc b).length∧∀(j:Nat) blk cs,c.mb[j]?=some blk→(bc.enc b')[j]?=some cs→d3v S w' I' I' blk cs)
  G hmix fok cn cok (ds:=ac.enc a) (bs:=bc.enc b) (by rw[hm];exact hl) hF (fun st hf c g a w hr hmb hmo=>?_) (by rw[hm];exact hmlt) hp hn (hbl.trans hwb.1) (hvs.trans hw.1) (fun i v d h1 h2=>?_) (fun j blk cs h1 h2=>?_)
 ·refine key.mono (fun v w' hq=>?_);obtain ⟨I',h1,h2,h3,h4⟩:=hq;exact ⟨I',h1,h2,by rw[h3,hwb.1],h4⟩
 ·obtain ⟨d,bs2,v,I',h1,h2,h3,h4,h5,h6⟩:=d7a G.ok G.sgk hf hr hmb hmo;refine ⟨v,h2,I',h3,?_⟩;unfold h0f at h1;split at h1
  ·rename_i r' hr';split at h1
   ·rename_i b2 hb2;cases h1
    have hwr:=hrc _ _ hr';have hwb2:=hbc _ _ hb2;refine ⟨hwr.dr h4,by rw[hm,hm],fun j blk cs k1 k2=>?_⟩;have hj:j<bs2.length:=by rw[hwb2.1];exact (zL k2)
    exact (hwb2.2 j _ cs (yab hj) k2).boxD (h6 j blk _ k1 (yab hj))
   ·cases h1
  ·cases h1
 ·obtain ⟨d0,h3,h4⟩:=hw.get h2;exact h4.argM (ha i v d0 h1 h3)
 ·have hj:j<bs.length:=by rw[hwb.1];exact (zL h2)
  exact (hwb.2 j _ cs (yab hj) h2).boxD (hb j blk _ h1 (yab hj))
theorem c7j {loops:{R:Type}→Nat→St κ El→(Ex→St κ El→Option R)→Option R} {call:{R:Type}→Nat→List (D κ El)→List (List (D κ El))→(D κ El→List (List (D κ El))→Option R)→Option R}
 (G:GoodP P S) (hmix:P.follows .mixedOrders=true) (fok:FnOk P f fn code) (cn:∀{R:Type},u5 (R:=R) call) (cok:∀{R:Type},a0j (R:=R) P S call)
 {ac:CC κ El α} {rc:Cod κ El ρ} {F:α→Option ρ} (hac:j8 ac) (hrc:f8 rc) (hmd:S.md f=.data)
 (hl:∀b∈f9 code,a0a fn (i7 b)=b∧d9 P S 0 fn @loops (i7 b))
 (e:∀a,d3e P S call (loops (R:=ρ)) fn (ac.enc a) [] (b4l rc)=F a) :
 ∀ds a r,ac.dec ds=some a→F a=some r→Con P S f ds [] (rc.enc r) []:=by
 intro ds a r hds hF;unfold Con;rw[hmd];intro _ w I J vs hp ha;rw[←e a]at hF;unfold d3e at hF;simp only[fok.body]at hF;have hw:=hac _ _ hds;have key:=b1e (Qc:=fun c v w'=>∃I',GrowM c.mb c.w0 w' c.I0 I'∧DR S w' I' I' v (rc.enc r)) G hmix fok cn cok (ds:=ac.enc a) (bs:=[]) (bls:=[]) hl hF (fun st hf c g a w hr hmb hmo=>?_) (by show 0<MA;decide) hp List.nodup_nil rfl (ha.1.trans hw.1)
  (fun i v d h1 h2=>?_) (fun j blk cs h1 h2=>by simp at h1)
 ·refine key.mono (fun v w' hq=>?_);obtain ⟨I',h1,h2⟩:=hq;exact ⟨I',h1.grow,h2⟩
 ·obtain ⟨d,bs2,v,I',h1,h2,h3,h4,h5,h6⟩:=d7a G.ok G.sgk hf hr hmb hmo;refine ⟨v,h2,I',h3,?_⟩;unfold b4l at h1;split at h1
  ·exact (hrc _ _ h1).dr h4
  ·cases h1
 ·obtain ⟨d0,h3,h4⟩:=hw.get h2;exact .inr (h4.dr (ha.2 i v d0 h1 h3))
theorem Rel.ow_new0 {c:Cx} {st:St κ El} {g:Gh} {a:Act} {w:World} (hr:Rel S c st g a w) (hnil:c.mb=[]) (hmo:c.mo=[]) {blk n:Nat} (ho:g.ow blk=some (.arr n)):c.w0.heap.size≤blk:=by
 rcases ybQ blk c.w0.heap.size with hlt|hge
 ·have:=(hr.old blk hlt (by rw[hnil];simp) (by rw[hmo];simp)).2;rw[ho]at this;cases this
 ·exact hge
theorem b8g {tmps:Array Value} {t:Nat} {fn:Func} (h:fn.results.toList=[.tmp t]) {a:Act} {w:World}:(results fn a.tmps).run P w=.ok (a.tmps.getD t undef) w:=by
 have:=a5v (fn:=fn) (a:=a) (P:=P) (w:=w) (vs:=[a.tmps.getD t undef]) (by rw[h];rfl);exact this
theorem c4v (sgk:SgOk S) {fn:Func} {st:St κ El} {R:Type} {k:D κ El→List (List (D κ El))→Option R} {r:R} (h:b0n P S fn st k=some r) {c:Cx} {g:Gh} {a:Act} {w:World} (hr:Rel S c st g a w) (hmb:c.mb.length=0) (hmo:c.mo=[]) :
 ∃kd xs v I',k (.lst kd xs) []=some r∧(results fn a.tmps).run P w=.ok v w∧Grow c.w0 w c.I0 I'∧e30 S w I' c.w0.heap.size kd xs v:=by
 have hnil:c.mb=[]:=yaC hmb;have hg:Grow c.w0 w c.I0 g.I:=⟨hr.sz,hr.os,hr.out,hr.tape,fun b hb=>(hr.old b hb (by rw[hnil];simp) (by rw[hmo];simp)).1,hr.i0,hr.i1,hr.ib⟩
 unfold b0n at h;split at h
 ·rename_i t ht;have hv:=hr.opd (.tmp t);split at h
  ·rename_i n ver hopd;rw[hopd]at hv;split at h
   ·rename_i A hA;rw[c4]at h;split at h
    ·rename_i hc;rw[yad,yan]at hc;obtain ⟨h1,h2⟩:=a14 hc.1;obtain ⟨-,ha1,ha2,ha3⟩:=hv.arr_inv;obtain ⟨base,cap',f1,f2,f3⟩:=(hr.ar n A hA).live h2;have e2:a.tmps.getD t undef=.slice base A.xs.length cap':=by
      refine ha3 _ ?_;rw[←h1];exact f1
     refine ⟨A.k,A.xs,_,g.I,h,b8g (tmps:=a.tmps) ht,hg,?_⟩;rw[e2];refine ⟨base,cap',rfl,f2,f3.imp id ?_⟩;rintro ⟨blk,vals,ty,q1,q2,q3,q4,q5,q6,q7⟩;refine ⟨blk,vals,ty,q1,q2,q3,hr.ow_new0 hnil hmo q4,fun o hi=>?_,fun i hi j d hj=>?_⟩
     ·have:=(q5 o hi).1;rw[hc.2]at this;cases this
     ·obtain ⟨u,a1,a2⟩:=q7 i hi j d hj;exact ⟨u,a1,a2.relendL sgk (a2g (sgk.plain _ _ _ (yaf hj)))⟩
    ·cases h
   ·cases h
  ·rename_i hopd;rw[hopd]at hv;split at h
   ·rename_i u hu;split at h
    ·rename_i e he;split at h
     ·rename_i kd hkd;refine ⟨kd,[],_,g.I,h,b8g (tmps:=a.tmps) ht,hg,?_⟩;have:=hv.nil_inv;have e2:a.tmps.getD t undef=.slice none 0 0:=this;rw[e2];exact ⟨none,0,rfl,yau _,.inl rfl⟩
     ·cases h
    ·cases h
   ·cases h
  ·cases h
 ·cases h
theorem a86 {loops:{R:Type}→Nat→St κ El→(Ex→St κ El→Option R)→Option R} {call:{R:Type}→Nat→List (D κ El)→List (List (D κ El))→(D κ El→List (List (D κ El))→Option R)→Option R}
 (G:GoodP P S) (hmix:P.follows .mixedOrders=true) (fok:FnOk P f fn code) (cn:∀{R:Type},u5 (R:=R) call) (cok:∀{R:Type},a0j (R:=R) P S call)
 {kr:κ} (hmd:S.md f=.fresh)
 (hl:∀b∈f9 code,a0a fn (i7 b)=b∧d9 P S 0 fn @loops (i7 b))
 {ds ds0:List (D κ El)} {ys:List (El kr)} (hw:WL ds ds0) (hF:a23 P S call (loops (R:=List (El kr))) fn ds0 (b4l (Cod.lst kr))=some ys):Con P S f ds [] (.lst kr ys) []:=by
 unfold Con;rw[hmd];intro _ k' xs' he w I J vs hp ha;cases he
 unfold a23 at hF;simp only[fok.body]at hF;have key:=b1e (Qc:=fun c v w'=>∃I',Grow c.w0 w' c.I0 I'∧e30 S w' I' c.w0.heap.size kr ys v) G hmix fok cn cok (ds:=ds0) (bs:=[]) (bls:=[]) hl hF (fun st hf c g a w hr hmb hmo=>?_) (by show 0<MA;decide) hp List.nodup_nil rfl (ha.1.trans hw.1)
  (fun i v d h1 h2=>?_) (fun j blk cs h1 h2=>by simp at h1)
 ·exact key
 ·obtain ⟨kd,xs,v,I',h1,h2,h3,h4⟩:=c4v G.sgk hf hr hmb hmo;refine ⟨v,h2,I',h3,?_⟩;unfold b4l at h1;simp only[Cod.lst]at h1;obtain ⟨e,he⟩:=a1w h1;subst e;cases he
  exact h4
 ·obtain ⟨d0,h3,h4⟩:=hw.get h2;exact .inr (h4.dr (ha.2 i v d0 h1 h3))
theorem c7k {loops:{R:Type}→Nat→St κ El→(Ex→St κ El→Option R)→Option R} {call:{R:Type}→Nat→List (D κ El)→List (List (D κ El))→(D κ El→List (List (D κ El))→Option R)→Option R}
 (G:GoodP P S) (hmix:P.follows .mixedOrders=true) (fok:FnOk P f fn code) (cn:∀{R:Type},u5 (R:=R) call) (cok:∀{R:Type},a0j (R:=R) P S call)
 {ac:CC κ El α} {kr:κ} {F:List (El kr)×α→Option (List (El kr))} (hac:j8 ac) (hmd:S.md f=.inpl)
 (hl:∀b∈f9 code,a0a fn (i7 b)=b∧d9 P S MA fn @loops (i7 b))
 (e:∀a,a9k P S call (loops (R:=List (El kr))) fn kr a.1 (ac.enc a.2) (b4l (Cod.lst kr))=F a) :
 ∀ds a r,(CC.cons (Cod.lst kr) ac).dec ds=some a→F a=some r→Con P S f ds [] ((Cod.lst kr).enc r) []:=by
 intro ds a r hds hF;obtain ⟨ys,a⟩:=a;unfold Con;rw[hmd];intro _ k xs ds0 hd xs' hxs w I J mb v0 vs hp hown ha;subst hd;unfold CC.cons at hds;simp only at hds;split at hds
 ·rename_i x hx;split at hds
  ·rename_i b hb;cases hds
   obtain ⟨ek,hx2⟩:=a1w hx;subst ek;cases hx2
   cases hxs
   replace hF:F (xs,a)=some xs':=hF;rw[←e (xs,a)]at hF;unfold a9k at hF;simp only[fok.body]at hF;have hw:=hac _ _ hb;have ha2:b6v S w I J vs (ac.enc a):=⟨ha.1.trans hw.1,fun i v d h1 h2=>by
    obtain ⟨d0,h3,h4⟩:=hw.get h2;exact h4.dr (ha.2 i v d0 h1 h3)⟩
   obtain ⟨base,cap,rfl,hcap,ho⟩:=hown;obtain ⟨mo,hmo,hsub,hcase⟩:∃mo:List Nat,((cap=0∧mo=[])∨∃blk vals t,mo=[blk]∧base=some ⟨blk,0,none⟩∧w.heap[blk]?=some (.cells vals t (0,0))∧vals.size=cap*S.sz k∧
    ∀i (hi:i<xs.length) j d,(S.enc k xs[i])[j]?=some d→∃v,vals[i*S.sz k+j]?=some v∧DR S w I J v d)∧(∀b∈mo,b∈mb)∧(cap=0→mo=[]):=by
    by_cases h0:cap=0
    ·exact ⟨[],.inl ⟨h0,rfl⟩,fun b h=>(by cases h),fun _=>rfl⟩
    ·exact ⟨mb,ho.imp (fun h=>absurd h.1 h0) id,fun b h=>h,fun h=>absurd h h0⟩
   have hp':Pre S w I J mo:=⟨hp.gl,hp.ib,hp.ij,fun b o hj=>⟨(hp.jb b o hj).1,fun hm=>(hp.jb b o hj).2 (hsub b hm)⟩,fun n k xs hg hx=>(hp.gb n k xs hg hx).imp_left (fun h hm=>h (hsub n hm))⟩
   refine c7c G hmix fok cn cok hl hF (Rel.enterA (n:=fn.ntmps) hp' hcap hmo ha2) rfl (by rfl) (fun st hf g a' w' hr=>?_);unfold c4w at hf;split at hf
   rotate_left
   ·cases hf
   rename_i hres;split at hf
   rotate_left
   ·cases hf
   rename_i A hA;rw[c4]at hf;split at hf
   ·cases hf
   rename_i hdead;have hdead:A.dead=false:=by simpa using hdead
   unfold b4l at hf;simp only[Cod.lst]at hf;obtain ⟨ek,hx4⟩:=a1w hf;have hrun:(results fn a'.tmps).run P w'=.ok (.tuple #[]) w':=a5v (fn:=fn) (a:=a') (P:=P) (w:=w') (vs:=[]) (by rw[hres];rfl);refine ⟨_,hrun,rfl,?_⟩;have hrA:=hr.ar MA A hA;obtain ⟨hv0,hs0⟩:=hrA.own rfl;obtain ⟨base',cap',hav,hcap',hz⟩:=hrA.live hdead;rw[hv0]at hav;have hpn:=hr.pn _ (by simp) hav;replace hpn:some (Value.slice base xs.length cap)=some (Value.slice base' A.xs.length cap'):=hpn;obtain ⟨Ak,Axs,Av,As,Ad⟩:=A;simp only at ek hx4 hdead hv0 hs0 hcap' hz hpn;subst ek;have hx5:Axs=xs':=hx4;subst hx5;injection hpn with hpn;injection hpn with e1 e2 e3;subst e1 e3;refine ⟨e2.symm,g.I,⟨hr.sz,hr.os,hr.out,hr.tape,fun b hb hm=>(hr.old b hb (by simp) (fun h=>hm (hsub b h))).1,hr.i0,hr.i1,hr.ib⟩,base,cap,by rw[e2],hcap',?_⟩;by_cases h0:cap=0
   ·refine ho.imp id ?_;rintro ⟨blk,vals,t,q1,q2,q3,q4,q5⟩;have hlen:Axs.length=0:=by omega
    have hmo0:mo=[]:=hcase h0;refine ⟨blk,vals,t,q1,q2,?_,q4,fun i hi=>absurd hi (by omega)⟩;rw[←q3];exact (hr.old blk (yah.1 q3).1 (by simp) (by show blk∉mo;rw[hmo0];simp)).1
   ·refine .inr ?_;rcases hz with hz|⟨blk,vals,t,q1,q2,q3,q4,q5,q6,q7⟩
    ·exact absurd hz h0
    ·rcases ho with ⟨h,-⟩|⟨blk0,vals0,t0,p1,p2,-⟩
     ·exact absurd h h0
     ·rw[q1]at p2;injection p2 with p2;injection p2 with p2;refine ⟨blk,vals,t,by rw[p1,p2],q1,q2,q3,fun i hi j d hj=>?_⟩;obtain ⟨u,a1,a2⟩:=q7 i hi j d hj;exact ⟨u,a1,a2.relendL G.sgk (a2g (G.sgk.plain _ _ _ (yaf hj)))⟩
  ·cases hds
 ·cases hds
theorem c7l {loops:{R:Type}→Nat→St κ El→(Ex→St κ El→Option R)→Option R} {call:{R:Type}→Nat→List (D κ El)→List (List (D κ El))→(D κ El→List (List (D κ El))→Option R)→Option R}
 (G:GoodP P S) (hmix:P.follows .mixedOrders=true) (fok:FnOk P f fn code) (cn:∀{R:Type},u5 (R:=R) call) (cok:∀{R:Type},a0j (R:=R) P S call)
 {ac:CC κ El α} {cc:CC κ El ρ} {F:α→Option ρ} (hac:j8 ac) (hcc:j8 cc) (hmd:S.md f=.newb)
 (hl:∀b∈f9 code,a0a fn (i7 b)=b∧d9 P S 0 fn @loops (i7 b))
 (e:∀a,a9l P S call (loops (R:=ρ)) fn (ac.enc a) (h1c cc)=F a) :
 ∀ds a r,ac.dec ds=some a→F a=some r→Con P S f ds [] (.tup []) [cc.enc r]:=by
 intro ds a r hds hF;unfold Con;rw[hmd];intro cs hcs w I J vs hp ha;cases hcs
 rw[←e a]at hF;unfold a9l at hF;simp only[fok.body]at hF;have hw:=hac _ _ hds;have key:=b1e (Qc:=fun c v w'=>∃I' blk,Grow c.w0 w' c.I0 I'∧v=.pointer (some ⟨blk,0,none⟩)∧c.w0.heap.size≤blk∧(∀o,¬I' blk o)∧d3v S w' I' I' blk (cc.enc r)) G hmix fok cn cok (ds:=ac.enc a) (bs:=[]) (bls:=[]) hl hF
  (fun st hf c g a w hr hmb hmo=>?_) (by show 0<MA;decide) hp List.nodup_nil rfl (ha.1.trans hw.1) (fun i v d h1 h2=>?_) (fun j blk cs h1 h2=>by simp at h1)
 ·exact key
 ·have hnil:c.mb=[]:=yaC hmb;unfold c4x at hf;split at hf
  ·rename_i t ht;have hv:=hr.opd (.tmp t);split at hf
   ·rename_i b hopd;rw[hopd]at hv;rw[c4]at hf;split at hf
    ·cases hf
    ·split at hf
     ·rename_i cs hb;split at hf
      ·rename_i st1 cs1 hdat;obtain ⟨g1,r1,l1,b1,e1,x1,n1,v1⟩:=a0k G.sgk hdat hr;obtain ⟨blk,hve,hbl⟩:=hv.ptr_inv;obtain ⟨blk',q1,q2,q3,vals,ty,q4,q5,q6⟩:=hr.bx b cs hb;rw[hbl]at q1;cases q1
       have hlo:c.w0.heap.size≤blk:=by
        rcases ybQ blk c.w0.heap.size with hlt|hge
        ·have:=(hr.old blk hlt (by rw[hnil];simp) (by rw[hmo];simp)).2;rw[q2]at this;cases this
        ·exact hge
       have hg:Grow c.w0 w c.I0 g1.I:=⟨r1.sz,r1.os,r1.out,r1.tape,fun b hb=>(r1.old b hb (by rw[hnil];simp) (by rw[hmo];simp)).1,r1.i0,r1.i1,r1.ib⟩
       refine ⟨_,b8g (tmps:=a.tmps) ht,g1.I,blk,hg,hve,hlo,?_,?_⟩
       ·obtain ⟨blk2,p1,p2,p3,p4⟩:=r1.bx b cs (by rw[x1];exact hb);rw[b1,hbl]at p1;cases p1
        exact p3
       ·replace hf:cc.dec cs1=some r:=hf;refine (hcc _ _ hf).boxD ⟨vals,ty,q4,by rw[q5,n1],fun i v d k1 k2=>?_⟩;have hi:i<cs.length:=by rw[←n1];exact (zL k2)
        obtain ⟨d2,h3,h4⟩:=v1 i _ (yab hi);rw[k2]at h3;cases h3
        exact (h4 v (q6 i v _ k1 (yab hi))).relendL G.sgk (a4w hdat d (yaf k2))
      ·cases hf
     ·cases hf
   ·cases hf
  ·cases hf
 ·obtain ⟨d0,h3,h4⟩:=hw.get h2;exact .inr (h4.dr (ha.2 i v d0 h1 h3))
def h0i [KdEq κ] (rc:Cod κ El ρ) (kr:κ) (d:D κ El) (bs:List (List (D κ El))):Option (ρ×List (El kr)):=match d,bs with
 |.tup [x,.lst _ xs],[]=>(match rc.dec x with|some a=>(match (a55 xs:Option (List (El kr))) with|some xs=>some (a,xs)|none=>none)|none=>none)
 |_,_=>none
theorem c7m {loops:{R:Type}→Nat→St κ El→(Ex→St κ El→Option R)→Option R} {call:{R:Type}→Nat→List (D κ El)→List (List (D κ El))→(D κ El→List (List (D κ El))→Option R)→Option R}
 (G:GoodP P S) (hmix:P.follows .mixedOrders=true) (fok:FnOk P f fn code) (cn:∀{R:Type},u5 (R:=R) call) (cok:∀{R:Type},a0j (R:=R) P S call)
 {ac:CC κ El α} {rc:Cod κ El ρ} {kr:κ} {F:α→Option (ρ×List (El kr))} (hac:j8 ac) (hrc:f8 rc) (hmd:S.md f=.nmap)
 (hl:∀b∈f9 code,a0a fn (i7 b)=b∧d9 P S 0 fn @loops (i7 b))
 (e:∀a,a9m P S call (loops (R:=ρ×List (El kr))) fn (ac.enc a) (h0i rc kr)=F a) :
 ∀ds a r,ac.dec ds=some a→F a=some r→Con P S f ds [] (.tup [rc.enc r.1,.lst kr r.2]) []:=by
 intro ds a r hds hF;unfold Con;rw[hmd];intro _ x k xs hx w I J vs hp ha;rw[←e a]at hF;unfold a9m at hF;simp only[fok.body]at hF;have hw:=hac _ _ hds;cases hx
 refine b1e (Qc:=fun c v w'=>∃I' v1 v2,Grow c.w0 w' c.I0 I'∧v=.tuple #[v1,v2]∧DR S w' I' I' v1 (rc.enc r.1)∧h1f S w' I' c.w0.heap.size kr r.2 v2) G hmix fok cn cok (ds:=ac.enc a) (bs:=[]) (bls:=[]) hl hF
  (fun st hf c g a w hr hmb hmo=>?_) (by show 0<MA;decide) hp List.nodup_nil rfl (ha.1.trans hw.1) (fun i v d h1 h2=>?_) (fun j blk cs h1 h2=>by simp at h1)
 ·have hnil:c.mb=[]:=yaC hmb;unfold c4y at hf;split at hf
  rotate_left
  ·cases hf
  rename_i q t ht;have hv:=hr.opd (.tmp t);split at hf
  rotate_left
  ·cases hf
  rename_i n ver hopd;rw[hopd]at hv;split at hf
  rotate_left
  ·cases hf
  rename_i A hA;rw[c4]at hf;split at hf
  rotate_left
  ·cases hf
  rename_i hmp;split at hf
  rotate_left
  ·cases hf
  rename_i d hd;rw[c4]at hf;split at hf
  rotate_left
  ·cases hf
  rename_i hok;split at hf
  rotate_left
  ·cases hf
  rename_i st1 d1 hdat;unfold d3z at hmp;simp only[yad,yaT]at hmp;obtain ⟨hver,hdead,hseal⟩:=hmp;obtain ⟨v,e0,hv0⟩:=c2w G.ok G.sgk hd hr;obtain ⟨g1,r1,l1,b1,e1,x1,v1⟩:=b4u G.sgk hok hdat hr;obtain ⟨blk,es,clk,q1,q2,q3,q4,q5⟩:=(hr.ar n A hA).mp hdead hseal;obtain ⟨-,ha1,ha2,ha3⟩:=hv.arr_inv;have e2:a.tmps.getD t undef=.map (some blk):=ha3 _ (by rw[←hver];exact q1);have hlo:c.w0.heap.size≤blk:=hr.ow_new0 hnil hmo q3;have hfin:=r1.final hmo;rw[hnil]at hfin;unfold h0i at hf;simp only at hf;split at hf
  rotate_left
  ·cases hf
  rename_i y hy;split at hf
  rotate_left
  ·cases hf
  rename_i zs hzs;cases hf
  obtain ⟨ek,hxs⟩:=a1w hzs;refine ⟨.tuple #[v,.map (some blk)],?_,_,v,.map (some blk),hfin.grow,rfl,(hrc _ _ hy).dr (v1 v hv0).fin,blk,es,clk,rfl,q2,hlo,?_,?_⟩
  ·have:=a5v (fn:=fn) (a:=a) (P:=P) (w:=w) (vs:=[v,.map (some blk)]) (by rw[ht];simp only[List.mapM_cons,List.mapM_nil,Sem.run_bind,e0,Sem.run_pure,Result.andThen_ok];rw[show Sem.run P (b6q a.tmps (.tmp t)) w=.ok (a.tmps.getD t undef) w from rfl,e2];rfl);exact this
  ·obtain ⟨Ak,Axs,Av,As,Ad⟩:=A;simp only at ek hxs q4;subst ek;subst hxs;exact q4
  ·obtain ⟨Ak,Axs,Av,As,Ad⟩:=A;simp only at ek hxs q5;subst ek;subst hxs;intro i en x h1 h2;obtain ⟨kd,vd,p1,p2,p3⟩:=q5 i en x h1 h2;have hpl:∀d,d∈S.enc Ak x→noC.noCl d=true:=fun d hd=>a2g (G.sgk.plain _ _ _ hd)
   have tr:∀{v d},DR S w g.I g.J v d→noC.noCl d=true→DR S w (fun b o=>g1.I b o∨LB g1 b o) (fun b o=>g1.I b o∨LB g1 b o) v d:=fun h hn=>
    (h.relendL (J':=g.I) G.sgk hn).mono (fun b o hi=>⟨rfl,.inl (l1.I b o hi).2⟩) (fun b o hi=>⟨rfl,.inl (l1.I b o hi).2⟩)
   exact ⟨kd,vd,p1,tr p2 (hpl _ (by rw[p1];simp)),tr p3 (hpl _ (by rw[p1];simp))⟩
 ·obtain ⟨d0,h3,h4⟩:=hw.get h2;exact .inr (h4.dr (ha.2 i v d0 h1 h3))
end
end
section
section
variable {κ:Type} {El:κ→Type} {S:Sg κ El} {P:Program}
variable {R:Type} {f:Nat} {α β ρ:Type}
abbrev a3a (κ:Type) (El:κ→Type) (R:Type):=List (D κ El)→List (List (D κ El))→(D κ El→List (List (D κ El))→Option R)→Option R
def b6x (P:Program) (S:Sg κ El) (f:Nat) (sem:a3a κ El R):Prop:=∀ds bs k r,sem ds bs k=some r→∃d bs',k d bs'=some r∧Con P S f ds bs d bs'
def a7z (sem:a3a κ El R):Prop:=∀ds bs k r,sem ds bs k=some r→∃d bs',k d bs'=some r∧∀k',k' d bs'=some r→sem ds bs k'=some r
theorem g2a {ac:CC κ El α} {rc:Cod κ El ρ} {F:α→Option ρ} (h:∀ds a r,ac.dec ds=some a→F a=some r→Con P S f ds [] (rc.enc r) []):b6x P S f (m9 (R:=R) ac rc F):=by
 intro ds bs k r hs;unfold m9 at hs;split at hs
 ·split at hs
  ·rename_i a ha;split at hs
   ·rename_i x hx;exact ⟨_,_,hs,h _ _ _ ha hx⟩
   ·cases hs
  ·cases hs
 ·cases hs
theorem e89 {ac:CC κ El α} {rc:Cod κ El ρ} {F:α→Option ρ}:a7z (m9 (R:=R) ac rc F):=by
 intro ds bs k r hs;unfold m9 at hs;split at hs
 ·split at hs
  ·rename_i a ha;split at hs
   ·rename_i x hx;exact ⟨_,_,hs,fun k' hk'=>by unfold m9;simp only[ha,hx];exact hk'⟩
   ·cases hs
  ·cases hs
 ·cases hs
theorem g15 {ac:CC κ El α} {bc:BC κ El β} {rc:Cod κ El ρ} {F:α→β→Option (ρ×β)} (h:∀ds bs a b r b',ac.dec ds=some a→bc.dec bs=some b→F a b=some (r,b')→Con P S f ds bs (rc.enc r) (bc.enc b')):b6x P S f (b4n (R:=R) ac bc rc F):=by
 intro ds bs k r hs;unfold b4n at hs;split at hs
 ·rename_i a ha;split at hs
  ·rename_i b hb;split at hs
   ·rename_i x y hx;exact ⟨_,_,hs,h _ _ _ _ _ _ ha hb hx⟩
   ·cases hs
  ·cases hs
 ·cases hs
theorem e87 {ac:CC κ El α} {bc:BC κ El β} {rc:Cod κ El ρ} {F:α→β→Option (ρ×β)}:a7z (b4n (R:=R) ac bc rc F):=by
 intro ds bs k r hs;unfold b4n at hs;split at hs
 ·rename_i a ha;split at hs
  ·rename_i b hb;split at hs
   ·rename_i x y hx;exact ⟨_,_,hs,fun k' hk'=>by unfold b4n;simp only[ha,hb,hx];exact hk'⟩
   ·cases hs
  ·cases hs
 ·cases hs
theorem g16 {ac:CC κ El α} {cc:CC κ El ρ} {F:α→Option ρ} (h:∀ds a r,ac.dec ds=some a→F a=some r→Con P S f ds [] (.tup []) [cc.enc r]):b6x P S f (f3u (R:=R) ac cc F):=by
 intro ds bs k r hs;unfold f3u at hs;split at hs
 ·split at hs
  ·rename_i a ha;split at hs
   ·rename_i x hx;exact ⟨_,_,hs,h _ _ _ ha hx⟩
   ·cases hs
  ·cases hs
 ·cases hs
theorem e88 {ac:CC κ El α} {cc:CC κ El ρ} {F:α→Option ρ}:a7z (f3u (R:=R) ac cc F):=by
 intro ds bs k r hs;unfold f3u at hs;split at hs
 ·split at hs
  ·rename_i a ha;split at hs
   ·rename_i x hx;exact ⟨_,_,hs,fun k' hk'=>by unfold f3u;simp only[ha,hx];exact hk'⟩
   ·cases hs
  ·cases hs
 ·cases hs
theorem e86 (ac:CC κ El α) {s1 s2:a3a κ El R} (h1:b6x P S f s1) (h2:b6x P S f s2):b6x P S f (fun ds bs k=>d2i (ac.dec ds) (s1 ds bs k) (s2 ds bs k)):=by
 intro ds bs k r hs;simp only[d2i]at hs;split at hs
 ·exact h1 _ _ _ _ hs
 ·exact h2 _ _ _ _ hs
theorem e06 (ac:CC κ El α) {s1 s2:a3a κ El R} (h1:a7z s1) (h2:a7z s2):a7z (fun ds bs k=>d2i (ac.dec ds) (s1 ds bs k) (s2 ds bs k)):=by
 intro ds bs k r hs;cases hd:ac.dec ds with
 |some a=>simp only[d2i,hd]at hs ⊢;exact h1 _ _ _ _ hs
 |none=>simp only[d2i,hd]at hs ⊢;exact h2 _ _ _ _ hs
theorem g13:b6x P S f (fun _ _ _=>none:a3a κ El R):=fun ds bs k r h=>by cases h
theorem e85:a7z (fun _ _ _=>none:a3a κ El R):=fun ds bs k r h=>by cases h
theorem d01:a0j P S (fun _ _ _ _=>none:Nat→a3a κ El R):=fun f ds bs k r h=>by cases h
theorem c31 {g:Nat} {sem:a3a κ El R} {rest:Nat→a3a κ El R} (h1:b6x P S g sem) (h2:a0j P S rest):a0j P S (fun f ds bs k=>bif Nat.beq f g then sem ds bs k else rest f ds bs k):=by
 intro f ds bs k r h;simp only[c4]at h;split at h
 ·rename_i e;rw[yaT]at e;subst e;exact h1 _ _ _ _ h
 ·exact h2 _ _ _ _ _ h
theorem c3z:u5 (fun _ _ _ _=>none:Nat→a3a κ El R):=fun f ds bs k r h=>by cases h
theorem b9o {g:Nat} {sem:a3a κ El R} {rest:Nat→a3a κ El R} (h1:a7z sem) (h2:u5 rest):u5 (fun f ds bs k=>bif Nat.beq f g then sem ds bs k else rest f ds bs k):=by
 intro f ds bs k r h;cases hb:Nat.beq f g with
 |true=>simp only[hb,yac]at h ⊢;exact h1 _ _ _ _ h
 |false=>simp only[hb,yaa]at h ⊢;exact h2 _ _ _ _ _ h
variable [KdEq κ] {m:Nat} {fn:Func} {code:Code}
theorem b74 (hb:fn.body=some code) {ids:List Nat} (hids:(f9 code).map i7=ids) (hn:a6n ids=true) {id:Nat} (hm:id∈ids):a0a fn id∈f9 code∧i7 (a0a fn id)=id:=by
 rw[←hids]at hm;obtain ⟨b,hbm,rfl⟩:=ybb.1 hm;rw[a6m hb (by rw[hids];exact hn) b hbm];exact ⟨hbm,rfl⟩
theorem c0l {loops:{R:Type}→Nat→St κ El→(Ex→St κ El→Option R)→Option R} (fok:FnOk P f fn code) {ids:List Nat} (hids:(f9 code).map i7=ids) (hn:a6n ids=true) (h:∀i∈ids,d9 P S m fn @loops i) :
 ∀b∈f9 code,a0a fn (i7 b)=b∧d9 P S m fn @loops (i7 b):=
 fun b hb=>⟨a6m fok.body (by rw[hids];exact hn) b hb,h _ (by rw[←hids];exact ybb.2 ⟨b,hb,rfl⟩)⟩
def d33 (P:Program) (S:Sg κ El) (m:Nat) (out:β→Ex×St κ El) (outs:Ex→St κ El→Option β):Prop:=∀e st b,outs e st=some b→(out b).1=e∧c6v P S m st (out b).2
def g4q (P:Program) (S:Sg κ El) (m:Nat) (pr:St κ El→Option (St κ El)) (fc:FC κ El α):Prop:=∀st st1 x,pr st=some st1→fc.dec st1=some x→c6v P S m st (fc.enc x)
theorem d9b {id:Nat} {loops:{R:Type}→Nat→St κ El→(Ex→St κ El→Option R)→Option R}
 {call:{R:Type}→Nat→a3a κ El R}
 {pr:St κ El→Option (St κ El)} {fc:FC κ El α} {step:α→Option (α⊕β)} {outs:Ex→St κ El→Option β} {outk:{R:Type}→β→(Ex→St κ El→Option R)→Option R} (out:β→Ex×St κ El)
 (G:GoodP P S) (fok:FnOk P f fn code) {ids:List Nat} (hids:(f9 code).map i7=ids) (hn:a6n ids=true) (hm:id∈ids)
 (cn:∀{R:Type},u5 (R:=R) call) (cok:∀{R:Type},a0j (R:=R) P S call)
 {inn:List Nat} (hinn:(f9 (a0a fn id)).map i7=inn) (hl:∀i∈inn,d9 P S m fn @loops i)
 (el:∀a,evc P S call (loops (R:=α⊕β)) (a0a fn id) (fc.enc a) (d1v pr fc outs)=step a)
 (hp:g4q P S m pr fc) (ho:d33 P S m out outs)
 (hk:∀{R:Type} b (k:Ex→St κ El→Option R),outk b k=k (out b).1 (out b).2)
 (heq:∀{R:Type} (st:St κ El) (k:Ex→St κ El→Option R),loops id st k=h0k pr fc step outk st k):d9 P S m fn @loops id:=by
 intro nt hnt;obtain ⟨hmem,hfr⟩:=b74 fok.body hids hn hm;refine g14 out G G.ok.mixed cn cok ((fok.dst.mono hnt).body hmem) (fun b hb=>⟨?_,?_⟩) el hp ho hk heq
 ·exact a6m fok.body (by rw[hids];exact hn) b (a2a hmem hb)
 ·exact hl _ (by rw[←hinn];exact ybb.2 ⟨b,hb,rfl⟩) nt hnt
theorem d7 {p:Nat→Prop}:∀i∈([]:List Nat),p i:=fun i h=>by cases h
theorem all_cons {p:Nat→Prop} {n:Nat} {l:List Nat} (h:p n) (hl:∀i∈l,p i):∀i∈n::l,p i:=fun i hi=>by
 rcases yaL.1 hi with rfl|hi
 ·exact h
 ·exact hl i hi
def fnB (P:Program) (f:Nat) (fn:Func) (ids:List Nat):Bool:=
 !(fn.name == "runtime.NumGoroutine")&&(match fn.body with|some c=>d64 fn.ntmps c&&(a6n ids&&beqL ((f9 c).map i7) ids)|none=>false)
where beqL:List Nat→List Nat→Bool
 | [],[]=>true
 |a::l,b::l'=>Nat.beq a b&&beqL l l'
 |_,_=>false
theorem c3x:∀{l l':List Nat},fnB.beqL l l'=true→l=l':=by
 intro l
 induction l with
 |nil=>intro l' h;cases l' with|nil=>rfl|cons=>cases h
 |cons a l ih=>
  intro l' h;cases l' with
  |nil=>cases h
  |cons b l'=>simp only[fnB.beqL,yad,yaT]at h;rw[h.1,ih h.2]
theorem y3 {ids:List Nat} (hat:P.funcs[f]?=some fn) (h:fnB P f fn ids=true):∃code,FnOk P f fn code∧a6n ids=true∧(f9 code).map i7=ids:=by
 unfold fnB at h;rw[yad,yan]at h;obtain ⟨h1,h2⟩:=h;split at h2
 ·rename_i c hc;simp only[yad]at h2;exact ⟨c,⟨hat,h1,hc,d65 h2.1⟩,h2.2.1,c3x h2.2.2⟩
 ·cases h2
def prB (P:Program):Bool:=(List.range P.types.size).all fun t=>match P.underlying t with|none=>false|some _=>true
theorem h3h (h:prB P=true) (hm:P.follows .mixedOrders=true):PrOk P:=by
 refine ⟨fun t i hi=>?_,hm⟩;by_cases ht:t<P.types.size
 ·have:=yaj.1 h t (ybW.2 ht);split at this
  ·cases this
  ·rename_i d hd;exact ⟨d,hd⟩
 ·have:=Tables.info?_beyond ht hi;unfold Program.underlying;rw[hi];obtain ⟨desc,_⟩:=i;cases desc with
  |named n u=>cases this
  |_=>exact ⟨_,rfl⟩
theorem g4h {S:Sg κ El} {cc:(k:κ)→CC κ El (El k)} (he:∀k,S.enc k=(cc k).enc) (hd:∀k,S.dec k=(cc k).dec) (hcc:∀k,j8 (cc k)) (hsz:∀k x,((cc k).enc x).length=S.sz k) (hpl:∀k x,((cc k).enc x).all a6p=true) (hpos:∀k,0<S.sz k):SgOk S where
 sz:=fun k x=>by rw[he];exact hsz k x
 plain:=fun k x d h=>by rw[he]at h;exact yaj.1 (hpl k x) d h
 pos:=hpos
 dec:=fun k cs x h=>by
  rw[hd]at h;have hw:=hcc k _ _ h;refine ⟨by rw[hw.1];exact hsz k x,fun j d hj=>?_⟩;rw[he]at hj;obtain ⟨d',h1,h2⟩:=hw.get hj;refine ⟨d',h1,?_⟩;have hp:=yaj.1 (hpl k x) d (yaf hj);cases h2 with
  |leaf _ _ h=>exact h
  |_=>cases hp
def eqB (P:Program) (t:Nat):Bool:=!(P.eqGuardType P.depth t)&&(!(P.stoodInHeld t)&&(match P.underlying t with|some (.struct fs)=>fs.toList.all (fun f=>!(f.name == "_"))|_=>true))
theorem e6h {t:Nat} (h:eqB P t=true):EqOk P t:=by
 unfold eqB at h;simp only[yad,yan]at h;refine ⟨h.1,h.2.1,fun fs hfs f hf=>?_⟩;have h3:=h.2.2;rw[hfs]at h3;have:=yaj.1 h3 f hf;simpa using this
theorem f9h:∀t,(false=true)→EqOk P t:=fun t h=>by cases h
theorem c7r {u:Nat} {q:Nat→Bool} (h:eqB P u=true) (hr:∀t,q t=true→EqOk P t):∀t,(Nat.beq t u||q t)=true→EqOk P t:=fun t ht=>by
 rw[ybk]at ht;rcases ht with ht|ht
 ·rw[yaT]at ht;subst ht;exact e6h h
 ·exact hr t ht
theorem d6v {loops:{R:Type}→Nat→St κ El→(Ex→St κ El→Option R)→Option R} {call:{R:Type}→Nat→a3a κ El R}
 (G:GoodP P S) (fok:FnOk P f fn code) (cn:∀{R:Type},u5 (R:=R) call) (cok:∀{R:Type},a0j (R:=R) P S call)
 {k0 kr:κ} {F:List (El k0)×Unit→Option (List (El kr))} (hmd:S.md f=.fresh)
 (hl:∀b∈f9 code,a0a fn (i7 b)=b∧d9 P S 0 fn @loops (i7 b))
 (e:∀a,a23 P S call (loops (R:=List (El kr))) fn [.lsn k0 a] (b4l (Cod.lst kr))=F (a,()))
 (e0:a23 P S call (loops (R:=List (El kr))) fn [.nil] (b4l (Cod.lst kr))=F ([],())) :
 ∀ds a r,(CC.cons (Cod.lst k0) CC.nil).dec ds=some a→F a=some r→Con P S f ds [] ((Cod.lst kr).enc r) []:=by
 intro ds a r hds hF;obtain ⟨xs,⟨⟩⟩:=a;have hw:=(j8.cons (f8.lst k0) j8.nil) _ _ hds;have hcon:∀ds0,a23 P S call (loops (R:=List (El kr))) fn ds0 (b4l (Cod.lst kr))=some r→Con P S f ds0 [] ((Cod.lst kr).enc r) []:=fun ds0 h0=>a86 G G.ok.mixed fok cn cok hmd hl (WL.refl ds0) h0
 have c1:=hcon [.lsn k0 xs] (by rw[e];exact hF);have c2:xs=[]→Con P S f [.nil] [] ((Cod.lst kr).enc r) []:=fun hx=>hcon [.nil] (by rw[e0];subst hx;exact hF)
 unfold Con at c1 c2 ⊢;rw[hmd]at c1 c2 ⊢;intro hb k ys hd w I J vs hp ha;have ha':=hw.args ha;obtain ⟨hs,hall⟩:=ha';have hs1:vs.size=1:=hs;have h0:vs[0]?=some vs[0]:=yao (by omega);have hv:DR S w I J vs[0] (.lst k0 xs):=hall 0 _ _ h0 rfl;have one:∀d,DR S w I J vs[0] d→b6v S w I J vs [d]:=fun d hd=>⟨by simp[hs1],fun i v d' h1 h2=>by
  cases i with
  |zero=>simp only[yap,yak]at h2;subst h2;rw[h0]at h1;cases h1;exact hd
  |succ i=>simp at h2⟩
 generalize hv0:vs[0]=v0 at hv one;cases hv with
 |lst0 a cap _ hn=>
  cases a with
  |none=>
   have hc:cap=0:=hn rfl;subst hc;exact c2 rfl hb k ys hd w I J vs hp (one _ .nil)
  |some b=>exact c1 hb k ys hd w I J vs hp (one _ (.lsn b 0 cap k0 [] (.lst0 _ _ _ hn)))
 |lst b off cap _ xs cv hcap hc hv=>exact c1 hb k ys hd w I J vs hp (one _ (.lsn _ _ cap k0 xs (.lst b off cap k0 xs cv hcap hc hv)))
end
end
section
def c0v (P:Program) (rec:Nat→Option (List Nat)):List Field→List Nat→Option (List Nat)
 | [],acc=>some acc
 |f::fs,acc=>bif Nat.beq f.offset acc.length then (match rec f.type with
  |some l=>bif Nat.beq l.length (P.cellsOf f.type) then c0v P rec fs (acc++l) else none
  |none=>none) else none
def e82 (l:List Nat):Nat→List Nat
 |0=>[]
 |n+1=>l++e82 l n
def a9e (P:Program):Nat→Nat→Option (List Nat)
 |0,_=>none
 |n+1,t=>match P.underlying t with
  |some (.struct fs)=>(match c0v P (a9e P n) fs.toList []with|some l=>bif Nat.beq l.length (P.cellsOf t) then some l else none|none=>none)
  |some (.array m e)=>(match a9e P n e with|some l=>bif Nat.beq l.length (P.cellsOf e)&&Nat.beq (e82 l m).length (P.cellsOf t) then some (e82 l m) else none|none=>none)
  |some .bool=>some [t]
  |some (.int _)=>some [t]
  |some .string=>some [t]
  |some (.slice _)=>some [t]
  |_=>none
section
variable {H:Type} {enc:TypeId×Value→H} {P:Program} {w:World}
abbrev TR (enc:TypeId×Value→H) (P:Program) (w:World) (fuel t:Nat) (cs:List Value):=DataW.trod enc P w 0 (fun _=>true) true fuel t cs
def a8z (enc:TypeId×Value→H) (P:Program) (w:World) (ts:List Nat) (cs:List Value):Prop:=
 cs.length=ts.length∧∀(j:Nat) u v,ts[j]?=some u→cs[j]?=some v→∃fuel x,TR enc P w fuel u [v]=some x
theorem a8z.app {l m:List Nat} {cs ds:List Value} (h:a8z enc P w l cs) (h':a8z enc P w m ds):a8z enc P w (l++m) (cs++ds):=by
 refine ⟨by simp[h.1,h'.1],fun j u v h1 h2=>?_⟩;by_cases hj:j<l.length
 ·rw[yaz hj]at h1;rw[yaz (by rw[h.1];exact hj)]at h2;exact h.2 j u v h1 h2
 ·rw[yaA (by omega)]at h1;rw[yaA (by rw[h.1];omega),h.1]at h2;exact h'.2 _ u v h1 h2
theorem b2m {α β:Type} {f:α→Option β}:∀{l:List α} {r:List β},l.mapM f=some r→∀x∈l,∃y,f x=some y:=by
 intro l
 induction l with
 |nil=>intro r _ x hx;cases hx
 |cons a l ih=>
  intro r h x hx;simp only[List.mapM_cons,Option.bind_eq_bind,Option.pure_def]at h;cases ha:f a with
  |none=>rw[ha]at h;cases h
  |some y=>
   rw[ha]at h;simp only[ybU]at h;cases hl:l.mapM f with
   |none=>rw[hl]at h;cases h
   |some ys=>
    rcases yaL.1 hx with rfl|hx
    ·exact ⟨y,ha⟩
    ·exact ih hl x hx
theorem d8v {rec:Nat→Option (List Nat)} {cs:List Value} (hrec:∀t l,rec t=some l→∀fuel cs x,TR enc P w fuel t cs=some x→a8z enc P w l cs) :
 ∀{fs:List Field} {acc l:List Nat},c0v P rec fs acc=some l→(∀f∈fs,∃fuel x,TR enc P w fuel f.type ((cs.drop f.offset).take (P.cellsOf f.type))=some x)→a8z enc P w acc (cs.take acc.length)→a8z enc P w l (cs.take l.length):=by
 intro fs
 induction fs with
 |nil=>intro acc l h _ hp;simp only[c0v,yak]at h;subst h;exact hp
 |cons f fs ih=>
  intro acc l h hf hp;simp only[c0v,c4]at h;split at h
  rotate_left
  ·cases h
  rename_i ho;rw[yaT]at ho;split at h
  rotate_left
  ·cases h
  rename_i lf hlf;split at h
  rotate_left
  ·cases h
  rename_i hlen;rw[yaT]at hlen;obtain ⟨fuel,x,hx⟩:=hf f (by simp);have h1:=hrec _ _ hlf fuel _ x hx;refine ih h (fun g hg=>hf g (by simp[hg])) ?_;have e:cs.take (acc++lf).length=cs.take acc.length++(cs.drop f.offset).take (P.cellsOf f.type):=by
   rw[yaP,List.take_add,ho,hlen]
  rw[e];exact hp.app h1
theorem b5h:∀(n:Nat) {t:Nat} {l:List Nat},a9e P n t=some l→∀fuel cs x,TR enc P w fuel t cs=some x→a8z enc P w l cs:=by
 intro n
 induction n with
 |zero=>intro t l h;cases h
 |succ n ih=>
  intro t l h fuel cs x hx;cases fuel with
  |zero=>cases hx
  |succ fuel=>
   have one:∀{v:Value},cs=[v]→l=[t]→a8z enc P w l cs:=by
    intro v hc hl;subst hc hl;refine ⟨rfl,fun j u v' h1 h2=>?_⟩;cases j with
    |zero=>simp only[yap,yak]at h1 h2;subst h1 h2;exact ⟨_,_,hx⟩
    |succ j=>simp at h1
   unfold a9e at h;unfold TR DataW.trod at hx;split at h
   ·rename_i fs hu;simp only[hu]at hx;split at h
    rotate_left
    ·cases h
    rename_i l' hl';rw[c4]at h;split at h
    rotate_left
    ·cases h
    rename_i hlen;rw[yaT]at hlen;cases h
    split at hx
    rotate_left
    ·cases hx
    rename_i hcl;rw[ya0]at hx;obtain ⟨xs,hm,-⟩:=hx;have:=d8v (enc:=enc) (w:=w) (cs:=cs) (fun t l h=>ih h) hl' (fun f hf=>let ⟨y,hy⟩:=b2m hm f hf;⟨fuel,y,hy⟩) ⟨by simp,fun j u v h=>by simp at h⟩
    rwa [ybY (by rw[hcl,hlen];exact yau _)]at this
   ·rename_i m e hu;simp only[hu]at hx;split at h
    rotate_left
    ·cases h
    rename_i le hle;rw[c4]at h;split at h
    rotate_left
    ·cases h
    rename_i hlen;rw[yad,yaT,yaT]at hlen;cases h
    split at hx
    rotate_left
    ·cases hx
    rename_i hcl;rw[ya0]at hx;obtain ⟨xs,hm,-⟩:=hx;have hel:∀i,i<m→a8z enc P w le ((cs.drop (i*le.length)).take le.length):=by
     intro i hi;obtain ⟨y,hy⟩:=b2m hm i (ybW.2 hi);rw[hlen.1];exact ih hle fuel _ y hy
    have key:∀(m' k:Nat),k+m'=m→∀ds,ds=cs.drop (k*le.length)→ds.length=(e82 le m').length→a8z enc P w (e82 le m') ds:=by
     intro m'
     induction m' with
     |zero=>intro k hk ds hd hl;simp only[e82,yaU]at hl;rw[yaC hl];exact ⟨rfl,fun j u v h=>by simp[e82]at h⟩
     |succ m' ihm=>
      intro k hk ds hd hl;have e1:ds=ds.take le.length++ds.drop le.length:=(List.take_append_drop _ _).symm;rw[e1];refine a8z.app (l:=le) (m:=e82 le m') (by rw[hd];exact hel k (by omega)) (ihm (k+1) (by omega) _ ?_ ?_)
      ·rw[hd,List.drop_drop,ya3,yb3]
      ·rw[ybc,hl];simp[e82]
    exact key m 0 (by omega) cs (by simp) (by rw[hcl,hlen.2])
   all_goals (first|(cases h;done)|skip)
   all_goals
    rename_i hu;simp only[yak]at h;simp only[hu]at hx;split at hx<;>first|exact one rfl h.symm|(cases hx;done)|skip
   all_goals (first|exact one rfl h.symm|simp_all)
end
section
variable {κ:Type} {El:κ→Type} {S:Sg κ El} {P:Program} {α β:Type}
def a50 (w:World) (b o:Nat):Prop:=∃v,w.cell? ⟨b,o,none⟩=some v
def j6 (P:Program) (S:Sg κ El) (u:Nat) (c:Cod κ El α) (R:α→Prop):Prop:=
 ∀(H:Type) (enc:TypeId×Value→H) (w:World) fuel v x,TR enc P w fuel u [v]=some x→∃a,R a∧DR S w (a50 w) (a50 w) v (c.enc a)
def e9 (P:Program) (S:Sg κ El) (ts:List Nat) (c:CC κ El α) (R:α→Prop):Prop:=
 ∀(H:Type) (enc:TypeId×Value→H) (w:World) cs,a8z enc P w ts cs→∃a,R a∧cs.length=(c.enc a).length∧∀(i:Nat) v d,cs[i]?=some v→(c.enc a)[i]?=some d→DR S w (a50 w) (a50 w) v d
theorem e9.nil:e9 P S [] (CC.nil:CC κ El Unit) (fun _=>True):=by
 intro H enc w cs h;have:cs=[]:=yaC (by simpa using h.1);subst this;exact ⟨(),trivial,rfl,fun i v d h=>by simp at h⟩
theorem e9.cons {u:Nat} {ts:List Nat} {c:Cod κ El α} {r:CC κ El β} {R:α→Prop} {R':β→Prop} (h:j6 P S u c R) (h':e9 P S ts r R'):e9 P S (u::ts) (CC.cons c r) (fun p=>R p.1∧R' p.2):=by
 intro H enc w cs hp;cases cs with
 |nil=>exact absurd hp.1 (by simp)
 |cons v cs=>
  obtain ⟨fuel,x,hx⟩:=hp.2 0 u v rfl rfl;obtain ⟨a,ha,hd⟩:=h H enc w fuel v x hx;obtain ⟨b,hb,hl,hall⟩:=h' H enc w cs ⟨by simpa using hp.1,fun j u v h1 h2=>hp.2 (j+1) u v (by simpa using h1) (by simpa using h2)⟩;refine ⟨(a,b),⟨ha,hb⟩,by simp[CC.cons,hl],fun i v' d h1 h2=>?_⟩;cases i with
  |zero=>simp only[CC.cons,yap,yak]at h1 h2;subst h1 h2;exact hd
  |succ i=>exact hall i v' d (by simpa using h1) (by simpa[CC.cons]using h2)
theorem e9.iso {ts:List Nat} {c:CC κ El β} {enc0:α→List (D κ El)} {to:β→α} {R:β→Prop} {R':α→Prop} (h:e9 P S ts c R) (h0:∀b,enc0 (to b)=c.enc b) (hR:∀b,R b→R' (to b)):e9 P S ts (c.iso enc0 to) R':=by
 intro H enc w cs hp;obtain ⟨b,hb,hl,hall⟩:=h H enc w cs hp;exact ⟨to b,hR b hb,by simp only[CC.iso,h0];exact hl,fun i v d h1 h2=>hall i v d h1 (by simpa only[CC.iso,h0]using h2)⟩
def inK (k:IntKind) (n:Int):Prop:=(Lit.int k n).wf=true
theorem j6.int {u:Nat} {k:IntKind} (hu:P.underlying u=some (.int k)):j6 P S u (Cod.int k) (inK k):=by
 intro H enc w fuel v x hx;cases fuel with
 |zero=>cases hx
 |succ fuel=>
  unfold TR DataW.trod at hx;simp only[hu]at hx;split at hx<;>try (cases hx;done)
  all_goals first
   |(
    rename_i k1 k2 n h1 h2;split at hx
    ·rename_i hk;cases h1;cases h2
     rw[hk.1];exact ⟨n,hk.2,.int _ _⟩
    ·cases hx)
   |simp_all
theorem j6.bool {u:Nat} (hu:P.underlying u=some .bool):j6 P S u (Cod.bool) (fun _=>True):=by
 intro H enc w fuel v x hx;cases fuel with
 |zero=>cases hx
 |succ fuel=>
  unfold TR DataW.trod at hx;simp only[hu]at hx;split at hx<;>try (cases hx;done)
  all_goals first
   |(rename_i b h1 h2;cases h2;exact ⟨b,trivial,.bool _⟩)
   |simp_all
theorem j6.str {u:Nat} (hu:P.underlying u=some .string):j6 P S u (Cod.str) (fun s=>s.length≤maxLen):=by
 intro H enc w fuel v x hx;cases fuel with
 |zero=>cases hx
 |succ fuel=>
  unfold TR DataW.trod at hx;simp only[hu]at hx;split at hx<;>try (cases hx;done)
  all_goals first
   |(
    rename_i s h1 h2;split at hx
    ·rename_i hs;cases h2
     exact ⟨s.data.toList,by simpa using hs,.str _⟩
    ·cases hx)
   |simp_all
theorem j6.lst {u e n:Nat} {k:κ} {ts:List Nat} {cc:CC κ El (El k)} {R:El k→Prop} [KdEq κ] (hu:P.underlying u=some (.slice e)) (hts:a9e P n e=some ts) (he:e9 P S ts cc R) (hcc:S.enc k=cc.enc) (hsz:S.sz k=P.cellsOf e) (hpos:0<P.cellsOf e) (hlen:∀x,(cc.enc x).length=S.sz k) :
 j6 P S u (Cod.lst k) (fun xs=>xs.length≤maxLen∧∀x∈xs,R x):=by
 intro H enc w fuel v x hx;show ∃a:List (El k),(a.length≤maxLen∧∀x∈a,R x)∧DR S w (a50 w) (a50 w) v (.lst k a)
 cases fuel with
 |zero=>cases hx
 |succ fuel=>
  have main:∀(a:Addr) (len cap:Nat),v=.slice (some a) len cap→(len≤cap∧cap≤maxLen)→(∀i,i<len→∃z,(w.cells? 0 (a.add (i*P.cellsOf e)) (P.cellsOf e)).bind (DataW.trod enc P w 0 (fun _=>true) true fuel e)=some z)→
   ∃a:List (El k),(a.length≤maxLen∧∀x∈a,R x)∧DR S w (a50 w) (a50 w) v (.lst k a):=by
   intro a len cap hv hb hm;subst hv;have hel:∀i,i<len→∃y:El k,R y∧∀j d,(S.enc k y)[j]?=some d→∃v,w.cell? ((a.add (i*P.cellsOf e)).add j)=some v∧DR S w (a50 w) (a50 w) v d:=by
    intro i hi;obtain ⟨z,hz⟩:=hm i hi;rw[ya8]at hz;obtain ⟨cs,hcs,htr⟩:=hz;obtain ⟨y,hy,hl,hall⟩:=he H enc w cs (b5h n hts fuel cs z htr);refine ⟨y,hy,fun j d hd=>?_⟩;rw[hcc]at hd;have hj:j<cs.length:=by rw[hl];exact (zL hd)
    obtain ⟨_,hn,hget⟩:=World.cells?_some hcs;refine ⟨cs[j],?_,hall j _ d (yab hj) hd⟩;rw[hget j (by omega)];exact yab hj
   cases len with
   |zero=>exact ⟨[],⟨by simp,fun x hx=>by cases hx⟩,.lst0 _ _ _ (fun h=>by cases h)⟩
   |succ len=>
    have hspot:a.spot=none:=by
     obtain ⟨y,hy,hc⟩:=hel 0 (by omega);have hl0:0<(S.enc k y).length:=by rw[hcc,hlen,hsz];exact hpos
     obtain ⟨v,hv,-⟩:=hc 0 _ (yab hl0);simp only[Nat.zero_mul,Addr.add,yby]at hv;cases hs:a.spot with
     |none=>rfl
     |some q=>unfold World.cell? at hv;simp[hs]at hv;split at hv<;>cases hv
    obtain ⟨b,off,spot⟩:=a;simp only at hspot;subst hspot;have hch:∃xs:List (El k),xs.length=len+1∧(∀x∈xs,R x)∧∀i (hi:i<xs.length) j d,(S.enc k xs[i])[j]?=some d→∃v,w.cell? ⟨b,off+(i*S.sz k+j),none⟩=some v∧DR S w (a50 w) (a50 w) v d:=by
     have:∀m,m≤len+1→∃xs:List (El k),xs.length=m∧(∀x∈xs,R x)∧∀i (hi:i<xs.length) j d,(S.enc k xs[i])[j]?=some d→∃v,w.cell? ⟨b,off+(i*S.sz k+j),none⟩=some v∧DR S w (a50 w) (a50 w) v d:=by
      intro m
      induction m with
      |zero=>intro _;exact ⟨[],rfl,fun x hx=>(by cases hx),fun i hi=>(by simp at hi)⟩
      |succ m ihm=>
       intro hm';obtain ⟨xs,h1,h2,h3⟩:=ihm (by omega);obtain ⟨y,hy,hc⟩:=hel m (by omega);refine ⟨xs++[y],by simp[h1],fun x hx=>?_,fun i hi j d hd=>?_⟩
       ·rcases yat.1 hx with hx|hx
        ·exact h2 x hx
        ·simp at hx;subst hx;exact hy
       ·by_cases hlt:i<xs.length
        ·rw[ybH hlt]at hd;exact h3 i hlt j d hd
        ·have hi':i=m:=by simp at hi;omega
         subst hi';rw[ybE (by omega)]at hd;simp only[h1,Nat.sub_self,List.getElem_cons_zero]at hd;obtain ⟨v,hv,hdr⟩:=hc j d hd;refine ⟨v,?_,hdr⟩;rw[a0v,a0v]at hv;rw[hsz,←yb5];exact hv
     exact this (len+1) (yau _)
    obtain ⟨xs,h1,h2,h3⟩:=hch;refine ⟨xs,⟨by rw[h1];omega,h2⟩,?_⟩;have key:=DR.lst (S:=S) (w:=w) (I:=a50 w) (J:=a50 w) b off cap k xs (fun i j=>(w.cell? ⟨b,off+(i*S.sz k+j),none⟩).getD undef) (by rw[h1];exact hb.1) (fun i j hi hj=>?_) (fun i hi j d hd=>?_)
    ·rw[h1]at key;exact key
    ·have hl0:j<(S.enc k xs[i]).length:=by rw[hcc,hlen];exact hj
     obtain ⟨v,hv,-⟩:=h3 i hi j _ (yab hl0);rw[hv];exact ⟨rfl,v,hv⟩
    ·obtain ⟨v,hv,hdr⟩:=h3 i hi j d hd;rw[hv];exact hdr
  unfold TR DataW.trod at hx;simp only[hu]at hx;split at hx<;>try (cases hx;done)
  all_goals first
   |(rename_i e' h1 h2;cases h2;exact ⟨[],⟨by simp,fun x hx=>by cases hx⟩,.lst0 _ _ _ (fun _=>rfl)⟩)
   |(
    rename_i e' a len cap h1 h2;cases h1
    split at hx
    ·rename_i hb;rw[ya8]at hx;obtain ⟨elems,hm,-⟩:=hx;exact main a len cap (by cases h2;rfl) hb.2 (fun i hi=>b2m hm i (ybW.2 hi))
    ·cases hx)
   |simp_all
theorem e9.agg {t n:Nat} {ts:List Nat} {cc:CC κ El α} {R:α→Prop} (hts:a9e P n t=some ts) (h:e9 P S ts cc R) {H:Type} {enc:TypeId×Value→H} {w:World} {v:Value} {d:DataW H} {ps:List MemPlace}
 (hv:∃cs,v=.agg cs) (hx:DataW.Trod enc P w 0 (fun _=>true) true t v d ps):∃a,R a∧DR S w (a50 w) (a50 w) v ((Cod.agg cc).enc a):=by
 obtain ⟨cs,rfl⟩:=hv;obtain ⟨fuel,hx⟩:=hx;obtain ⟨a,hR,hl,hall⟩:=h H enc w _ (b5h n hts fuel _ _ hx);refine ⟨a,hR,.agg cs _ (by simpa[Value.cells]using hl) (fun i v d h1 h2=>hall i v d ?_ h2)⟩;simpa[Value.cells]using h1
end
end
section
section
variable {κ:Type} {El:κ→Type} {S:Sg κ El} {P:Program}
theorem d4o {w:World} {b o:Nat} (h:a50 w b o):b<w.heap.size:=by
 obtain ⟨v,hv⟩:=h;unfold World.cell? at hv;split at hv
 ·rename_i hb;exact (yah.1 hb).1
 ·cases hv
theorem d7y {f:Nat} {fn:Func} {code:Code} (fok:FnOk P f fn code) (hmd:S.md f=.data) {ds:List (D κ El)} (hcon:Con P S f ds [] (.bool true) []) {W:World} {args:Array Value} (hgl:b3z S W (a50 W)) (hgb:d0i S W []) (ha:b6v S W (a50 W) (a50 W) args ds) :
 Calls P f args W fun e W'=>e=.returned (.bool true)∧RowKit.Below W.heap.size W W':=by
 unfold Con at hcon;rw[hmd]at hcon;have h:=hcon rfl W (a50 W) (a50 W) args ⟨hgl,fun b o h=>d4o h,fun b o h=>h,fun b o h=>⟨d4o h,by simp⟩,hgb⟩ ha;unfold a1v at h;rw[MuLone.run_callFunc_enter fok.at_ fok.name fok.body args W]at h;simp only at h;refine Calls.mono h (fun e W' he=>?_);cases e with
 |returned v=>
  obtain ⟨I',hg,hd⟩:=he;exact ⟨by rw[hd.bool_inv],⟨hg.os,hg.tape,hg.out,hg.size,fun b hb=>hg.keep b hb⟩⟩
 |_=>exact he.elim
theorem e4n {w:World}:b6v S w (a50 w) (a50 w) #[] ([]:List (D κ El)):=⟨rfl,fun i v d h=>by simp at h⟩
theorem b1a {w:World} {v:Value} {vs:Array Value} {d:D κ El} {ds:List (D κ El)} (h:DR S w (a50 w) (a50 w) v d) (h':b6v S w (a50 w) (a50 w) vs ds):b6v S w (a50 w) (a50 w) (#[v]++vs) (d::ds):=by
 refine ⟨by simp[h'.1];omega,fun i v' d' h1 h2=>?_⟩;cases i with
 |zero=>
  simp only[yap,yak]at h2;subst h2;rw[ybz (by simp)]at h1;simp at h1;subst h1;exact h
 |succ i=>
  rw[ybK (by simp)]at h1;exact h'.2 i v' d' (by simpa using h1) (by simpa using h2)
theorem e6u {W:World} (h:∀n k xs,S.glob n=some ⟨k,xs⟩→∀i (hi:i<xs.length) j d,(S.enc k xs[i])[j]?=some d→∃v,W.cell? ⟨n,i*S.sz k+j,none⟩=some v∧DR S W (a50 W) (a50 W) v d):b3z S W (a50 W):=
 fun n k xs hg i hi j d hd=>let ⟨v,h1,h2⟩:=h n k xs hg i hi j d hd;⟨v,h1,⟨v,h1⟩,h2⟩
theorem j6.dr {α:Type} {u:Nat} {c:Cod κ El α} {R:α→Prop} (h:j6 P S u c R) {H:Type} {enc:TypeId×Value→H} {w:World} {v:Value} {d:DataW H} {ps:List MemPlace} (hv:v.cells.toList=[v])
 (hx:DataW.Trod enc P w 0 (fun _=>true) true u v d ps):∃a,R a∧DR S w (a50 w) (a50 w) v (c.enc a):=by
 obtain ⟨fuel,hx⟩:=hx;rw[hv]at hx;exact h H enc w fuel v _ hx
end
end
section
section
variable {κ:Type} {El:κ→Type} {α β γ ρ:Type}
class CodC (c:Cod κ El α):Prop where ok:f8 c
class CCC (c:CC κ El α):Prop where ok:j8 c
class FCC (c:FC κ El α):Prop where ok:a30 c
instance (k:IntKind):CodC (Cod.int k:Cod κ El Int):=⟨f8.int k⟩
instance:CodC (Cod.bool:Cod κ El Bool):=⟨f8.bool⟩
instance:CodC (Cod.str:Cod κ El (List UInt8)):=⟨f8.str⟩
instance:CodC (Cod.unit:Cod κ El Unit):=⟨f8.unit⟩
instance (n:Nat):CodC (Cod.ptrc n:Cod κ El Unit):=⟨f8.ptrc n⟩
instance [KdEq κ] (k:κ):CodC (Cod.lst k:Cod κ El (List (El k))):=⟨f8.lst k⟩
instance (c:CC κ El α) [CCC c]:CodC (Cod.agg c):=⟨f8.agg CCC.ok⟩
instance (c:CC κ El α) [CCC c]:CodC (Cod.cptr c):=⟨f8.cptr CCC.ok⟩
instance (c:CC κ El (α×β×Unit)) [CCC c]:CodC (Cod.tup2 c):=⟨f8.tup2 CCC.ok⟩
instance (c:CC κ El (α×β×γ×Unit)) [CCC c]:CodC (Cod.tup3 c):=⟨f8.tup3 CCC.ok⟩
instance (f:Nat) (p:CC κ El α) (c:CC κ El β) [CCC p] [CCC c]:CodC (Cod.fnc f p c):=⟨f8.fnc f CCC.ok CCC.ok⟩
def Cod.clo (f:Nat) (c:CC κ El β):Cod κ El β:=(Cod.fnc f CC.nil c).iso (fun g=>g.2) (fun g=>((),g))
instance (f:Nat) (c:CC κ El β) [CCC c]:CodC (Cod.clo f c):=⟨f8.iso (f8.fnc f j8.nil CCC.ok) (fun _=>rfl)⟩
instance:CCC (CC.nil:CC κ El Unit):=⟨j8.nil⟩
instance (c:Cod κ El α) (r:CC κ El β) [CodC c] [CCC r]:CCC (CC.cons c r):=⟨j8.cons CodC.ok CCC.ok⟩
instance (c:Cod κ El α) [CodC c]:CCC (CC.one c):=⟨j8.one CodC.ok⟩
instance:FCC (FC.nil:FC κ El Unit):=⟨a30.nil⟩
instance (s:Nat) (c:Cod κ El α) (r:FC κ El β) [CodC c] [FCC r]:FCC (FC.slot s c r):=⟨a30.slot s CodC.ok FCC.ok⟩
instance (s b:Nat) (r:FC κ El β) [FCC r]:FCC (FC.ptr s b r):=⟨a30.ptr s b FCC.ok⟩
instance (s b:Nat) (r:FC κ El β) [FCC r]:FCC (FC.arr s b r):=⟨a30.arr s b FCC.ok⟩
instance (s:Nat) (r:FC κ El β) [FCC r]:FCC (FC.nilS s r):=⟨a30.nilS s FCC.ok⟩
instance (s f:Nat) (pre caps:List Nat) (r:FC κ El β) [FCC r]:FCC (FC.clo s f pre caps r):=⟨a30.clo s f pre caps FCC.ok⟩
instance (b:Nat) (c:CC κ El α) (r:FC κ El β) [CCC c] [FCC r]:FCC (FC.box b c r):=⟨a30.box b CCC.ok FCC.ok⟩
instance [KdEq κ] (n:Nat) (k:κ) (s:Bool) (r:FC κ El β) [FCC r]:FCC (FC.own n k s r):=⟨a30.own n k s FCC.ok⟩
instance (s:Nat) (x:FL) (r:FC κ El β) [FCC r]:FCC (FC.fix s x r):=⟨a30.fix s x FCC.ok⟩
instance (s:Nat) (x:List FL) (r:FC κ El β) [FCC r]:FCC (FC.fixa s x r):=⟨a30.fixa s x FCC.ok⟩
instance (s:Nat) (x:List FL) (r:FC κ El β) [FCC r]:FCC (FC.fixb s x r):=⟨a30.fixb s x FCC.ok⟩
instance [KdEq κ] (n:Nat) (k:κ) (r:FC κ El β) [FCC r]:FCC (FC.map n k r):=⟨a30.map n k FCC.ok⟩
end
section
variable {κ:Type} {El:κ→Type} {S:Sg κ El} {P:Program}
variable {R:Type} {f:Nat} {α β ρ:Type}
def cl (n:Nat) (s:a3a κ El R) (r:Nat→a3a κ El R):Nat→a3a κ El R:=fun f ds bs k=>bif Nat.beq f n then s ds bs k else r f ds bs k
def c0:Nat→a3a κ El R:=fun _ _ _ _=>none
def si (ac:CC κ El α) (s1 s2:a3a κ El R):a3a κ El R:=fun ds bs k=>d2i (ac.dec ds) (s1 ds bs k) (s2 ds bs k)
def s0:a3a κ El R:=fun _ _ _=>none
structure CG (P:Program) (S:Sg κ El) (call:{R:Type}→Nat→a3a κ El R):Prop where
 nat:∀{R:Type},u5 (R:=R) call
 ok:∀{R:Type},a0j (R:=R) P S call
structure SG (P:Program) (S:Sg κ El) (f:Nat) (sem:{R:Type}→a3a κ El R):Prop where
 nat:∀{R:Type},a7z (R:=R) sem
 ok:∀{R:Type},b6x (R:=R) P S f sem
theorem cg0:CG P S (fun {R}=>(c0:Nat→a3a κ El R)):=⟨c3z,d01⟩
theorem cgc {n:Nat} {s:{R:Type}→a3a κ El R} {r:{R:Type}→Nat→a3a κ El R} (h:SG P S n @s) (hr:CG P S @r):CG P S (fun {R}=>cl n (s (R:=R)) (r (R:=R))):=⟨b9o h.nat hr.nat,c31 h.ok hr.ok⟩
theorem sg0:SG P S f (fun {R}=>(s0:a3a κ El R)):=⟨e85,g13⟩
theorem sgi {ac:CC κ El α} {s1 s2:{R:Type}→a3a κ El R} (h1:SG P S f @s1) (h2:SG P S f @s2):SG P S f (fun {R}=>si ac (s1 (R:=R)) (s2 (R:=R))):=⟨e06 ac h1.nat h2.nat,e86 ac h1.ok h2.ok⟩
theorem sgP {ac:CC κ El α} {rc:Cod κ El ρ} {F:α→Option ρ} (h:∀ds a r,ac.dec ds=some a→F a=some r→Con P S f ds [] (rc.enc r) []):SG P S f (fun {R}=>(m9 ac rc F:a3a κ El R)):=⟨e89,g2a h⟩
theorem sgM {ac:CC κ El α} {bc:BC κ El β} {rc:Cod κ El ρ} {F:α→β→Option (ρ×β)} (h:∀ds bs a b r b',ac.dec ds=some a→bc.dec bs=some b→F a b=some (r,b')→Con P S f ds bs (rc.enc r) (bc.enc b')):SG P S f (fun {R}=>(b4n ac bc rc F:a3a κ El R)):=⟨e87,g15 h⟩
theorem sgN {ac:CC κ El α} {cc:CC κ El ρ} {F:α→Option ρ} (h:∀ds a r,ac.dec ds=some a→F a=some r→Con P S f ds [] (.tup []) [cc.enc r]):SG P S f (fun {R}=>(f3u ac cc F:a3a κ El R)):=⟨e88,g16 h⟩
theorem SG.con {ac:CC κ El α} {rc:Cod κ El ρ} {F:α→Option ρ} (h:SG P S f (fun {R}=>(m9 ac rc F:a3a κ El R))) {ds:List (D κ El)} {a:α} {r:ρ} (hd:ac.dec ds=some a) (hf:F a=some r):Con P S f ds [] (rc.enc r) []:=by
 obtain ⟨d,bs',h1,h2⟩:=h.ok ds [] (fun d bs=>some (d,bs)) (rc.enc r,[]) (by unfold m9;simp[hd,hf]);cases h1
 exact h2
abbrev Lp (κ:Type) (El:κ→Type) (R:Type):=Nat→St κ El→(Ex→St κ El→Option R)→Option R
def lp (n:Nat) (s:St κ El→(Ex→St κ El→Option R)→Option R) (r:Lp κ El R):Lp κ El R:=fun i st k=>bif Nat.beq i n then s st k else r i st k
def l0:Lp κ El R:=fun _ _ _=>none
variable [KdEq κ] {m:Nat} {fn:Func} {loops:{R:Type}→Lp κ El R} {call:{R:Type}→Nat→a3a κ El R}
theorem ptC {ta:List (Nat×Nat×κ)} {se ss bs as:List Nat} {fc:FC κ El α} [FCC fc] (sgk:SgOk S) (hh:b4a m ta bs as fc.bs fc.as=true):g4q P S m (g41 ta se ss bs as) fc:=g1p sgk FCC.ok hh
theorem prC {rs ps bs:List Nat} {fc:FC κ El α} [FCC fc] (sgk:SgOk S) (hh:b4a (κ:=κ) m [] bs [] fc.bs fc.as=true):g4q P S m (b8h rs ps bs) fc:=d2o sgk FCC.ok hh
theorem a2s {ac:CC κ El α} {rc:Cod κ El ρ} {F:α→Option ρ} [CCC ac] [CodC rc] (G:GoodP P S) (hat:P.funcs[f]?=some fn) {ids:List Nat} (fb:fnB P f fn ids=true) (hmd:S.md f=.data) (cc:CG P S @call)
 (hl:∀i∈ids,d9 P S 0 fn @loops i) (e:∀a,d3e P S call (loops (R:=ρ)) fn (ac.enc a) [] (b4l rc)=F a):SG P S f (fun {R}=>(m9 ac rc F:a3a κ El R)):=by
 obtain ⟨code,fok,hn,hids⟩:=y3 hat fb;exact sgP (c7j G G.ok.mixed fok cc.nat cc.ok CCC.ok CodC.ok hmd (c0l fok hids hn hl) e)
theorem c7i {ac:CC κ El α} {cb:CC κ El β} {rc:Cod κ El ρ} {F:α→β→Option (ρ×β)} [CCC ac] [CCC cb] [CodC rc] (G:GoodP P S) (hat:P.funcs[f]?=some fn) {ids:List Nat} (fb:fnB P f fn ids=true) (hmd:S.md f=.mut) (cc:CG P S @call)
 (hl:∀i∈ids,d9 P S 1 fn @loops i) (e:∀a b,d3e P S call (loops (R:=ρ×β)) fn (ac.enc a) ((BC.one cb).enc b) (h0f rc (BC.one cb))=F a b):SG P S f (fun {R}=>(b4n ac (BC.one cb) rc F:a3a κ El R)):=by
 obtain ⟨code,fok,hn,hids⟩:=y3 hat fb;exact sgM (d5q G G.ok.mixed fok cc.nat cc.ok CCC.ok (e3x.one CCC.ok) CodC.ok (m:=1) (fun _=>rfl) (by show 1<99999;decide) hmd (c0l fok hids hn hl) e)
theorem h24 {ac:CC κ El α} {rc:CC κ El ρ} {F:α→Option ρ} [CCC ac] [CCC rc] (G:GoodP P S) (hat:P.funcs[f]?=some fn) {ids:List Nat} (fb:fnB P f fn ids=true) (hmd:S.md f=.newb) (cc:CG P S @call)
 (hl:∀i∈ids,d9 P S 0 fn @loops i) (e:∀a,a9l P S call (loops (R:=ρ)) fn (ac.enc a) (h1c rc)=F a):SG P S f (fun {R}=>(f3u ac rc F:a3a κ El R)):=by
 obtain ⟨code,fok,hn,hids⟩:=y3 hat fb;exact sgN (c7l G G.ok.mixed fok cc.nat cc.ok CCC.ok CCC.ok hmd (c0l fok hids hn hl) e)
theorem g4v {k0 kr:κ} {F:List (El k0)×Unit→Option (List (El kr))} (G:GoodP P S) (hat:P.funcs[f]?=some fn) {ids:List Nat} (fb:fnB P f fn ids=true) (hmd:S.md f=.fresh) (cc:CG P S @call)
 (hl:∀i∈ids,d9 P S 0 fn @loops i) (e:∀a,a23 P S call (loops (R:=List (El kr))) fn [.lsn k0 a] (b4l (Cod.lst kr))=F (a,()))
 (e0:a23 P S call (loops (R:=List (El kr))) fn [.nil] (b4l (Cod.lst kr))=F ([],())):SG P S f (fun {R}=>(m9 (CC.cons (Cod.lst k0) CC.nil) (Cod.lst kr) F:a3a κ El R)):=by
 obtain ⟨code,fok,hn,hids⟩:=y3 hat fb;exact sgP (d6v G fok cc.nat cc.ok hmd (c0l fok hids hn hl) e e0)
theorem h1m {ac:CC κ El α} {kr:κ} {F:List (El kr)×α→Option (List (El kr))} [CCC ac] (G:GoodP P S) (hat:P.funcs[f]?=some fn) {ids:List Nat} (fb:fnB P f fn ids=true) (hmd:S.md f=.inpl) (cc:CG P S @call)
 (hl:∀i∈ids,d9 P S MA fn @loops i) (e:∀a,a9k P S call (loops (R:=List (El kr))) fn kr a.1 (ac.enc a.2) (b4l (Cod.lst kr))=F a):SG P S f (fun {R}=>(m9 (CC.cons (Cod.lst kr) ac) (Cod.lst kr) F:a3a κ El R)):=by
 obtain ⟨code,fok,hn,hids⟩:=y3 hat fb;exact sgP (c7k G G.ok.mixed fok cc.nat cc.ok CCC.ok hmd (c0l fok hids hn hl) e)
theorem h25 {ac:CC κ El α} {rc:Cod κ El ρ} {kr:κ} {F:α→Option (ρ×List (El kr))} [CCC ac] [CodC rc] (G:GoodP P S) (hat:P.funcs[f]?=some fn) {ids:List Nat} (fb:fnB P f fn ids=true) (hmd:S.md f=.nmap) (cc:CG P S @call)
 (hl:∀i∈ids,d9 P S 0 fn @loops i) (e:∀a,a9m P S call (loops (R:=ρ×List (El kr))) fn (ac.enc a) (h0i rc kr)=F a):SG P S f (fun {R}=>(m9 ac (Cod.tup2 (CC.cons rc (CC.cons (Cod.lst kr) CC.nil))) F:a3a κ El R)):=by
 obtain ⟨code,fok,hn,hids⟩:=y3 hat fb;exact sgP (c7m G G.ok.mixed fok cc.nat cc.ok CCC.ok CodC.ok hmd (c0l fok hids hn hl) e)
end
end
section
section
variable {κ:Type} {El:κ→Type}
inductive OC (κ:Type) (El:κ→Type):Type→Type 1
 |x {α:Type} (i:Nat) (ss bs as:List Nat) (fo:FC κ El α) [h:FCC fo]:OC κ El α
 |r {α:Type} (rs ps bs:List Nat) (fo:FC κ El α) [h:FCC fo]:OC κ El α
 |xs {α β:Type} (i:Nat) (ss bs as:List Nat) (fo:FC κ El α) [h:FCC fo] (rest:OC κ El β):OC κ El (α⊕β)
def OC.outs {β γ:Type}:OC κ El β→(β→γ)→Ex→St κ El→Option γ
 |.x i ss bs as fo (h:=_),f,e,st=>(match e with | .exit j=>bif Nat.beq j i then b2p (g41 [] [] ss bs as) fo st f else none|_=>none)
 |.r rs ps bs fo (h:=_),f,e,st=>(match e with | .ret=>b2p (b8h rs ps bs) fo st f|_=>none)
 |.xs i ss bs as fo rest (h:=_),f,e,st=>(match e with
  |.exit j=>bif Nat.beq j i then b2p (g41 [] [] ss bs as) fo st (fun a=>f (.inl a)) else rest.outs (fun y=>f (.inr y)) (.exit j) st
  |.ret=>rest.outs (fun y=>f (.inr y)) .ret st
  |.normal=>none)
def OC.outk {β R:Type}:OC κ El β→β→(Ex→St κ El→Option R)→Option R
 |.x i _ _ _ fo (h:=_),b,k=>k (.exit i) (fo.enc b)
 |.r _ _ _ fo (h:=_),b,k=>k .ret (fo.enc b)
 |.xs i _ _ _ fo rest (h:=_),b,k=>(match b with | .inl a=>k (.exit i) (fo.enc a) | .inr y=>rest.outk y k)
def OC.out {β:Type}:OC κ El β→β→Ex×St κ El
 |.x i _ _ _ fo (h:=_),b=>(.exit i,fo.enc b)
 |.r _ _ _ fo (h:=_),b=>(.ret,fo.enc b)
 |.xs i _ _ _ fo rest (h:=_),b=>(match b with | .inl a=>(.exit i,fo.enc a) | .inr y=>rest.out y)
def OC.good {β:Type} (m:Nat):OC κ El β→Bool
 |.x _ _ bs as fo (h:=_)=>b4a (κ:=κ) m [] bs as fo.bs fo.as
 |.r _ _ bs fo (h:=_)=>b4a (κ:=κ) m [] bs [] fo.bs fo.as
 |.xs _ _ bs as fo rest (h:=_)=>b4a (κ:=κ) m [] bs as fo.bs fo.as&&rest.good m
theorem OC.outk_out {β R:Type} (k:Ex→St κ El→Option R):∀(o:OC κ El β) (b:β),o.outk b k=k (o.out b).1 (o.out b).2:=by
 intro o
 induction o with
 |x=>intro b;simp only[OC.outk,OC.out]
 |r=>intro b;simp only[OC.outk,OC.out]
 |xs i ss bs as fo rest ih=>
  intro b;cases b with
  |inl x=>simp only[OC.outk,OC.out]
  |inr y=>simp only[OC.outk,OC.out];exact ih y
end
section
variable {κ:Type} {El:κ→Type} {S:Sg κ El} {P:Program} {m:Nat} [KdEq κ]
theorem OC.ok {β:Type} (sgk:SgOk S):∀(o:OC κ El β),o.good m=true→∀{γ:Type} (f:β→γ) (e:Ex) (st:St κ El) (c:γ),o.outs f e st=some c→∃b,c=f b∧(o.out b).1=e∧c6v P S m st (o.out b).2:=by
 intro o
 induction o with
 |x i ss bs as fo=>
  intro hg γ f e st c h;simp only[OC.good]at hg;cases e with
  |exit j=>
   simp only[OC.outs,c4]at h;split at h
   ·rename_i e;rw[yaT]at e;subst e;obtain ⟨x,rfl,hto⟩:=a6o (P:=P) (S:=S) (m:=m) (ptC sgk hg) h;refine ⟨x,rfl,?_⟩;simp only[OC.out];exact ⟨trivial,hto⟩
   ·cases h
  |ret=>simp only[OC.outs]at h;cases h
  |normal=>simp only[OC.outs]at h;cases h
 |r rs ps bs fo=>
  intro hg γ f e st c h;simp only[OC.good]at hg;cases e with
  |exit j=>simp only[OC.outs]at h;cases h
  |normal=>simp only[OC.outs]at h;cases h
  |ret=>
   simp only[OC.outs]at h;obtain ⟨x,rfl,hto⟩:=a6o (P:=P) (S:=S) (m:=m) (prC sgk hg) h;refine ⟨x,rfl,?_⟩;simp only[OC.out];exact ⟨trivial,hto⟩
 |xs i ss bs as fo rest ih=>
  intro hg γ f e st c h;simp only[OC.good,yad]at hg;cases e with
  |normal=>simp only[OC.outs]at h;cases h
  |ret=>
   simp only[OC.outs]at h;obtain ⟨b,h1,h2,h3⟩:=ih hg.2 _ _ _ _ h;refine ⟨.inr b,h1,?_⟩;simp only[OC.out];exact ⟨h2,h3⟩
  |exit j=>
   simp only[OC.outs,c4]at h;split at h
   ·rename_i e;rw[yaT]at e;subst e;obtain ⟨x,rfl,hto⟩:=a6o (P:=P) (S:=S) (m:=m) (ptC sgk hg.1) h;refine ⟨.inl x,rfl,?_⟩;simp only[OC.out];exact ⟨trivial,hto⟩
   ·obtain ⟨b,h1,h2,h3⟩:=ih hg.2 _ _ _ _ h;refine ⟨.inr b,h1,?_⟩;simp only[OC.out];exact ⟨h2,h3⟩
structure LD (κ:Type) (El:κ→Type) (α β:Type) where
 ta:List (Nat×Nat×κ)
 se:List Nat
 ss:List Nat
 bs:List Nat
 as:List Nat
 fc:FC κ El α
 [ok:FCC fc]
 step:α→Option (α⊕β)
 oc:OC κ El β
abbrev LD.pr {α β:Type} (L:LD κ El α β):St κ El→Option (St κ El):=g41 L.ta L.se L.ss L.bs L.as
abbrev LD.sem {α β R:Type} (L:LD κ El α β):St κ El→(Ex→St κ El→Option R)→Option R:=h0k L.pr L.fc L.step (fun b k=>L.oc.outk b k)
abbrev LD.leaf {α β:Type} (L:LD κ El α β):Ex→St κ El→Option (α⊕β):=d1v L.pr L.fc (L.oc.outs (fun b=>b))
def LD.good {α β:Type} (L:LD κ El α β) (m:Nat) (fn:Func) (n:Nat) (ids inn:List Nat):Bool:=
 ids.any (Nat.beq n)&&(fnB.beqL ((f9 (a0a fn n)).map i7) inn&&(b4a m L.ta L.bs L.as L.fc.bs L.fc.as&&L.oc.good m))
variable {f:Nat} {α β ρ:Type} {fn:Func} {loops:{R:Type}→Lp κ El R} {call:{R:Type}→Nat→a3a κ El R}
theorem o0 {n:Nat} (L:LD κ El α β) (G:GoodP P S) (hat:P.funcs[f]?=some fn) {ids:List Nat} (fb:fnB P f fn ids=true) (cc:CG P S @call) {inn:List Nat} (hl:∀i∈inn,d9 P S m fn @loops i)
 (el:∀a,evc P S call (loops (R:=α⊕β)) (a0a fn n) (L.fc.enc a) L.leaf=L.step a) (hb:L.good m fn n ids inn=true)
 (heq:∀{R:Type} (st:St κ El) (k:Ex→St κ El→Option R),loops n st k=L.sem st k):d9 P S m fn @loops n:=by
 obtain ⟨code,fok,hn,hids⟩:=y3 hat fb;unfold LD.good at hb;simp only[yad]at hb;obtain ⟨h1,h2,h3,h4⟩:=hb;have:=L.ok;refine d9b L.oc.out G fok hids hn (a2c.1 h1) cc.nat cc.ok (c3x h2) hl el (ptC G.sgk h3) ?_ (fun b k=>L.oc.outk_out k b) heq;intro e st b h;obtain ⟨b',e1,e2,e3⟩:=L.oc.ok (P:=P) G.sgk h4 _ _ _ _ h;rw[e1];exact ⟨e2,e3⟩
theorem a0c {ac:CC κ El α} {rc:Cod κ El ρ} {F:α→Option ρ} [CCC ac] [CodC rc] (G:GoodP P S) (hat:P.funcs[f]?=some fn) (fb:fnB P f fn []=true) (hmd:S.md f=.data) (cc:CG P S @call)
 (e:∀a,d3e P S call l0 fn (ac.enc a) [] (b4l rc)=F a):SG P S f (fun {R}=>(m9 ac rc F:a3a κ El R)):=a2s (loops:=l0) G hat fb hmd cc d7 e
end
end
section
section
variable {κ:Type} {El:κ→Type}
def h1a (bx:List (Nat×List (D κ El))):Nat→List Nat→List Nat→List Nat
 |0,_,seen=>seen
 |_+1,[],seen=>seen
 |n+1,b::work,seen=>bif seen.any (Nat.beq b) then h1a bx n work seen else
  h1a bx n ((match b9 b bx with|some cs=>(cs.flatMap a7b).filterMap (fun p=>bif Nat.beq p.1 0 then some p.2 else none)|none=>[])++work) (b::seen)
def g8f (st:St κ El) (ss:List Nat):List Nat:=
 match st.bx.map (·.1),st.ar.map (·.1) with
 |bs,as=>ss.filter fun s=>match b9 s st.env with|some d=>c56 bs as d|none=>false
def nub:List Nat→List Nat→List Nat
 | [],acc=>acc
 |n::l,acc=>bif acc.any (Nat.beq n) then nub l acc else nub l (n::acc)
def g8q (l:List (Nat×Nat)):List Nat:=l.filterMap fun p=>bif Nat.beq p.1 0 then some p.2 else none
def g6a (l:List (Nat×Nat)):List Nat:=l.filterMap fun p=>bif Nat.beq p.1 0 then none else some p.2
def mbs (m:Nat):List Nat:=bif Nat.beq m MA then [] else (List.range m).map (MB + ·)
def gcL (m:Nat) (ss:List Nat) (st:St κ El):Option (St κ El):=
 match g8f st ss with
 |ss=>match (a4t st.env ss).flatMap (fun p=>a7b p.2) with
 |fs=>match h1a st.bx 4096 (mbs m++g8q fs) []with
  |bs=>match nub (g6a (fs++bs.flatMap fun b=>match b9 b st.bx with|some cs=>cs.flatMap a7b|none=>[])) (bif Nat.beq m MA then [MA] else []) with
   |as=>bif (bif Nat.beq m MA then as.any (Nat.beq MA) else Nat.ble m 1000&&(List.range m).all (fun j=>bs.any (Nat.beq (MB+j)))) then c6a ss bs as st else none
section
variable [KdEq κ] {P:Program} {S:Sg κ El}
theorem c0i {m:Nat} {ss:List Nat} {st st1:St κ El} (h:gcL m ss st=some st1):c6v P S m st st1:=by
 intro c g a w hr hc;unfold gcL at h;simp only at h;generalize nub _ _=as at h;generalize g8f _ _=ss at h;generalize h1a _ _ _ _=bs at h;cases hb:Nat.beq m MA with
 |true=>
  rw[hb]at h;simp only[yac]at h;rw[c4]at h;split at h
  ·rename_i h4;rw[yaT]at hb;subst hb;have hb:=(Cx.ar_own hc).2;exact b0y h hr ⟨fun j hj=>(by rw[hb]at hj;cases hj),fun _=>a2c.1 h4⟩
  ·cases h
 |false=>
  rw[hb]at h;simp only[yaa]at h;rw[c4]at h;split at h
  ·rename_i h4;rw[yad,Nat.ble_eq]at h4;obtain ⟨h5,h6⟩:=Cx.ar_box hc (Nat.lt_of_le_of_lt h4.1 (by decide));exact b0y h hr ⟨fun j hj=>a2c.1 (yaj.1 h4.2 j (by simpa[h6]using hj)),fun hp=>absurd h5 hp⟩
  ·cases h
end
variable [KdEq κ] (P:Program) (S:Sg κ El)
def h00 (call:Nat→a3a κ El (St κ El⊕(Ex×St κ El))) (loops:Lp κ El (St κ El⊕(Ex×St κ El))) (m:Nat) (ss:List Nat) (body:Code) (st:St κ El):Option (St κ El⊕(Ex×St κ El)):=
 evc P S call loops body st (fun e st=>match e with
  |.normal=>(match gcL m ss st with|some st=>some (.inl st)|none=>none)
  |.exit i=>some (.inr (.exit i,st))
  |.ret=>some (.inr (.ret,st)))
def a33 (call:{R:Type}→Nat→a3a κ El R) (fn:Func) (m:Nat):Nat→{R:Type}→Lp κ El R
 |0,_=>l0
 |d+1,_=>fun id st k=>match nub (st.env.map (·.1)) []with
  |ss=>match gcL m ss st with
   |some st=>(match o4 (h00 P S call (a33 call fn m d) m ss (a0a fn id)) b8y st with
    |some (e,st)=>k e st
    |none=>none)
   |none=>none
theorem d9c {call:{R:Type}→Nat→a3a κ El R} {f:Nat} {fn:Func} {code:Code} (G:GoodP P S) (fok:FnOk P f fn code) {ids:List Nat} (hids:(f9 code).map i7=ids) (hn:a6n ids=true)
 (cn:∀{R:Type},u5 (R:=R) call) (cok:∀{R:Type},a0j (R:=R) P S call) {m:Nat}:∀(d:Nat),∀id∈ids,d9 P S m fn (fun {R}=>a33 P S @call fn m d (R:=R)) id:=by
 intro d
 induction d with
 |zero=>intro id _ nt _ R st k r h;cases h
 |succ d ih=>
  intro id hm nt hnt R st k r h;obtain ⟨hmem,hfr⟩:=b74 fok.body hids hn hm;unfold a33 at h;simp only at h;generalize nub _ _=ss at h;split at h
  ·rename_i st1 h1;split at h
   ·rename_i e st2 hw;refine ⟨e,st2,h,fun {c g act w} hr hnt' hm' {Q} hQ=>?_⟩;obtain ⟨g',hr'⟩:=c0i (P:=P) (S:=S) h1 hr hm';refine wp_loop_rounds b8y (c2z (α:=St κ El) (β:=Ex×St κ El) (enc:=fun st=>st) (out:=fun p=>p) (fun a x hs=>?_) b8y hw hr' hnt' hm' hQ);unfold h00 at hs;obtain ⟨e',st',hleaf,hev⟩:=c7t (fn:=fn) (loops:=fun {R}=>a33 P S @call fn m d (R:=R)) G G.ok.mixed cn cok ((fok.dst.mono hnt).body hmem)
     (fun b hb=>⟨a6m fok.body (by rw[hids];exact hn) b (a2a hmem hb),ih _ (by rw[←hids];exact ybb.2 ⟨b,a2a hmem hb,rfl⟩) nt hnt⟩) hs
    cases e' with
    |normal=>
     simp only at hleaf;split at hleaf
     ·rename_i st3 h3;cases hleaf
      exact ⟨st',c0i (P:=P) h3,hev⟩
     ·cases hleaf
    |exit i=>cases hleaf;exact ⟨st',.exit i,by simp,rfl,fun hr _=>⟨_,hr⟩,hev⟩
    |ret=>cases hleaf;exact ⟨st',.ret,by simp,rfl,fun hr _=>⟨_,hr⟩,hev⟩
   ·cases h
  ·cases h
def idD:Cod κ El (D κ El):=⟨fun d=>d,some⟩
def idC:CC κ El (List (D κ El)):=⟨fun d=>d,some⟩
def idB (m:Nat):BC κ El {bs:List (List (D κ El)) // bs.length=m}:=⟨fun b=>b.1,fun bs=>if h:bs.length=m then some ⟨bs,h⟩ else none⟩
theorem d7j:f8 (idD:Cod κ El (D κ El)):=fun d a h=>by cases h;exact .refl _
theorem b49:j8 (idC:CC κ El (List (D κ El))):=fun d a h=>by cases h;exact .refl _
theorem g76 (m:Nat):e3x (idB m:BC κ El _):=fun bs b h=>by
 unfold idB at h;simp only at h;split at h
 ·cases h;exact ⟨rfl,fun j cs cs' h1 h2=>by simp only[idB]at h2;rw[h1]at h2;cases h2;exact .refl _⟩
 ·cases h
def h2n (call:{R:Type}→Nat→a3a κ El R) (fn:Func) (md:Md) (dep:Nat) (ds:List (D κ El)) (bs:List (List (D κ El))):Option (D κ El×List (List (D κ El))):=
 match md with
 |.data=>(match bs with
  | []=>(match d3e P S call (a33 P S @call fn 0 dep) fn ds [] (b4l idD) with|some d=>some (d,[])|none=>none)
  |_=>none)
 |.mut=>bif Nat.blt bs.length MA then (match d3e P S call (a33 P S @call fn bs.length dep) fn ds bs (h0f idD (idB bs.length)) with|some (d,b)=>some (d,b.1)|none=>none) else none
 |.fresh=>(match bs,fn.resultTypes.toList with
  | [],[u]=>(match a52 P u with
   |some e=>(match S.kd e with
    |some kd=>(match a23 P S call (a33 P S @call fn 0 dep) fn ds (b4l (Cod.lst kd)) with|some xs=>some (.lst kd xs,[])|none=>none)
    |none=>none)
   |none=>none)
  |_,_=>none)
 |.newb=>(match bs with
  | []=>(match a9l P S call (a33 P S @call fn 0 dep) fn ds (h1c idC) with|some cs=>some (.tup [],[cs])|none=>none)
  |_=>none)
 |.inpl=>(match bs,ds with
  | [],.lst kd xs::ds=>(match (CC.cons (Cod.lst kd) idC).dec (.lst kd xs::ds) with
   |some a=>(match a9k P S call (a33 P S @call fn MA dep) fn kd a.1 a.2 (b4l (Cod.lst kd)) with|some ys=>some (.lst kd ys,[])|none=>none)
   |none=>none)
  |_,_=>none)
 |.nmap=>(match bs,fn.resultTypes.toList with
  | [],[_,t]=>(match S.mpk t with
   |some M=>(match a9m P S call (a33 P S @call fn 0 dep) fn ds (h0i idD M.k) with|some r=>some (.tup [r.1,.lst M.k r.2],[])|none=>none)
   |none=>none)
  |_,_=>none)
 |.cons=>none
def d00 (fs:List Nat) (nat:{R:Type}→Nat→a3a κ El R):Nat→{R:Type}→Nat→a3a κ El R
 |0,_=>c0
 |n+1,_=>fun f ds bs k=>match nat f ds bs (fun d bs=>some (d,bs)) with
  |some (d,bs)=>k d bs
  |none=>bif fs.any (Nat.beq f) then (match P.funcs[f]? with
   |some fn=>(match h2n P S (d00 fs nat n) fn (S.md f) 12 ds bs with
    |some (d,bs)=>k d bs
    |none=>none)
   |none=>none) else none
def g4z (P:Program) (fs:List Nat):Bool:=fs.all fun f=>match P.funcs[f]? with
 |some fn=>(match fn.body with
  |some c=>fnB P f fn ((f9 c).map i7)
  |none=>true)
 |none=>true
variable {P S}
theorem d7c {fs:List Nat} (h:g4z P fs=true) {f:Nat} (hm:f∈fs) {fn:Func} {c:Code} (hat:P.funcs[f]?=some fn) (hb:fn.body=some c):FnOk P f fn c∧a6n ((f9 c).map i7)=true:=by
 unfold g4z at h;have:=yaj.1 h _ hm;simp only[hat,hb]at this;obtain ⟨code,fok,hn,hids⟩:=y3 hat this;have:code=c:=by have:=fok.body;rw[hb]at this;cases this;rfl
 subst this;exact ⟨fok,hn⟩
theorem g11 (G:GoodP P S) {fs:List Nat} (hB:g4z P fs=true) {call:{R:Type}→Nat→a3a κ El R} (cg:CG P S @call) {f:Nat} (hm:f∈fs) {fn:Func} (hat:P.funcs[f]?=some fn) {dep:Nat} {ds:List (D κ El)} {bs:List (List (D κ El))} {d:D κ El} {bs':List (List (D κ El))}
 (h:h2n P S @call fn (S.md f) dep ds bs=some (d,bs')):Con P S f ds bs d bs':=by
 have hl:∀{c:Code},fn.body=some c→∀m,FnOk P f fn c∧∀b∈f9 c,a0a fn (i7 b)=b∧d9 P S m fn (fun {R}=>a33 P S @call fn m dep (R:=R)) (i7 b):=fun {c} hb m=>by
  obtain ⟨fok,hn⟩:=d7c hB hm hat hb;exact ⟨fok,c0l fok rfl hn (d9c P S G fok rfl hn cg.nat cg.ok dep)⟩
 unfold h2n at h;split at h
 ·rename_i hmd;split at h
  ·split at h
   ·rename_i d' h1;cases h
    cases hb:fn.body with
    |none=>unfold d3e at h1;rw[hb]at h1;cases h1
    |some c=>
     obtain ⟨fok,hl⟩:=hl hb 0;exact c7j G G.ok.mixed fok cg.nat cg.ok b49 d7j hmd hl (F:=fun ds=>d3e P S call (a33 P S @call fn 0 dep) fn ds [] (b4l idD)) (fun _=>rfl) ds ds d rfl h1
   ·cases h
  ·cases h
 ·rename_i hmd;rw[c4]at h;split at h
  ·rename_i hlt;split at h
   ·rename_i d' b h1;cases h
    cases hb:fn.body with
    |none=>unfold d3e at h1;rw[hb]at h1;cases h1
    |some c=>
     obtain ⟨fok,hl⟩:=hl hb bs.length;exact d5q G G.ok.mixed fok cg.nat cg.ok b49 (g76 bs.length) d7j (m:=bs.length) (fun b=>b.2) (by have:=yaY hlt;omega) hmd hl
      (F:=fun ds b=>d3e P S call (a33 P S @call fn bs.length dep) fn ds b.1 (h0f idD (idB bs.length))) (fun _ _=>rfl) ds bs ds ⟨bs,rfl⟩ d b rfl (by simp[idB]) h1
   ·cases h
  ·cases h
 ·rename_i hmd;split at h
  ·rename_i u hu;split at h
   ·rename_i e he;split at h
    ·rename_i kd hkd;split at h
     ·rename_i xs h1;cases h
      cases hb:fn.body with
      |none=>unfold a23 at h1;rw[hb]at h1;cases h1
      |some c=>
       obtain ⟨fok,hl⟩:=hl hb 0;exact a86 G G.ok.mixed fok cg.nat cg.ok hmd hl (WL.refl ds) h1
     ·cases h
    ·cases h
   ·cases h
  ·cases h
 ·rename_i hmd;split at h
  ·split at h
   ·rename_i cs h1;cases h
    cases hb:fn.body with
    |none=>unfold a9l at h1;rw[hb]at h1;cases h1
    |some c=>
     obtain ⟨fok,hl⟩:=hl hb 0;exact c7l G G.ok.mixed fok cg.nat cg.ok b49 b49 hmd hl (F:=fun ds=>a9l P S call (a33 P S @call fn 0 dep) fn ds (h1c idC)) (fun _=>rfl) ds ds cs rfl h1
   ·cases h
  ·cases h
 ·rename_i hmd;split at h
  ·rename_i kd xs ds';split at h
   ·rename_i x hx;split at h
    ·rename_i ys h1;cases h
     cases hb:fn.body with
     |none=>unfold a9k at h1;rw[hb]at h1;cases h1
     |some c=>
      obtain ⟨fok,hl⟩:=hl hb MA;exact c7k G G.ok.mixed fok cg.nat cg.ok b49 hmd hl (F:=fun a=>a9k P S call (a33 P S @call fn MA dep) fn kd a.1 a.2 (b4l (Cod.lst kd))) (fun _=>rfl) (.lst kd xs::ds') x ys hx h1
    ·cases h
   ·cases h
  ·cases h
 ·rename_i hmd;split at h
  ·rename_i t hu;split at h
   ·rename_i M hM;split at h
    ·rename_i r h1;cases h
     cases hb:fn.body with
     |none=>unfold a9m at h1;rw[hb]at h1;cases h1
     |some c=>
      obtain ⟨fok,hl⟩:=hl hb 0;exact c7m G G.ok.mixed fok cg.nat cg.ok b49 d7j hmd hl (F:=fun ds=>a9m P S call (a33 P S @call fn 0 dep) fn ds (h0i idD M.k)) (fun _=>rfl) ds ds r rfl h1
    ·cases h
   ·cases h
  ·cases h
 ·cases h
theorem e4x (G:GoodP P S) {fs:List Nat} (hB:g4z P fs=true) {nat:{R:Type}→Nat→a3a κ El R} (hn:CG P S @nat):∀n,CG P S (fun {R}=>d00 P S fs @nat n (R:=R)):=by
 intro n
 induction n with
 |zero=>exact cg0
 |succ n ih=>
  constructor
  ·intro R f ds bs k r h;unfold d00 at h ⊢;split at h
   ·rename_i d bs' h1;exact ⟨d,bs',h,fun k' h'=>h'⟩
   ·rename_i h1;cases hfs:fs.any (Nat.beq f) with
    |false=>rw[hfs]at h;cases h
    |true=>
     rw[hfs]at h;simp only[yac]at h ⊢;split at h
     ·rename_i fn hf;split at h
      ·rename_i d bs' h2;exact ⟨d,bs',h,fun k' h'=>h'⟩
      ·cases h
     ·cases h
  ·intro R f ds bs k r h;unfold d00 at h;split at h
   ·rename_i d bs' h1;obtain ⟨d2,bs2,e,hc⟩:=hn.ok _ _ _ _ _ h1;cases e
    exact ⟨d,bs',h,hc⟩
   ·cases hfs:fs.any (Nat.beq f) with
    |false=>rw[hfs]at h;cases h
    |true=>
     rw[hfs]at h;simp only[yac]at h;split at h
     ·rename_i fn hf;split at h
      ·rename_i d bs' h2;exact ⟨d,bs',h,g11 G hB ih (a2c.1 hfs) hf h2⟩
      ·cases h
     ·cases h
theorem h26 {nat:{R:Type}→Nat→a3a κ El R} (G:GoodP P S) {fs:List Nat} (hB:g4z P fs=true) (hn:CG P S @nat) {f n:Nat} {ρ:Type} {rc:Cod κ El ρ} {r0:ρ} (e:d00 P S fs @nat n f [] [] (fun d bs=>some (d,bs))=some (rc.enc r0,[])) :
 ∀ds a r,(CC.nil:CC κ El Unit).dec ds=some a→some r0=some r→Con P S f ds [] (rc.enc r) []:=fun ds a r h1 h2=>by
 cases h2
 cases ds with
 |nil=>
  obtain ⟨d,bs',h3,h4⟩:=(e4x G hB hn n).ok _ _ _ _ _ e;cases h3
  exact h4
 |cons d ds=>cases h1
end
end
section
section
variable {κ:Type} {El:κ→Type} {S:Sg κ El} {P:Program} {m:Nat} [KdEq κ]
def b3u {R:Type} (P:Program) (S:Sg κ El) (call:Nat→a3a κ El R) (loops:Lp κ El R) (m:Nat) (ss:List Nat) (body:Code):Nat→St κ El→(Ex→St κ El→Option R)→Option R
 |0,_,_=>none
 |n+1,st,k=>match gcL m ss st with
  |some st=>evc P S call loops body st (fun e st=>match e with
   |.normal=>b3u P S call loops m ss body n st k
   |.exit i=>k (.exit i) st
   |.ret=>k .ret st)
  |none=>none
theorem d3q {nt:Nat} {fn:Func} {R:Type} {call:Nat→a3a κ El R} {loops:{R:Type}→Lp κ El R} {ss:List Nat} {body:Code} (G:GoodP P S)
 (cn:u5 (R:=R) call) (cok:a0j (R:=R) P S call) (hd:a54 nt body)
 (hl:∀b∈f9 body,a0a fn (i7 b)=b∧b81 P S nt m fn @loops (i7 b)) :
 ∀(n:Nat) {st:St κ El} {k:Ex→St κ El→Option R} {r:R},b3u P S call (loops (R:=R)) m ss body n st k=some r→
  ∃e st2,k e st2=some r∧∀{c:Cx} {g:Gh} {act:Act} {w:World},Rel S c st g act w→c.nt=nt→c.ar=m→
   ∀{Q:Exit→Act→World→Prop},(∀g' a' w',Rel S c st2 g' a' w'→Q (e3n e) a' w')→Code.rounds P body Q n act w:=by
 intro n
 induction n with
 |zero=>intro st k r h;cases h
 |succ n ih=>
  intro st k r h;simp only[b3u]at h;split at h
  rotate_left
  ·cases h
  rename_i st1 h1;obtain ⟨e,st2,hleaf,hev⟩:=c7t (fn:=fn) (loops:=@loops) G G.ok.mixed cn cok hd hl h;cases e with
  |normal=>
   simp only at hleaf;obtain ⟨e2,st3,h3,h4⟩:=ih hleaf;refine ⟨e2,st3,h3,fun {c g act w} hr hnt hm {Q} hQ=>?_⟩;obtain ⟨g1,hr1⟩:=c0i (P:=P) h1 hr hm;rw[rounds_succ];exact hev hr1 hnt hm (fun g' a' w' hr'=>h4 hr' hnt hm hQ)
  |exit i=>
   refine ⟨.exit i,st2,hleaf,fun {c g act w} hr hnt hm {Q} hQ=>?_⟩;obtain ⟨g1,hr1⟩:=c0i (P:=P) h1 hr hm;rw[rounds_succ];exact hev hr1 hnt hm (fun g' a' w' hr'=>hQ g' a' w' hr')
  |ret=>
   refine ⟨.ret,st2,hleaf,fun {c g act w} hr hnt hm {Q} hQ=>?_⟩;obtain ⟨g1,hr1⟩:=c0i (P:=P) h1 hr hm;rw[rounds_succ];exact hev hr1 hnt hm (fun g' a' w' hr'=>hQ g' a' w' hr')
variable {f:Nat} {fn:Func} {loops lin:{R:Type}→Lp κ El R} {call:{R:Type}→Nat→a3a κ El R}
theorem h1v {id:Nat} (ss:List Nat) (N:Nat) (G:GoodP P S) (hat:P.funcs[f]?=some fn) {ids:List Nat} (fb:fnB P f fn ids=true) (cc:CG P S @call) {inn:List Nat} (hb:(ids.any (Nat.beq id)&&fnB.beqL ((f9 (a0a fn id)).map i7) inn)=true)
 (hl:∀i∈inn,d9 P S m fn @lin i)
 (heq:∀{R:Type} (st:St κ El) (k:Ex→St κ El→Option R),loops id st k=b3u P S (call (R:=R)) (lin (R:=R)) m ss (a0a fn id) N st k):d9 P S m fn @loops id:=by
 obtain ⟨code,fok,hn,hids⟩:=y3 hat fb;rw[yad]at hb;have hinn:=c3x hb.2;intro nt hnt R st k r h;obtain ⟨hmem,hfr⟩:=b74 fok.body hids hn (a2c.1 hb.1);rw[heq]at h;obtain ⟨e,st2,h1,h2⟩:=d3q (fn:=fn) (loops:=@lin) G cc.nat cc.ok ((fok.dst.mono hnt).body hmem)
  (fun b hb=>⟨a6m fok.body (by rw[hids];exact hn) b (a2a hmem hb),hl _ (by rw[←hinn];exact ybb.2 ⟨b,hb,rfl⟩) nt hnt⟩) N h
 exact ⟨e,st2,h1,fun {c g act w} hr hnt' hm {Q} hQ=>wp_loop_rounds N (h2 hr hnt' hm hQ)⟩
def lsi {R:Type} (s:Nat) (n:Int) (s1 s2:St κ El→(Ex→St κ El→Option R)→Option R):St κ El→(Ex→St κ El→Option R)→Option R:=fun st k=>
 match b9 s st.env with
 |some (.int _ i)=>bif i==n then s1 st k else s2 st k
 |_=>none
def lsz {R:Type}:St κ El→(Ex→St κ El→Option R)→Option R:=fun _ _=>none
theorem g8k {id:Nat}:d9 P S m fn (fun {R}=>lp id (lsz (R:=R)) l0) id:=fun nt hnt R st k r h=>by
 unfold lp lsz at h;simp only[c4]at h;split at h<;>cases h
theorem c12 {id s:Nat} {n:Int} {s1 s2:{R:Type}→St κ El→(Ex→St κ El→Option R)→Option R} (h1:d9 P S m fn (fun {R}=>lp id (s1 (R:=R)) l0) id) (h2:d9 P S m fn (fun {R}=>lp id (s2 (R:=R)) l0) id) :
 d9 P S m fn (fun {R}=>lp id (lsi s n (s1 (R:=R)) (s2 (R:=R))) l0) id:=by
 have e:∀{R:Type} (t:St κ El→(Ex→St κ El→Option R)→Option R) st k,lp id t l0 id st k=t st k:=fun t st k=>by
  unfold lp;rw[c4,yaK (by rw[yaT])]
 intro nt hnt R st k r h;replace h:=(e _ st k).symm.trans h;unfold lsi at h;split at h
 ·rw[c4]at h;split at h
  ·exact h1 nt hnt st k r ((e _ st k).trans h)
  ·exact h2 nt hnt st k r ((e _ st k).trans h)
 ·cases h
theorem h1w {id:Nat} (h:d9 P S m fn @lin id) (heq:∀{R:Type} (st:St κ El) (k:Ex→St κ El→Option R),loops id st k=lin id st k):d9 P S m fn @loops id:=
 fun nt hnt R st k r h'=>h nt hnt st k r (by rw[←heq];exact h')
end
end
end Go.Proofs.YteaknldbhmocpaaGreatDoor.Ev
