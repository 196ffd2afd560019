/- WeedFewer: a part of the proof of the given statement, which is proved without conditions. -/
import Derived.Test.YtpaidiaknfhclaaGreatDoorF2
import Derived.Conc.MuLone
import Derived.ChangeMade
import Derived.DataReads
import GoSem.ClaimChange
import Derived.Below
import Derived.Sort.Defs
import Derived.Lib.Small
import Derived.Lib.BitFns
import Derived.Lib.DecodeN
import Derived.Lib.SlicesCompact
set_option linter.all false
namespace Go.Proofs.YtpaidiaknfhclaaGreatDoor.Ev
open Go
section
variable {κ:Type} {El:κ→Type} {S:Sg κ El} {P:Program}
variable {c:Cx} {st:St κ El} {g:Gh} {a:Act} {w:World}
inductive Wd {κ:Type} {El:κ→Type}:D κ El→D κ El→Prop
 |leaf (d d') (h:Wk d d'):Wd d d'
 |agg (cs cs') (hl:cs.length=cs'.length) (h:∀(i:Nat) d d',cs[i]?=some d→cs'[i]?=some d'→Wd d d'):Wd (.agg cs) (.agg cs')
 |tup (cs cs') (hl:cs.length=cs'.length) (h:∀(i:Nat) d d',cs[i]?=some d→cs'[i]?=some d'→Wd d d'):Wd (.tup cs) (.tup cs')
 |cptr (cs cs' off) (hl:cs.length=cs'.length) (h:∀(i:Nat) d d',cs[i]?=some d→cs'[i]?=some d'→Wd d d'):Wd (.cptr cs off) (.cptr cs' off)
 |fn (f p p' c c') (hp:p.length=p'.length) (hc:c.length=c'.length) (h1:∀(i:Nat) d d',p[i]?=some d→p'[i]?=some d'→Wd d d') (h2:∀(i:Nat) d d',c[i]?=some d→c'[i]?=some d'→Wd d d') :
  Wd (.fn f p c) (.fn f p' c')
theorem Wd.refl (d:D κ El):Wd d d:=.leaf d d (.same d)
def WL (cs cs':List (D κ El)):Prop:=cs.length=cs'.length∧∀(i:Nat) d d',cs[i]?=some d→cs'[i]?=some d'→Wd d d'
theorem WL.refl (cs:List (D κ El)):WL cs cs:=⟨rfl,fun i d d' h1 h2=>by rw[h1]at h2;cases h2;exact .refl d⟩
theorem WL.nil:WL ([]:List (D κ El)) []:=.refl _
theorem WL.cons {d d':D κ El} {cs cs':List (D κ El)} (h:Wd d d') (hs:WL cs cs'):WL (d::cs) (d'::cs'):=by
 refine ⟨by simp[hs.1],fun i e e' h1 h2=>?_⟩
 cases i with
 |zero=>simp only[List.getElem?_cons_zero,Option.some.injEq]at h1 h2;subst h1 h2;exact h
 |succ i=>exact hs.2 i e e' (by simpa using h1) (by simpa using h2)
theorem WL.app {cs cs' ds ds':List (D κ El)} (h:WL cs cs') (hs:WL ds ds'):WL (cs++ds) (cs'++ds'):=by
 refine ⟨by simp[h.1,hs.1],fun i e e' h1 h2=>?_⟩
 by_cases hi:i<cs.length
 ·rw[List.getElem?_append_left hi]at h1
  rw[List.getElem?_append_left (by rw[←h.1];exact hi)]at h2
  exact h.2 i e e' h1 h2
 ·rw[List.getElem?_append_right (by omega)]at h1
  rw[List.getElem?_append_right (by rw[←h.1];omega),←h.1]at h2
  exact hs.2 _ e e' h1 h2
theorem WL.get {cs cs':List (D κ El)} (h:WL cs cs') {i:Nat} {d':D κ El} (hd:cs'[i]?=some d'):∃d,cs[i]?=some d∧Wd d d':=by
 have hi:i<cs.length:=by rw[h.1];exact (List.getElem?_eq_some_iff.1 hd).1
 exact ⟨cs[i],List.getElem?_eq_getElem hi,h.2 i _ _ (List.getElem?_eq_getElem hi) hd⟩
theorem Wd.dr {I J:Nat→Nat→Prop} {d d':D κ El} (h:Wd d d'):∀{v:Value},DR S w I J v d→DR S w I J v d':=by
 induction h with
 |leaf d d' h=>intro v hv;exact h.dr hv
 |agg cs cs' hl h ih=>
  intro v hv
  cases hv with
  |agg vs _ hs h1=>
   refine .agg vs cs' (by rw[hs,hl]) (fun i v d' e1 e2=>?_)
   obtain ⟨d,e3,_⟩:=WL.get ⟨hl,h⟩ e2
   exact ih i d d' e3 e2 (h1 i v d e1 e3)
 |tup cs cs' hl h ih=>
  intro v hv
  cases hv with
  |tup vs _ hs h1=>
   refine .tup vs cs' (by rw[hs,hl]) (fun i v d' e1 e2=>?_)
   obtain ⟨d,e3,_⟩:=WL.get ⟨hl,h⟩ e2
   exact ih i d d' e3 e2 (h1 i v d e1 e3)
 |cptr cs cs' off hl h ih=>
  intro v hv
  cases hv with
  |cptr b o _ _ cv hc h1=>
   refine .cptr b o cs' off cv (fun j hj=>hc j (by rw[hl];exact hj)) (fun j d' e2=>?_)
   obtain ⟨d,e3,_⟩:=WL.get ⟨hl,h⟩ e2
   exact ih j d d' e3 e2 (h1 j d e3)
 |fn f p p' c c' hp hc h1 h2 ih1 ih2=>
  intro v hv
  cases hv with
  |fn _ pv cv _ _ hpv hcv g1 g2=>
   refine .fn f pv cv p' c' (by rw[hpv,hp]) (by rw[hcv,hc]) (fun i v d' e1 e2=>?_) (fun i v d' e1 e2=>?_)
   ·obtain ⟨d,e3,_⟩:=WL.get ⟨hp,h1⟩ e2
    exact ih1 i d d' e3 e2 (g1 i v d e1 e3)
   ·obtain ⟨d,e3,_⟩:=WL.get ⟨hc,h2⟩ e2
    exact ih2 i d d' e3 e2 (g2 i v d e1 e3)
theorem Wk.vr {d d':D κ El} (h:Wk d d') {v:Value} (hv:VR S w g v d):VR S w g v d':=by
 cases h with
 |same=>exact hv
 |lsn k xs=>exact .data (hv.lsn_inv.lsn_lst.1)
 |nil k=>rw[hv.nil_inv];exact .data (.lst0 _ _ _ (fun _=>rfl))
theorem Wd.vr {d d':D κ El} (h:Wd d d'):∀{v:Value},VR S w g v d→VR S w g v d':=by
 induction h with
 |leaf d d' h=>intro v hv;exact h.vr hv
 |agg cs cs' hl h ih=>
  intro v hv
  obtain ⟨vs,rfl,hs,h1⟩:=hv.agg_inv
  refine .agg vs cs' (by rw[hs,hl]) (fun i v d' e1 e2=>?_)
  obtain ⟨d,e3,_⟩:=WL.get ⟨hl,h⟩ e2
  exact ih i d d' e3 e2 (h1 i v d e1 e3)
 |tup cs cs' hl h ih=>
  intro v hv
  obtain ⟨vs,rfl,hs,h1⟩:=hv.tup_inv
  refine .tup vs cs' (by rw[hs,hl]) (fun i v d' e1 e2=>?_)
  obtain ⟨d,e3,_⟩:=WL.get ⟨hl,h⟩ e2
  exact ih i d d' e3 e2 (h1 i v d e1 e3)
 |cptr cs cs' off hl h ih=>
  intro v hv
  exact .data ((Wd.cptr cs cs' off hl h).dr hv.cptr_inv)
 |fn f p p' c c' hp hc h1 h2 ih1 ih2=>
  intro v hv
  obtain ⟨pv,cv,rfl,hpv,hcv,g1,g2⟩:=hv.fn_inv
  refine .fn f pv cv p' c' (by rw[hpv,hp]) (by rw[hcv,hc]) (fun i v d' e1 e2=>?_) (fun i v d' e1 e2=>?_)
  ·obtain ⟨d,e3,_⟩:=WL.get ⟨hp,h1⟩ e2
   exact ih1 i d d' e3 e2 (g1 i v d e1 e3)
  ·obtain ⟨d,e3,_⟩:=WL.get ⟨hc,h2⟩ e2
   exact ih2 i d d' e3 e2 (g2 i v d e1 e3)
theorem WL.box {blk:Nat} {cs cs':List (D κ El)} (h:WL cs cs') (hb:BoxR S w g blk cs):BoxR S w g blk cs':=by
 obtain ⟨vals,t,h1,h2,h3⟩:=hb
 refine ⟨vals,t,h1,by rw[h2,h.1],fun i v d' e1 e2=>?_⟩
 obtain ⟨d,e3,e4⟩:=h.get e2
 exact e4.vr (h3 i v d e1 e3)
theorem WL.boxD {I J:Nat→Nat→Prop} {blk:Nat} {cs cs':List (D κ El)} (h:WL cs cs') (hb:BoxD S w I J blk cs):BoxD S w I J blk cs':=by
 obtain ⟨vals,t,h1,h2,h3⟩:=hb
 refine ⟨vals,t,h1,by rw[h2,h.1],fun i v d' e1 e2=>?_⟩
 obtain ⟨d,e3,e4⟩:=h.get e2
 exact e4.dr (h3 i v d e1 e3)
theorem WL.args {I J:Nat→Nat→Prop} {vs:Array Value} {cs cs':List (D κ El)} (h:WL cs cs') (ha:Args S w I J vs cs):Args S w I J vs cs':=by
 refine ⟨by rw[ha.1,h.1],fun i v d' e1 e2=>?_⟩
 obtain ⟨d,e3,e4⟩:=h.get e2
 exact e4.dr (ha.2 i v d e1 e3)
end
section
variable {κ:Type} {El:κ→Type} {α β γ:Type}
def zai (c:Cod κ El α):Prop:=∀d a,c.dec d=some a→Wd d (c.enc a)
def CCOk (c:CC κ El α):Prop:=∀ds a,c.dec ds=some a→WL ds (c.enc a)
def BCOk (c:BC κ El α):Prop:=∀bs b,c.dec bs=some b→bs.length=(c.enc b).length∧∀(j:Nat) cs cs',bs[j]?=some cs→(c.enc b)[j]?=some cs'→WL cs cs'
theorem zai.int (k:IntKind):zai (Cod.int k:Cod κ El Int):=by
 intro d a h
 unfold Cod.int at h ⊢
 simp only at h ⊢
 split at h
 ·rename_i k' n
  rw[zad]at h
  split at h
  ·rename_i hk;rw[zgr hk];cases h;exact .refl _
  ·cases h
 ·cases h
theorem zai.bool:zai (Cod.bool:Cod κ El Bool):=by
 intro d a h
 unfold Cod.bool at h ⊢
 simp only at h ⊢
 split at h
 ·cases h;exact .refl _
 ·cases h
theorem zai.str:zai (Cod.str:Cod κ El (List UInt8)):=by
 intro d a h
 unfold Cod.str at h ⊢
 simp only at h ⊢
 split at h
 ·cases h;exact .refl _
 ·cases h
theorem zcd [KdEq κ] {k k':κ} {xs:List (El k)} {ys:List (El k')} (h:zfn xs=some ys):∃e:k=k',e▸xs=ys:=by
 unfold zfn at h
 split at h
 ·rename_i e _
  cases h
  exact ⟨e.down,rfl⟩
 ·cases h
theorem zai.lst [KdEq κ] (k:κ):zai (Cod.lst k:Cod κ El (List (El k))):=by
 intro d a h
 unfold Cod.lst at h ⊢
 simp only at h ⊢
 split at h
 ·obtain ⟨e,h'⟩:=zcd h;subst e;cases h';exact .refl _
 ·obtain ⟨e,h'⟩:=zcd h;subst e;cases h';exact .leaf _ _ (.lsn _ _)
 ·cases h;exact .leaf _ _ (.nil _)
 ·cases h
theorem zai.lsn [KdEq κ] (k:κ):zai (Cod.lsn k:Cod κ El (List (El k))):=by
 intro d a h
 unfold Cod.lsn at h ⊢
 simp only at h ⊢
 split at h
 ·obtain ⟨e,h'⟩:=zcd h;subst e;cases h';exact .refl _
 ·cases h
theorem zai.agg {c:CC κ El α} (hc:CCOk c):zai (Cod.agg c):=by
 intro d a h
 unfold Cod.agg at h ⊢
 simp only at h ⊢
 split at h
 ·have:=hc _ _ h;exact .agg _ _ this.1 this.2
 ·cases h
theorem zai.cptr {c:CC κ El α} (hc:CCOk c):zai (Cod.cptr c):=by
 intro d a h
 unfold Cod.cptr at h ⊢
 simp only at h ⊢
 split at h
 ·have:=hc _ _ h;exact .cptr _ _ _ this.1 this.2
 ·cases h
theorem zai.tup {c:CC κ El α} (hc:CCOk c):zai (Cod.tup c):=by
 intro d a h
 unfold Cod.tup at h ⊢
 simp only at h ⊢
 split at h
 ·have:=hc _ _ h;exact .tup _ _ this.1 this.2
 ·cases h
theorem zai.unit:zai (Cod.unit:Cod κ El Unit):=by
 intro d a h
 unfold Cod.unit at h ⊢
 simp only at h ⊢
 split at h
 ·exact .refl _
 ·cases h
theorem zai.ptrc (n:Nat):zai (Cod.ptrc n:Cod κ El Unit):=by
 intro d a h
 unfold Cod.ptrc at h ⊢
 simp only at h ⊢
 split at h
 ·rw[zad]at h
  split at h
  ·rename_i hb;rw[Nat.beq_eq]at hb;rw[hb];exact .refl _
  ·cases h
 ·cases h
theorem zai.fnc (f:Nat) {p:CC κ El α} {c:CC κ El β} (hp:CCOk p) (hc:CCOk c):zai (Cod.fnc f p c):=by
 intro d a h
 unfold Cod.fnc at h ⊢
 simp only at h ⊢
 split at h
 ·rw[zad]at h
  split at h
  ·rename_i hf;rw[Nat.beq_eq]at hf;subst hf
   split at h
   ·rename_i x hx
    split at h
    ·rename_i y hy
     cases h
     have h1:=hp _ _ hx
     have h2:=hc _ _ hy
     exact .fn _ _ _ _ _ h1.1 h2.1 h1.2 h2.2
    ·cases h
   ·cases h
  ·cases h
 ·cases h
theorem zai.iso {c:Cod κ El β} {to:β→α} {frm:α→β} (hc:zai c) (h0:∀b,frm (to b)=b):zai (c.iso to frm):=by
 intro d a h
 unfold Cod.iso at h ⊢
 simp only at h ⊢
 split at h
 ·rename_i b hb
  cases h
  rw[h0];exact hc _ _ hb
 ·cases h
theorem zai.tup2 {c:CC κ El (α×β×Unit)} (hc:CCOk c):zai (Cod.tup2 c):=(zai.tup hc).iso (fun _=>rfl)
theorem zai.tup3 {c:CC κ El (α×β×γ×Unit)} (hc:CCOk c):zai (Cod.tup3 c):=(zai.tup hc).iso (fun _=>rfl)
theorem CCOk.nil:CCOk (CC.nil:CC κ El Unit):=by
 intro d a h
 unfold CC.nil at h ⊢
 simp only at h ⊢
 split at h
 ·exact .nil
 ·cases h
theorem CCOk.cons {c:Cod κ El α} {r:CC κ El β} (hc:zai c) (hr:CCOk r):CCOk (CC.cons c r):=by
 intro d a h
 unfold CC.cons at h ⊢
 simp only at h ⊢
 split at h
 ·split at h
  ·rename_i x hx
   split at h
   ·rename_i y hy
    cases h
    exact .cons (hc _ _ hx) (hr _ _ hy)
   ·cases h
  ·cases h
 ·cases h
theorem CCOk.part (n:Nat) {c:CC κ El α} {r:CC κ El β} (hc:CCOk c) (hr:CCOk r):CCOk (CC.part n c r):=by
 intro d a h
 unfold CC.part at h ⊢
 simp only at h ⊢
 split at h
 ·rename_i x hx
  split at h
  ·rename_i y hy
   cases h
   have:=(hc _ _ hx).app (hr _ _ hy)
   rwa [List.take_append_drop]at this
  ·cases h
 ·cases h
theorem CCOk.iso {c:CC κ El β} {enc:α→List (D κ El)} {to:β→α} (hc:CCOk c) (h0:∀b,enc (to b)=c.enc b):CCOk (c.iso enc to):=by
 intro d a h
 unfold CC.iso at h ⊢
 simp only at h ⊢
 split at h
 ·rename_i b hb
  cases h
  rw[h0];exact hc _ _ hb
 ·cases h
theorem CCOk.one {c:Cod κ El α} (hc:zai c):CCOk (CC.one c):=(CCOk.cons hc CCOk.nil).iso (fun _=>rfl)
theorem BCOk.one {c:CC κ El α} (hc:CCOk c):BCOk (BC.one c):=by
 intro d a h
 unfold BC.one at h ⊢
 simp only at h ⊢
 split at h
 ·refine ⟨rfl,fun j cs cs' h1 h2=>?_⟩
  cases j with
  |zero=>simp only[List.getElem?_cons_zero,Option.some.injEq]at h1 h2;subst h1 h2;exact hc _ _ h
  |succ j=>simp at h1
 ·cases h
theorem BCOk.nil:BCOk (BC.nil:BC κ El Unit):=by
 intro d a h
 unfold BC.nil at h ⊢
 simp only at h ⊢
 split at h
 ·exact ⟨rfl,fun j cs cs' h1 h2=>by simp at h1⟩
 ·cases h
theorem BCOk.cons {c:CC κ El α} {r:BC κ El β} (hc:CCOk c) (hr:BCOk r):BCOk (BC.cons c r):=by
 intro d a h
 unfold BC.cons at h ⊢
 simp only at h ⊢
 split at h
 ·split at h
  ·rename_i x hx
   split at h
   ·rename_i y hy
    cases h
    have h1:=hr _ _ hy
    refine ⟨by simp[h1.1],fun j cs cs' e1 e2=>?_⟩
    cases j with
    |zero=>simp only[List.getElem?_cons_zero,Option.some.injEq]at e1 e2;subst e1 e2;exact hc _ _ hx
    |succ j=>exact h1.2 j cs cs' (by simpa using e1) (by simpa using e2)
   ·cases h
  ·cases h
 ·cases h
def zl1 (n:Nat) (A A':Ar κ El):Prop:=(A.dead=false∧((A'=A)∨(A'={A with sealed:=true}∧n≠MA)))∨(A.dead=true∧A'=A)
structure FW (st st':St κ El) (bs as:List Nat):Prop where
 env:∀s d',zab s st'.env=some d'→∃d,zab s st.env=some d∧Wd d d'
 bx:∀b cs',zab b st'.bx=some cs'→∃cs,zab b st.bx=some cs∧WL cs cs'
 bn:∀b,b∈bs→(zab b st'.bx).isSome=true
 ar:∀n A',zab n st'.ar=some A'→∃A,zab n st.ar=some A∧zl1 n A A'
 an:∀n,n∈as→(zab n st'.ar).isSome=true
def FCOk (fc:FC κ El α):Prop:=∀st a,fc.dec st=some a→FW st (fc.enc a) fc.bs fc.as
theorem FCOk.nil:FCOk (FC.nil:FC κ El Unit):=fun st a h=>⟨fun s d h=>(by cases h),fun s d h=>(by cases h),fun b h=>(by cases h),fun s d h=>(by cases h),fun b h=>(by cases h)⟩
theorem FW.slot {st st':St κ El} {bs as:List Nat} (h:FW st st' bs as) {s:Nat} {d d':D κ El} (hs:zab s st.env=some d) (hd:Wd d d'):FW st {st' with env:=(s,d')::st'.env} bs as where
 env:=fun s0 d0 h0=>by
  replace h0:zab s0 ((s,d')::st'.env)=some d0:=h0
  rw[zag]at h0
  split at h0
  ·rename_i e;subst e;cases h0;exact ⟨d,hs,hd⟩
  ·exact h.env s0 d0 h0
 bx:=h.bx
 bn:=h.bn
 ar:=h.ar
 an:=h.an
theorem FCOk.slot (s:Nat) {c:Cod κ El α} {r:FC κ El β} (hc:zai c) (hr:FCOk r):FCOk (FC.slot s c r):=by
 intro st a h
 unfold FC.slot at h ⊢
 simp only at h ⊢
 split at h
 ·rename_i d hd
  split at h
  ·rename_i x hx
   split at h
   ·rename_i y hy
    cases h
    exact (hr _ _ hy).slot hd (hc _ _ hx)
   ·cases h
  ·cases h
 ·cases h
theorem FCOk.ptr (s b:Nat) {r:FC κ El β} (hr:FCOk r):FCOk (FC.ptr s b r):=by
 intro st a h
 unfold FC.ptr at h ⊢
 simp only at h ⊢
 split at h
 ·rename_i b' hd
  rw[zad]at h
  split at h
  ·rename_i hb;rw[Nat.beq_eq]at hb;subst hb
   exact (hr _ _ h).slot hd (.refl _)
  ·cases h
 ·cases h
theorem FCOk.arr (s b:Nat) {r:FC κ El β} (hr:FCOk r):FCOk (FC.arr s b r):=by
 intro st a h
 unfold FC.arr at h ⊢
 simp only at h ⊢
 split at h
 ·rename_i b' hd
  rw[zad]at h
  split at h
  ·rename_i hb;rw[Nat.beq_eq]at hb;subst hb
   exact (hr _ _ h).slot hd (.refl _)
  ·cases h
 ·cases h
theorem FCOk.nilS (s:Nat) {r:FC κ El β} (hr:FCOk r):FCOk (FC.nilS s r):=by
 intro st a h
 unfold FC.nilS at h ⊢
 simp only at h ⊢
 split at h
 ·rename_i hd
  exact (hr _ _ h).slot hd (.refl _)
 ·cases h
theorem zh6:∀{l:List (D κ El)} {ns:List Nat},zn0 l ns=true→l=ns.map (fun b=>.ptr b 0):=by
 intro l
 induction l with
 |nil=>intro ns h;cases ns with|nil=>rfl|cons n ns=>cases h
 |cons d l ih=>
  intro ns h
  unfold zn0 at h
  split at h
  ·rename_i heq;first|cases heq|(rename_i heq;cases heq)
  ·rename_i b l' b' ns' heq
   obtain ⟨rfl,rfl⟩:=List.cons.inj heq
   rw[Bool.and_eq_true,Nat.beq_eq]at h
   obtain ⟨rfl,h2⟩:=h
   rw[ih h2];rfl
  ·cases h
theorem FCOk.clo (s f:Nat) (pre caps:List Nat) {r:FC κ El β} (hr:FCOk r):FCOk (FC.clo s f pre caps r):=by
 intro st a h
 unfold FC.clo at h ⊢
 simp only at h ⊢
 split at h
 ·rename_i f' ps cs hd
  rw[zad]at h
  split at h
  ·rename_i hb
   rw[Bool.and_eq_true,Bool.and_eq_true,Nat.beq_eq]at hb
   obtain ⟨rfl,h1,h2⟩:=hb
   rw[zh6 h1,zh6 h2]at hd
   exact (hr _ _ h).slot hd (.refl _)
  ·cases h
 ·cases h
theorem FCOk.box (b:Nat) {c:CC κ El α} {r:FC κ El β} (hc:CCOk c) (hr:FCOk r):FCOk (FC.box b c r):=by
 intro st a h
 unfold FC.box at h ⊢
 simp only at h ⊢
 split at h
 ·rename_i d hd
  split at h
  ·rename_i x hx
   split at h
   ·rename_i y hy
    cases h
    have h1:=hr _ _ hy
    refine ⟨h1.env,fun b0 cs0 h0=>?_,fun b0 h0=>?_,h1.ar,h1.an⟩
    ·replace h0:zab b0 ((b,c.enc x)::(r.enc y).bx)=some cs0:=h0
     rw[zag]at h0
     split at h0
     ·rename_i e;subst e;cases h0;exact ⟨d,hd,hc _ _ hx⟩
     ·exact h1.bx b0 cs0 h0
    ·show (zab b0 ((b,c.enc x)::(r.enc y).bx)).isSome=true
     rw[zag]
     split
     ·rfl
     ·rename_i e
      rcases List.mem_cons.1 h0 with h0|h0
      ·exact absurd h0 e
      ·exact h1.bn b0 h0
   ·cases h
  ·cases h
 ·cases h
theorem FCOk.own [KdEq κ] (n:Nat) (k:κ) (sealed:Bool) {r:FC κ El β} (hr:FCOk r):FCOk (FC.own n k sealed r):=by
 intro st a h
 unfold FC.own at h ⊢
 simp only at h ⊢
 split at h
 ·rename_i A hA
  rw[zad]at h
  split at h
  ·rename_i hok
   simp only[Bool.and_eq_true,Bool.not_eq_true',Nat.beq_eq]at hok
   split at h
   ·rename_i xs hx
    split at h
    ·rename_i y hy
     cases h
     have h1:=hr _ _ hy
     obtain ⟨e,h'⟩:=zcd hx
     have hS:zl1 n A (⟨k,xs,0,sealed,false⟩:Ar κ El):=by
      obtain ⟨Ak,Axs,Av,As,Ad⟩:=A
      simp only at e h' hok
      subst e;cases h'
      obtain ⟨⟨rfl,rfl⟩,h3⟩:=hok
      refine .inl ⟨rfl,?_⟩
      cases sealed with
      |true=>exact .inr ⟨rfl,fun e=>by rw[e]at h3;simp at h3⟩
      |false=>simp at h3;subst h3;exact .inl rfl
     refine ⟨h1.env,h1.bx,h1.bn,fun n0 A0 h0=>?_,fun n0 h0=>?_⟩
     ·replace h0:zab n0 ((n,(⟨k,xs,0,sealed,false⟩:Ar κ El))::(r.enc y).ar)=some A0:=h0
      rw[zag]at h0
      split at h0
      ·rename_i e;subst e;cases h0;exact ⟨A,hA,hS⟩
      ·exact h1.ar n0 A0 h0
     ·show (zab n0 ((n,(⟨k,xs,0,sealed,false⟩:Ar κ El))::(r.enc y).ar)).isSome=true
      rw[zag]
      split
      ·rfl
      ·rename_i e
       rcases List.mem_cons.1 h0 with h0|h0
       ·exact absurd h0 e
       ·exact h1.an n0 h0
    ·cases h
   ·cases h
  ·cases h
 ·cases h
theorem FCOk.map [KdEq κ] (n:Nat) (k:κ) {r:FC κ El β} (hr:FCOk r):FCOk (FC.map n k r):=by
 intro st a h
 unfold FC.map at h ⊢
 simp only at h ⊢
 split at h
 ·rename_i A hA
  rw[zad]at h
  split at h
  ·rename_i hok
   unfold mpOk at hok
   simp only[Bool.and_eq_true,Nat.beq_eq]at hok
   split at h
   ·rename_i xs hx
    split at h
    ·rename_i y hy
     cases h
     have h1:=hr _ _ hy
     obtain ⟨e,h'⟩:=zcd hx
     have hS:zl1 n A (⟨k,xs,0,true,true⟩:Ar κ El):=by
      obtain ⟨Ak,Axs,Av,As,Ad⟩:=A
      simp only at e h' hok
      subst e;cases h'
      obtain ⟨rfl,rfl,rfl⟩:=hok
      exact .inr ⟨rfl,rfl⟩
     refine ⟨h1.env,h1.bx,h1.bn,fun n0 A0 h0=>?_,fun n0 h0=>?_⟩
     ·replace h0:zab n0 ((n,(⟨k,xs,0,true,true⟩:Ar κ El))::(r.enc y).ar)=some A0:=h0
      rw[zag]at h0
      split at h0
      ·rename_i e;subst e;cases h0;exact ⟨A,hA,hS⟩
      ·exact h1.ar n0 A0 h0
     ·show (zab n0 ((n,(⟨k,xs,0,true,true⟩:Ar κ El))::(r.enc y).ar)).isSome=true
      rw[zag]
      split
      ·rfl
      ·rename_i e
       rcases List.mem_cons.1 h0 with h0|h0
       ·exact absurd h0 e
       ·exact h1.an n0 h0
    ·cases h
   ·cases h
  ·cases h
 ·cases h
end
end Go.Proofs.YtpaidiaknfhclaaGreatDoor.Ev
namespace Go.Proofs.YtpaidiaknfhclaaGreatDoor.Ev
open Go
section
variable {κ:Type} {El:κ→Type} {S:Sg κ El} {P:Program}
variable {c:Cx} {st:St κ El} {g:Gh} {a:Act} {w:World} {α β:Type}
theorem Rel.sealSome (sgk:SgOk S) {st':St κ El}:∀(l:List Nat) {st:St κ El} {g:Gh},Rel S c st g a w→(∀n∈l,n≠MA∧∃A,zab n st.ar=some A∧A.dead=false)→
 ∃g' st2,Rel S c st2 g' a w∧st2.env=st.env∧st2.bx=st.bx∧∀n,zab n st2.ar=if n∈l then (zab n st.ar).map (fun A=>{A with sealed:=true}) else zab n st.ar:=by
 intro l
 induction l with
 |nil=>intro st g hr _;exact ⟨g,st,hr,rfl,rfl,fun n=>by simp⟩
 |cons m l ih=>
  intro st g hr hl
  obtain ⟨hne,A,hA,hd⟩:=hl m (by simp)
  obtain ⟨g1,r1,-⟩:=hr.sealx sgk hA hd hne
  obtain ⟨g2,st2,r2,e1,e2,e3⟩:=ih r1 (fun n hn=>by
   obtain ⟨hne',B,hB,hdB⟩:=hl n (by simp[hn])
   refine ⟨hne',?_⟩
   show ∃A',zab n (aset m {A with sealed:=true} st.ar)=some A'∧A'.dead=false
   rw[zac hA]
   split
   ·exact ⟨_,rfl,hd⟩
   ·exact ⟨B,hB,hdB⟩)
  refine ⟨g2,st2,r2,e1,e2,fun n=>?_⟩
  rw[e3]
  show (if n∈l then (zab n (aset m {A with sealed:=true} st.ar)).map (fun A=>{A with sealed:=true}) else zab n (aset m {A with sealed:=true} st.ar))=_
  rw[zac hA]
  by_cases hm:n=m
  ·subst hm
   simp only[if_true,List.mem_cons,true_or,hA]
   split<;>rfl
  ·simp only[if_neg hm,List.mem_cons,hm,false_or]
   by_cases hl':n∈l<;>simp only[hl',if_true,if_false]
theorem FW.rel (sgk:SgOk S) {st st':St κ El} {bs as:List Nat} (h:FW st st' bs as) (hb:∀b,(zab b st.bx).isSome=true→b∈bs) (ha:∀n,(zab n st.ar).isSome=true→n∈as) (hr:Rel S c st g a w) :
 ∃g',Rel S c st' g' a w:=by
 have hfil:∀n∈as.filter (fun n=>match zab n st'.ar with|some A=>A.sealed&&!A.dead|none=>false),∃A A',zab n st.ar=some A∧zab n st'.ar=some A'∧A'.sealed=true∧A.dead=false∧((A'=A)∨(A'={A with sealed:=true}∧n≠MA)):=by
  intro n hn
  rw[List.mem_filter]at hn
  have hn2:=hn.2
  split at hn2
  ·rename_i A' hA'
   obtain ⟨A,hA,hs⟩:=h.ar n A' hA'
   rw[Bool.and_eq_true,Bool.not_eq_true']at hn2
   rcases hs with ⟨h1,h2⟩|⟨h1,rfl⟩
   ·exact ⟨A,A',hA,hA',hn2.1,h1,h2⟩
   ·rw[h1]at hn2;cases hn2.2
  ·cases hn2
 obtain ⟨g2,st2,r2,e1,e2,e3⟩:=hr.sealSome sgk (st':=st') (as.filter (fun n=>match zab n st'.ar with|some A=>A.sealed&&!A.dead|none=>false)) (fun n hn=>by
  obtain ⟨A,A',hA,-,hse,hs⟩:=hfil n hn
  refine ⟨fun e=>?_,A,hA,hs.1⟩
  rcases hs.2 with h2|h2
  ·rw[h2,((hr.ar n A hA).own e).2]at hse;cases hse
  ·exact h2.2 e)
 have hlk:∀n,zab n st2.ar=zab n st'.ar:=by
  intro n
  rw[e3]
  split
  ·rename_i hn
   obtain ⟨A,A',hA,hA',hse,hs⟩:=hfil n hn
   rw[hA,hA']
   rcases hs.2 with rfl|⟨rfl,-⟩
   ·obtain ⟨Ak,Axs,Av,As,Ad⟩:=A'
    simp only at hse;subst hse;rfl
   ·rfl
  ·rename_i hn
   cases hA':zab n st'.ar with
   |none=>
    cases hA:zab n st.ar with
    |none=>rfl
    |some A=>
     have:=h.an n (ha n (by rw[hA];rfl))
     rw[hA']at this;cases this
   |some A'=>
    obtain ⟨A,hA,hs⟩:=h.ar n A' hA'
    rw[hA]
    rcases (show A'=A∨(A.dead=false∧A'={A with sealed:=true}) from hs.elim (fun h=>h.2.imp id fun q=>⟨h.1,q.1⟩) fun h=>.inl h.2) with e|⟨hdd,e⟩
    ·rw[e]
    ·exfalso
     apply hn
     rw[List.mem_filter]
     exact ⟨ha n (by rw[hA];rfl),by rw[hA'];rw[e];simp[hdd]⟩
 refine ⟨g2,{r2 with env:=fun s d hs=>?_,bx:=fun b cs hb'=>?_,bd:=fun b blk hb'=>?_,ar:=fun n A hn=>r2.ar n A (by rw[hlk];exact hn),ad:=fun n hn=>by rw[←hlk];exact r2.ad n hn}⟩
 ·obtain ⟨d0,h1,h2⟩:=h.env s d hs
  exact h2.vr (r2.env s d0 (by rw[e1];exact h1))
 ·obtain ⟨cs0,h1,h2⟩:=h.bx b cs hb'
  obtain ⟨blk,f1,f2,f3,f4⟩:=r2.bx b cs0 (by rw[e2];exact h1)
  exact ⟨blk,f1,f2,f3,h2.box f4⟩
 ·obtain ⟨cs,hcs⟩:=r2.bd b blk hb'
  rw[e2]at hcs
  exact Option.isSome_iff_exists.1 (h.bn b (hb b (by rw[hcs];rfl)))
theorem zjb {γ:Type} {l:List (Nat×γ)} {ns:List Nat} {b:Nat} (h:(zab b (zd1 l ns)).isSome=true):b∈ns:=by
 rw[zco]at h
 split at h
 ·assumption
 ·cases h
theorem zjp {ss bs as:List Nat} {st1:St κ El} (h:zyd ss bs as st=some st1):(∀b,(zab b st1.bx).isSome=true→b∈bs)∧(∀n,(zab n st1.ar).isSome=true→n∈as):=by
 unfold zyd at h
 simp only[zad]at h
 split at h
 ·cases h;exact ⟨fun b h=>zjb h,fun n h=>zjb h⟩
 ·cases h
theorem zsq:∀{ta:List (Nat×Nat×κ)} {st st1:St κ El},zsp st ta=some st1→st1.bx=st.bx∧∀n,(zab n st1.ar).isSome=true→(zab n st.ar).isSome=true∨∃t∈ta,t.2.1=n:=by
 intro ta
 induction ta with
 |nil=>intro st st1 h;cases h;exact ⟨rfl,fun n h=>.inl h⟩
 |cons t ta ih=>
  obtain ⟨s,m,kd⟩:=t
  intro st st1 h
  simp only[zsp]at h
  split at h
  ·split at h
   ·obtain ⟨h1,h2⟩:=ih h
    refine ⟨h1,fun n hn=>?_⟩
    rcases h2 n hn with h3|⟨t,ht,h3⟩
    ·replace h3:(zab n ((m,(⟨kd,[],0,false,false⟩:Ar κ El))::st.ar)).isSome=true:=h3
     rw[zag]at h3
     split at h3
     ·rename_i e;exact .inr ⟨_,List.mem_cons_self ..,e.symm⟩
     ·exact .inl h3
    ·exact .inr ⟨t,by simp[ht],h3⟩
   ·cases h
  ·rw[zad]at h
   split at h
   ·obtain ⟨h1,h2⟩:=ih h
    exact ⟨h1,fun n hn=>(h2 n hn).imp id (fun ⟨t,ht,h3⟩=>⟨t,by simp[ht],h3⟩)⟩
   ·cases h
  ·cases h
theorem zsh:∀{l:List Nat} {st st1:St κ El},zyf st l=some st1→st1.bx=st.bx∧∀n,(zab n st1.ar).isSome=true→(zab n st.ar).isSome=true:=by
 intro l
 induction l with
 |nil=>intro st st1 h;cases h;exact ⟨rfl,fun n h=>h⟩
 |cons m l ih=>
  intro st st1 h
  simp only[zyf]at h
  split at h
  ·rename_i A hA
   rw[zad]at h
   split at h
   ·cases h
   ·obtain ⟨h1,h2⟩:=ih h
    refine ⟨h1,fun n hn=>?_⟩
    have h3:=h2 n hn
    replace h3:(zab n (aset m {A with sealed:=true} st.ar)).isSome=true:=h3
    rw[zac hA]at h3
    split at h3
    ·rename_i e;rw[e,hA];rfl
    ·exact h3
  ·cases h
theorem zsc:∀{l:List Nat} {st st1:St κ El},zsb st l=some st1→(∀b,(zab b st1.bx).isSome=true→(zab b st.bx).isSome=true)∧∀n,(zab n st1.ar).isSome=true→(zab n st.ar).isSome=true:=by
 intro l
 induction l with
 |nil=>intro st st1 h;cases h;exact ⟨fun n h=>h,fun n h=>h⟩
 |cons m l ih=>
  intro st st1 h
  simp only[zsb]at h
  split at h
  ·rename_i A hA
   split at h
   ·rename_i env bx hd he hb
    obtain ⟨h1,h2⟩:=ih h
    refine ⟨fun b hb'=>?_,fun n hn=>?_⟩
    ·rw[←(znn hb).1 b];exact h1 b hb'
    ·have h3:=h2 n hn
     replace h3:(zab n (aset m {A with ver:=0} st.ar)).isSome=true:=h3
     rw[zac hA]at h3
     split at h3
     ·rename_i e;rw[e,hA];rfl
     ·exact h3
   ·rw[zad]at h
    split at h
    ·exact ih h
    ·cases h
   ·cases h
  ·cases h
theorem zr1 {ta:List (Nat×Nat×κ)} {se ss bs as:List Nat} {st1:St κ El} (h:z4e ta se ss bs as st=some st1) (hta:∀t∈ta,t.2.1∈as) :
 (∀b,(zab b st1.bx).isSome=true→b∈bs)∧(∀n,(zab n st1.ar).isSome=true→n∈as):=by
 unfold z4e at h
 split at h
 ·rename_i st2 h2
  split at h
  ·rename_i st3 h3
   split at h
   ·rename_i st4 h4
    obtain ⟨a1,a2⟩:=zjp h2
    obtain ⟨b1,b2⟩:=zsq h3
    obtain ⟨c1,c2⟩:=zsh h4
    obtain ⟨d1,d2⟩:=zsc h
    refine ⟨fun b hb=>a1 b (by rw[←b1,←c1];exact d1 b hb),fun n hn=>?_⟩
    rcases b2 n (c2 n (d2 n hn)) with h5|⟨t,ht,h5⟩
    ·exact a2 n h5
    ·rw[←h5];exact hta t ht
   ·cases h
  ·cases h
 ·cases h
def zj8 (m:Nat) (ta:List (Nat×Nat×κ)) (bs as fbs fas:List Nat):Bool:=
 ta.all (fun t=>as.any (Nat.beq t.2.1))&&(bs.all (fun b=>fbs.any (Nat.beq b))&&(as.all (fun n=>fas.any (Nat.beq n))&&(bif Nat.beq m MA then as.any (Nat.beq MA) else Nat.ble m 1000&&(List.range m).all (fun j=>bs.any (Nat.beq (MB+j))))))
theorem zkw {m:Nat} {ta:List (Nat×Nat×κ)} {bs as fbs fas:List Nat} (h:zj8 m ta bs as fbs fas=true) :
 (∀t∈ta,t.2.1∈as)∧(∀b∈bs,b∈fbs)∧(∀n∈as,n∈fas)∧∀c:Cx,c.ar=m→(∀j,j<c.mb.length→MB+j∈bs)∧(c.pv≠none→MA∈as):=by
 unfold zj8 at h
 simp only[Bool.and_eq_true]at h
 refine ⟨fun t ht=>zdg.1 (List.all_eq_true.1 h.1 t ht),fun b hb=>zdg.1 (List.all_eq_true.1 h.2.1 b hb),fun n hn=>zdg.1 (List.all_eq_true.1 h.2.2.1 n hn),
  fun c hc=>?_⟩
 have h4:=h.2.2.2
 rw[zad]at h4
 split at h4
 ·rename_i hm
  rw[Nat.beq_eq]at hm
  subst hm
  have hb:=(Cx.ar_own hc).2
  exact ⟨fun j hj=>(by rw[hb]at hj;cases hj),fun _=>zdg.1 h4⟩
 ·rw[Bool.and_eq_true,Nat.ble_eq]at h4
  obtain ⟨h5,h6⟩:=Cx.ar_box hc (Nat.lt_of_le_of_lt h4.1 (by decide))
  exact ⟨fun j hj=>zdg.1 (List.all_eq_true.1 h4.2 j (by simpa[h6]using hj)),fun hp=>absurd h5 hp⟩
theorem z1o (sgk:SgOk S) {d d':D κ El} {st':St κ El} (h:z1n st d=some (st',d')) (hr:Rel S c st g a w) :
 ∃g',Rel S c st' g' a w∧Le w g w g'∧st'.env=st.env∧st'.bx=st.bx∧(∀v,VR S w g v d→VR S w g' v d'):=by
 unfold z1n at h
 split at h
 ·rename_i cs
  split at h
  ·rename_i s1 cs1 h1
   cases h
   obtain ⟨g1,r1,l1,b1,e1,x1,n1,v1⟩:=zbb sgk h1 hr
   refine ⟨g1,r1,l1,e1,x1,fun v hv=>?_⟩
   obtain ⟨vs,rfl,hs,hall⟩:=hv.agg_inv
   refine .agg vs cs1 (by rw[hs,n1]) (fun i v d e2 e3=>?_)
   have hi:i<cs.length:=by rw[←n1];exact (List.getElem?_eq_some_iff.1 e3).1
   obtain ⟨d2,h3,h4⟩:=v1 i _ (List.getElem?_eq_getElem hi)
   rw[e3]at h3;cases h3
   exact .data (h4 v (hall i v _ e2 (List.getElem?_eq_getElem hi)))
  ·cases h
 ·cases h;exact ⟨g,hr,.refl w g,rfl,rfl,fun v hv=>hv⟩
 ·obtain ⟨g1,r1,l1,b1,e1,x1,v1⟩:=zec sgk h hr
  exact ⟨g1,r1,l1,e1,x1,fun v hv=>.data (v1 v hv)⟩
theorem zif (sgk:SgOk S):∀{l:List Nat} {st st1:St κ El} {g:Gh},zf7 st l=some st1→Rel S c st g a w→(∃g',Rel S c st1 g' a w)∧st1.bx=st.bx:=by
 intro l
 induction l with
 |nil=>intro st st1 g h hr;cases h;exact ⟨⟨g,hr⟩,rfl⟩
 |cons s l ih=>
  intro st st1 g h hr
  simp only[zf7]at h
  split at h
  ·rename_i d hd
   split at h
   ·rename_i s1 d1 h1
    obtain ⟨g1,r1,l1,e1,x1,v1⟩:=z1o sgk h1 hr
    have r2:Rel S c {s1 with env:=(s,d1)::s1.env} g1 a w:=by
     refine {r1 with env:=fun s0 d0 h0=>?_}
     replace h0:zab s0 ((s,d1)::s1.env)=some d0:=h0
     rw[zag]at h0
     split at h0
     ·rename_i e;subst e;cases h0
      exact v1 _ (hr.env s0 d hd)
     ·exact r1.env s0 d0 h0
    obtain ⟨h2,h3⟩:=ih h r2
    exact ⟨h2,h3.trans x1⟩
   ·cases h
  ·cases h
theorem zaoa (sgk:SgOk S) {m:Nat} {ta:List (Nat×Nat×κ)} {se ss bs as:List Nat} {fc:FC κ El α} (hf:FCOk fc) (hh:zj8 m ta bs as fc.bs fc.as=true) :
 ∀st st1 x,prep ta se ss bs as st=some st1→fc.dec st1=some x→ToOk P S m st (fc.enc x):=by
 intro st st1 x h hd c g a w hr hm
 obtain ⟨k1,k2,k3,k4⟩:=zkw hh
 unfold prep at h
 split at h
 rotate_left
 ·cases h
 rename_i st0 h0
 obtain ⟨⟨g0,r0⟩,-⟩:=zif sgk h0 hr
 obtain ⟨g1,r1⟩:=zach sgk h r0 (k4 c hm)
 obtain ⟨n1,n2⟩:=zr1 h k1
 exact (hf _ _ hd).rel sgk (fun b hb=>k2 b (n1 b hb)) (fun n hn=>k3 n (n2 n hn)) r1
theorem zrd (sgk:SgOk S):∀{l:List Nat} {st st1:St κ El} {g:Gh},zho st l=some st1→Rel S c st g a w→∃g',Rel S c st1 g' a w:=by
 intro l
 induction l with
 |nil=>intro st st1 g h hr;cases h;exact ⟨g,hr⟩
 |cons b l ih=>
  intro st st1 g h hr
  simp only[zho]at h
  split at h
  ·rename_i cs hb
   split at h
   ·rename_i s1 cs1 h1
    obtain ⟨g1,r1,l1,b1,e1,x1,n1,v1⟩:=zbb sgk h1 hr
    have hb1:zab b s1.bx=some cs:=by rw[x1];exact hb
    refine ih h (g:=g1) {r1 with bx:=fun b0 cs0 h0=>?_,bd:=fun b0 blk h0=>?_}
    ·replace h0:zab b0 (aset b cs1 s1.bx)=some cs0:=h0
     rw[zac hb1]at h0
     split at h0
     ·rename_i e;subst e;cases h0
      obtain ⟨blk,f1,f2,f3,vals,t,f4,f5,f6⟩:=r1.bx b0 cs hb1
      obtain ⟨blk0,q1,q2,q3,vals0,t0,q4,q5,q6⟩:=hr.bx b0 cs hb
      have eb:blk0=blk:=by rw[b1]at f1;rw[f1]at q1;cases q1;rfl
      subst eb
      rw[q4]at f4
      cases f4
      refine ⟨blk0,f1,f2,f3,vals,t,q4,by rw[q5,n1],fun i v d k1 k2=>?_⟩
      have hi:i<cs.length:=by rw[←n1];exact (List.getElem?_eq_some_iff.1 k2).1
      obtain ⟨d2,h3,h4⟩:=v1 i _ (List.getElem?_eq_getElem hi)
      rw[k2]at h3;cases h3
      exact .data (h4 v (q6 i v _ k1 (List.getElem?_eq_getElem hi)))
     ·exact r1.bx b0 cs0 h0
    ·obtain ⟨cs0,hcs0⟩:=r1.bd b0 blk h0
     show ∃cs,zab b0 (aset b cs1 s1.bx)=some cs
     rw[zac hb1]
     split
     ·exact ⟨_,rfl⟩
     ·exact ⟨_,hcs0⟩
   ·cases h
  ·cases h
theorem zxy (sgk:SgOk S) {m:Nat} {rs ps bs:List Nat} {fc:FC κ El α} (hf:FCOk fc) (hh:zj8 (κ:=κ) m [] bs [] fc.bs fc.as=true) :
 ∀st st1 x,zne rs ps bs st=some st1→fc.dec st1=some x→ToOk P S m st (fc.enc x):=by
 intro st st1 x h hd c g a w hr hm
 obtain ⟨k1,k2,k3,k4⟩:=zkw hh
 unfold zne at h
 split at h
 ·rename_i s1 h1
  split at h
  ·rename_i s2 h2
   obtain ⟨⟨g1,r1⟩,-⟩:=zif sgk h1 hr
   obtain ⟨g2,r2⟩:=zrd sgk h2 r1
   obtain ⟨g3,r3⟩:=zvw h r2 (k4 c hm)
   obtain ⟨n1,n2⟩:=zjp h
   exact (hf _ _ hd).rel sgk (fun b hb=>k2 b (n1 b hb)) (fun n hn=>k3 n (n2 n hn)) r3
  ·cases h
 ·cases h
theorem zfa {m:Nat} {pr:St κ El→Option (St κ El)} {fc:FC κ El α} {k:α→β} {b:β} (hp:∀st st1 x,pr st=some st1→fc.dec st1=some x→ToOk P S m st (fc.enc x)) (h:zja pr fc st k=some b) :
 ∃x,b=k x∧ToOk P S m st (fc.enc x):=by
 unfold zja at h
 split at h
 ·rename_i st1 h1
  split at h
  ·rename_i x h2;cases h;exact ⟨x,rfl,hp _ _ _ h1 h2⟩
  ·cases h
 ·cases h
end
end Go.Proofs.YtpaidiaknfhclaaGreatDoor.Ev
namespace Go.Proofs.YtpaidiaknfhclaaGreatDoor.Ev
open Go
theorem zey.mono {nt nt':Nat} (hle:nt≤nt'):∀{c:Code},zey nt c→zey nt' c:=by
 intro c
 induction c with
 |region id ops draw=>intro h o ho t ht;exact Nat.lt_of_lt_of_le (h o ho t ht) hle
 |seq a b iha ihb=>intro h;exact ⟨iha h.1,ihb h.2⟩
 |cond c a b iha ihb=>intro h;exact ⟨iha h.1,ihb h.2⟩
 |block id c ih=>intro h;exact ih h
 |loop c ih=>intro h;exact ih h
 |scope c ih=>intro h;exact ih h
 |_=>intro _;trivial
structure FnOk (P:Program) (f:Nat) (fn:Func) (code:Code):Prop where
 at_:P.funcs[f]?=some fn
 name:(fn.name == "runtime.NumGoroutine")=false
 body:fn.body=some code
 dst:zey fn.ntmps code
def zgm:List Nat→Bool
 | []=>true
 |n::l=>!l.any (Nat.beq n)&&zgm l
theorem ziu {fn:Func} {code:Code} (hb:fn.body=some code) (hn:zgm ((zaj code).map zap)=true):∀b∈zaj code,zbp fn (zap b)=b:=by
 intro b hm
 have key:∀{l:List Code},zgm (l.map zap)=true→∀b∈l,(l.find? fun c=>Nat.beq (zap c) (zap b))=some b:=by
  intro l
  induction l with
  |nil=>intro _ b h;cases h
  |cons c l ih=>
   intro hn b hb
   simp only[List.map_cons,zgm,Bool.and_eq_true,Bool.not_eq_true']at hn
   rw[List.find?_cons]
   rcases List.mem_cons.1 hb with rfl|hb
   ·simp[nbeq]
   ·have hne:Nat.beq (zap c) (zap b)=false:=by
     cases h:Nat.beq (zap c) (zap b) with
     |false=>rfl
     |true=>
      have:=List.any_eq_false.1 hn.1 (zap b) (List.mem_map.2 ⟨b,hb,rfl⟩)
      exact absurd h this
    rw[hne];exact ih hn.2 b hb
 unfold zbp
 simp only[hb,key hn b hm]
section
variable {κ:Type} {El:κ→Type} {S:Sg κ El} {P:Program}
variable {c:Cx} {st:St κ El} {g:Gh} {a:Act} {w:World}
theorem zard {t:TypeId} {v0 v:Value} (h:(Instr.loadAt t v0).run P w=.ok v w):(do loadVar t (←asAddr v0):Sem Value).run P w=.ok v w:=by
 unfold Instr.loadAt at h
 cases v0 with
 |pointer a=>
  cases a with
  |some a=>exact h
  |none=>exact absurd h (by simp[Instr.sureAddr,stuck])
 |_=>exact absurd h (by simp[Instr.sureAddr,stuck])
def zqd (tmps:Array Value):ResultVar→Sem Value
 |.tmp t=>pure (tmps.getD t undef)
 |.cell a t=>do loadVar t (←asAddr (tmps.getD a undef))
theorem z4x (ok:PrOk P) (sgk:SgOk S) {rv:ResultVar} {d:D κ El} (h:zvv P S st rv=some d) (hr:Rel S c st g a w) :
 ∃v,(zqd a.tmps rv).run P w=.ok v w∧VR S w g v d:=by
 cases rv with
 |tmp t=>
  simp only[zvv,Option.some.injEq]at h
  subst h
  exact ⟨_,rfl,hr.opd (.tmp t)⟩
 |cell p t=>
  simp only[zvv]at h
  obtain ⟨d',hd,hl⟩:=zve ok sgk h
  cases hd
  obtain ⟨v,h1,h2⟩:=hl c g a w (a.tmps.getD p undef) hr (hr.opd (.tmp p))
  exact ⟨v,zard h1,h2⟩
def LB (g:Gh) (b o:Nat):Prop:=∃n,n<MB∧g.bl n=some b
theorem DR.toLB {v:Value} {d:D κ El} (sgk:SgOk S) (h:DR S w g.I g.J v d) (hn:noC d=true):DR S w g.I (LB g) v d:=h.relend sgk hn
theorem zic {st':St κ El} {d d':D κ El} (h:zbf st d=some (st',d')):noC.noCl d'=true∧noC d'=true:=by
 unfold zbf at h
 split at h
 case h_7=>
  split at h
  ·rw[zad]at h
   split at h
   ·cases h;exact ⟨rfl,rfl⟩
   ·cases h
  ·cases h
 case h_8=>cases h
 all_goals (cases h;exact ⟨rfl,rfl⟩)
theorem zdu:∀{cs cs':List (D κ El)} {st st':St κ El},za5 st cs=some (st',cs')→∀d∈cs',noC.noCl d=true:=by
 intro cs
 induction cs with
 |nil=>intro cs' st st' h d hd;cases h;cases hd
 |cons c cs ih=>
  intro cs' st st' h d hd
  simp only[za5]at h
  split at h
  ·rename_i s1 d1 h1
   split at h
   ·rename_i s2 cs2 h2
    cases h
    rcases List.mem_cons.1 hd with rfl|hd
    ·exact (zic h1).1
    ·exact ih h2 d hd
   ·cases h
  ·cases h
theorem zks (sgk:SgOk S) {d d':D κ El} {st':St κ El} (hd:zsd.resC d=true) (h:ze3 st d=some (st',d')) (hr:Rel S c st g a w) :
 ∃g',Rel S c st' g' a w∧Le w g w g'∧g'.bl=g.bl∧st'.env=st.env∧st'.bx=st.bx∧(∀v,VR S w g v d→DR S w g'.I (LB g') v d'):=by
 unfold ze3 at h
 split at h
 ·rename_i cs
  split at h
  ·rename_i st1 cs1 hd
   cases h
   obtain ⟨g1,r1,l1,b1,e1,x1,n1,v1⟩:=zbb sgk hd hr
   refine ⟨g1,r1,l1,b1,e1,x1,fun v hv=>?_⟩
   obtain ⟨vs,rfl,hl,hvs⟩:=hv.agg_inv
   refine .agg vs cs1 (by rw[hl,n1]) (fun i v d' hv' hd'=>?_)
   have hi:i<cs.length:=by rw[←n1];exact (List.getElem?_eq_some_iff.1 hd').1
   obtain ⟨d2,h2,h3⟩:=v1 i cs[i] (List.getElem?_eq_getElem hi)
   rw[hd']at h2;cases h2
   exact (h3 v (hvs i v _ hv' (List.getElem?_eq_getElem hi))).relendL sgk (zdu hd d' (List.mem_of_getElem? hd'))
  ·cases h
 ·cases hd
 ·rename_i b off
  split at h
  ·rename_i cs hb
   split at h
   ·rename_i st1 cs1 hdc
    cases h
    obtain ⟨g1,r1,l1,b1,e1,x1,n1,v1⟩:=zbb sgk hdc hr
    refine ⟨g1,r1,l1,b1,e1,x1,fun v hv=>?_⟩
    obtain ⟨blk,rfl,hbl⟩:=hv.ptr_inv
    obtain ⟨blk',hbl',_,_,vals,t,hh,hs,hvals⟩:=hr.bx b cs hb
    rw[hbl]at hbl';cases hbl'
    have hbm:b<MB:=by
     simp only[zsd.resC,Bool.not_eq_true']at hd
     rcases Nat.lt_or_ge b MB with h|h
     ·exact h
     ·rw[Nat.ble_eq_true_of_le h]at hd;cases hd
    have key:DR S w g1.I (LB g1) (.pointer (some ⟨blk,0+off,none⟩)) (.cptr cs1 off):=by
     refine .cptr blk 0 cs1 off (fun j=>vals.getD j undef) (fun j hj=>?_) (fun j d' hd'=>?_)
     ·have hj':j<vals.size:=by rw[hs,←n1];exact hj
      refine ⟨by simp[World.cell?,hh,hj'],⟨b,hbm,by rw[b1];simpa using hbl⟩⟩
     ·have hi:j<cs.length:=by rw[←n1];exact (List.getElem?_eq_some_iff.1 hd').1
      have hi':j<vals.size:=by rw[hs];exact hi
      obtain ⟨d2,h2,h3⟩:=v1 j cs[j] (List.getElem?_eq_getElem hi)
      rw[hd']at h2;cases h2
      exact (h3 _ (hvals j _ _ (by simp[hi']) (List.getElem?_eq_getElem hi))).relendL sgk (zdu hdc d' (List.mem_of_getElem? hd'))
    rwa [Nat.zero_add]at key
   ·cases h
  ·cases h
 ·obtain ⟨g1,r1,l1,b1,e1,x1,v1⟩:=zec sgk h hr
  exact ⟨g1,r1,l1,b1,e1,x1,fun v hv=>(v1 v hv).relend sgk (zic h).2⟩
theorem LB.mono {g g':Gh} (hbl:g'.bl=g.bl) (H:Le w g w g') {v:Value} {d:D κ El} (h:DR S w g.I (LB g) v d):DR S w g'.I (LB g') v d:=
 h.mono H.I (fun b o ⟨n,hn,hb⟩=>⟨rfl,n,hn,by rw[hbl];exact hb⟩)
theorem zie (sgk:SgOk S):∀{cs cs':List (D κ El)} {st st':St κ El} {g:Gh},(∀d∈cs,zsd.resC d=true)→zd0 st cs=some (st',cs')→Rel S c st g a w→
 ∃g',Rel S c st' g' a w∧Le w g w g'∧g'.bl=g.bl∧st'.env=st.env∧st'.bx=st.bx∧Dat S w g g' (LB g') cs cs':=by
 intro cs
 induction cs with
 |nil=>
  intro cs' st st' g hN h hr
  cases h
  exact ⟨g,hr,.refl w g,rfl,rfl,rfl,rfl,fun i d hd=>by simp at hd⟩
 |cons d cs ih=>
  intro cs' st st' g hN h hr
  simp only[zd0]at h
  split at h
  ·rename_i st1 d1 hd1
   split at h
   ·rename_i st2 cs2 hd2
    cases h
    obtain ⟨g1,r1,l1,b1,e1,x1,v1⟩:=zks sgk (hN d (by simp)) hd1 hr
    obtain ⟨g2,r2,l2,b2,e2,x2,n2,v2⟩:=ih (fun d' hd'=>hN d' (by simp[hd'])) hd2 r1
    refine ⟨g2,r2,l1.trans l2,b2.trans b1,e2.trans e1,x2.trans x1,by simp[n2],fun i d' hd'=>?_⟩
    cases i with
    |zero=>
     simp only[List.getElem?_cons_zero,Option.some.injEq]at hd'
     subst hd'
     exact ⟨d1,rfl,fun v hv=>LB.mono b2 l2 (v1 v hv)⟩
    |succ i=>
     simp only[List.getElem?_cons_succ]at hd' ⊢
     obtain ⟨d2,h2,h3⟩:=v2 i d' hd'
     exact ⟨d2,h2,fun v hv=>h3 v (hv.mono l1)⟩
   ·cases h
  ·cases h
theorem zwv (sgk:SgOk S) {d d':D κ El} {st':St κ El} (hd:zsd d=true) (h:zeu st d=some (st',d')) (hr:Rel S c st g a w) :
 ∃g',Rel S c st' g' a w∧Le w g w g'∧g'.bl=g.bl∧st'.env=st.env∧st'.bx=st.bx∧(∀v,VR S w g v d→DR S w g'.I (LB g') v d'):=by
 unfold zeu at h
 split at h
 ·rename_i f pre caps
  unfold zsd at hd
  rw[Bool.and_eq_true]at hd
  split at h
  ·rename_i st1 pre1 hd1
   split at h
   ·rename_i st2 caps1 hd2
    cases h
    obtain ⟨g1,r1,l1,b1,e1,x1,n1,v1⟩:=zie sgk (fun d hm=>List.all_eq_true.1 hd.1 d hm) hd1 hr
    obtain ⟨g2,r2,l2,b2,e2,x2,n2,v2⟩:=zie sgk (fun d hm=>List.all_eq_true.1 hd.2 d hm) hd2 r1
    refine ⟨g2,r2,l1.trans l2,b2.trans b1,e2.trans e1,x2.trans x1,fun v hv=>?_⟩
    obtain ⟨p,cp,rfl,hp,hc,w1,w2⟩:=hv.fn_inv
    refine .fn f p cp pre1 caps1 (by rw[hp,n1]) (by rw[hc,n2]) (fun i v d e1 e2=>?_) (fun i v d e1 e2=>?_)
    ·have hi:i<pre.length:=by rw[←n1];exact (List.getElem?_eq_some_iff.1 e2).1
     obtain ⟨d2,h3,h4⟩:=v1 i _ (List.getElem?_eq_getElem hi)
     rw[e2]at h3;cases h3
     exact LB.mono b2 l2 (h4 v (w1 i v _ e1 (List.getElem?_eq_getElem hi)))
    ·have hi:i<caps.length:=by rw[←n2];exact (List.getElem?_eq_some_iff.1 e2).1
     obtain ⟨d2,h3,h4⟩:=v2 i _ (List.getElem?_eq_getElem hi)
     rw[e2]at h3;cases h3
     exact h4 v ((w2 i v _ e1 (List.getElem?_eq_getElem hi)).mono l1)
   ·cases h
  ·cases h
 ·rename_i hne
  refine zks sgk ?_ h hr
  cases d<;>first|rfl|(simp[zsd]at hd;done)|exact absurd rfl (hne _ _ _)
theorem z4w (ok:PrOk P) (sgk:SgOk S):∀{rs:List ResultVar} {ds:List (D κ El)} {st st':St κ El} {g:Gh},zqc P S st rs=some (st',ds)→Rel S c st g a w→
 ∃g' vs,Rel S c st' g' a w∧Le w g w g'∧g'.bl=g.bl∧st'.env=st.env∧st'.bx=st.bx∧(rs.mapM (zqd a.tmps)).run P w=.ok vs w∧vs.length=ds.length∧
  ∀(i:Nat) v d,vs[i]?=some v→ds[i]?=some d→DR S w g'.I (LB g') v d:=by
 intro rs
 induction rs with
 |nil=>
  intro ds st st' g h hr
  cases h
  exact ⟨g,[],hr,.refl w g,rfl,rfl,rfl,rfl,rfl,fun i v d h=>by simp at h⟩
 |cons rv rs ih=>
  intro ds st st' g h hr
  simp only[zqc]at h
  split at h
  ·rename_i d hd
   rw[zad]at h
   split at h
   ·rename_i hok
    split at h
    ·rename_i st1 d1 h1
     split at h
     ·rename_i st2 ds2 h2
      cases h
      obtain ⟨v,e0,hv⟩:=z4x ok sgk hd hr
      obtain ⟨g1,r1,l1,b1,e1,x1,v1⟩:=zwv sgk hok h1 hr
      obtain ⟨g2,vs,r2,l2,b2,e2,x2,e3,hl,hall⟩:=ih h2 r1
      refine ⟨g2,v::vs,r2,l1.trans l2,b2.trans b1,e2.trans e1,x2.trans x1,?_,by simp[hl],fun i v' d' k1 k2=>?_⟩
      ·simp only[List.mapM_cons,Sem.run_bind,e0,e3,Sem.run_pure,Result.andThen_ok]
      ·cases i with
       |zero=>
        simp only[List.getElem?_cons_zero,Option.some.injEq]at k1 k2
        subst k1 k2
        exact LB.mono b2 l2 (v1 v hv)
       |succ i=>exact hall i v' d' (by simpa using k1) (by simpa using k2)
     ·cases h
    ·cases h
   ·cases h
  ·cases h
theorem zye (fn:Func) (tmps:Array Value):results fn tmps=(fn.results.mapM (zqd tmps) >>= fun vs=>pure (if h:vs.size=1 then vs[0] else .tuple vs)):=by
 unfold results
 have e:(fun | .tmp t=>pure (tmps.getD t undef) | .cell p t=>do loadVar t (←asAddr (tmps.getD p undef)):ResultVar→Sem Value)=zqd tmps:=funext fun rv=>by cases rv<;>rfl
 rw[←e];rfl
def outV:List Value→Value
 | [v]=>v
 |vs=>.tuple vs.toArray
theorem zfx {fn:Func} {vs:List Value} (h:(fn.results.toList.mapM (zqd a.tmps)).run P w=.ok vs w) :
 (results fn a.tmps).run P w=.ok (outV vs) w:=by
 rw[zye,Sem.run_bind,Array.mapM_eq_mapM_toList,Sem.run_map,h]
 simp only[Result.andThen_ok,Sem.run_pure]
 match vs with
 | []=>rfl
 | [v]=>rfl
 |v::u::vs=>rfl
theorem zzj (sgk:SgOk S):∀{m j:Nat} {bs:List (List (D κ El))} {st:St κ El} {g:Gh},znx st m j=some bs→Rel S c st g a w→
 ∃g' st',Rel S c st' g' a w∧Le w g w g'∧g'.bl=g.bl∧bs.length=m∧∀(i:Nat) cs,bs[i]?=some cs→∃blk,g.bl (MB+(j+i))=some blk∧BoxD S w g'.I (LB g') blk cs:=by
 intro m
 induction m with
 |zero=>intro j bs st g h hr;cases h;exact ⟨g,st,hr,.refl w g,rfl,rfl,fun i cs h=>by simp at h⟩
 |succ m ih=>
  intro j bs st g h hr
  simp only[znx]at h
  split at h
  ·rename_i cs hb
   split at h
   ·rename_i st1 cs1 h1
    split at h
    ·rename_i l h2
     cases h
     obtain ⟨g1,r1,l1,b1,e1,x1,n1,v1⟩:=zbb sgk h1 hr
     obtain ⟨g2,st2,r2,l2,b2,hl,hall⟩:=ih h2 r1
     refine ⟨g2,st2,r2,l1.trans l2,b2.trans b1,by simp[hl],fun i cs' hi=>?_⟩
     cases i with
     |zero=>
      simp only[List.getElem?_cons_zero,Option.some.injEq]at hi
      subst hi
      obtain ⟨blk,f1,f2,f3,vals,t,f4,f5,f6⟩:=hr.bx _ cs hb
      refine ⟨blk,f1,vals,t,f4,by rw[f5,n1],fun i v d k1 k2=>?_⟩
      have hi:i<cs.length:=by rw[←n1];exact (List.getElem?_eq_some_iff.1 k2).1
      obtain ⟨d2,h3,h4⟩:=v1 i _ (List.getElem?_eq_getElem hi)
      rw[k2]at h3;cases h3
      exact ((h4 v (f6 i v _ k1 (List.getElem?_eq_getElem hi))).mono l2.I l2.J).relendL sgk (zdu h1 d (List.mem_of_getElem? k2))
     |succ i=>
      obtain ⟨blk,f1,f2⟩:=hall i cs' (by simpa using hi)
      refine ⟨blk,?_,f2⟩
      rw[←b1,show j+(i+1)=j+1+i by omega];exact f1
    ·cases h
   ·cases h
  ·cases h
theorem zasu {α:Type} (f:Nat→Nat) (hf:∀i j,f i=f j→i=j):∀(l:List α) (k:Nat) (s:Nat),zab s ((l.zipIdx k).map (fun p=>(f p.2,p.1)))=(l.zipIdx k).findSome? (fun p=>if f p.2=s then some p.1 else none):=by
 intro l
 induction l with
 |nil=>intros;rfl
 |cons x l ih=>
  intro k s
  simp only[List.zipIdx_cons,List.map_cons,List.findSome?_cons]
  rw[zag,ih]
  by_cases h:s=f k
  ·subst h;simp
  ·rw[if_neg h,if_neg (fun e=>h e.symm)]
theorem ze0 (ds:List (D κ El)) (bs:List (List (D κ El))) (s:Nat):zab s (enter ds bs).env=ds[s]?:=by
 have key:∀(l:List (D κ El)) (k s:Nat),zab s ((l.zipIdx k).map (fun p=>(p.2,p.1)))=if k≤s then l[s-k]? else none:=by
  intro l
  induction l with
  |nil=>intro k s;simp[zab]
  |cons x l ih=>
   intro k s
   simp only[List.zipIdx_cons,List.map_cons]
   rw[zag,ih]
   by_cases h:s=k
   ·subst h;simp
   ·rw[if_neg h]
    by_cases h2:k≤s
    ·rw[if_pos (by omega),if_pos h2,show s-k=(s-(k+1))+1 by omega,List.getElem?_cons_succ]
    ·rw[if_neg (by omega),if_neg h2]
 have:=key ds 0 s
 simpa[enter]using this
theorem zfp (ds:List (D κ El)) (bs:List (List (D κ El))) (s:Nat):zab s (enter ds bs).bx=if MB≤s then bs[s-MB]? else none:=by
 have key:∀(l:List (List (D κ El))) (k s:Nat),zab s ((l.zipIdx k).map (fun p=>(MB+p.2,p.1)))=if MB+k≤s then l[s-(MB+k)]? else none:=by
  intro l
  induction l with
  |nil=>intro k s;simp[zab]
  |cons x l ih=>
   intro k s
   simp only[List.zipIdx_cons,List.map_cons]
   rw[zag,ih]
   by_cases h:s=MB+k
   ·subst h;simp
   ·rw[if_neg h]
    by_cases h2:MB+k≤s
    ·rw[if_pos (by omega),if_pos h2,show s-(MB+k)=(s-(MB+(k+1)))+1 by omega,List.getElem?_cons_succ]
    ·rw[if_neg (by omega),if_neg h2]
 have:=key bs 0 s
 simpa[enter]using this
def zgb (I J:Nat→Nat→Prop) (bls:List Nat):Gh where
 I:=I
 J:=J
 bl:=fun n=>if MB≤n then bls[n-MB]? else none
 av:=fun _ _=>none
 vc:=fun _=>0
 ad:=fun _=>False
 az:=fun _=>0
 ow:=fun b=>(bls.findIdx? (· == b)).map (fun j=>.box (MB+j))
theorem zoi {I J:Nat→Nat→Prop} {bls:List Nat} {j:Nat}:(zgb I J bls).bl (MB+j)=bls[j]?:=by
 unfold zgb;simp only
 generalize MB=M
 rw[if_pos (Nat.le_add_right _ _),Nat.add_sub_cancel_left]
theorem zacf {I J:Nat→Nat→Prop} {bls:List Nat} (hn:bls.Nodup) {j blk:Nat} (h:bls[j]?=some blk):(zgb I J bls).ow blk=some (.box (MB+j)):=by
 obtain ⟨hj,rfl⟩:=List.getElem?_eq_some_iff.1 h
 have:bls.findIdx? (· == bls[j])=some j:=by
  rw[List.findIdx?_eq_some_iff_getElem]
  refine ⟨hj,by simp,fun i hi=>?_⟩
  have hne:bls[i]≠bls[j]:=fun e=>by
   exact (List.pairwise_iff_getElem.1 hn) i j (by omega) hj hi e
  simpa using hne
 simp[zgb,this]
theorem Rel.enter {I J:Nat→Nat→Prop} {vs:Array Value} {ds:List (D κ El)} {bs:List (List (D κ El))} {bls:List Nat} {n:Nat} (hp:Pre S w I J bls) (hn:bls.Nodup) (hbl:bls.length=bs.length) (hvs:vs.size=ds.length)
 (ha:∀(i:Nat) v d,vs[i]?=some v→ds[i]?=some d→ArgM S w I J bls v d) (hb:∀(j:Nat) blk cs,bls[j]?=some blk→bs[j]?=some cs→BoxD S w I J blk cs) (hlt:∀b∈bls,b<w.heap.size) :
 Rel S ⟨w,bls,vs.size+(n-vs.size),I,J,[],none⟩ (Ev.enter ds bs) (zgb I J bls) {tmps:=vs++Array.replicate (n-vs.size) undef,defers:=[]} w where
 nt:=by simp
 df:=rfl
 env:=fun s d hs=>by
  rw[ze0]at hs
  have hlt:s<vs.size:=by rw[hvs];exact (List.getElem?_eq_some_iff.1 hs).1
  have e:(vs++Array.replicate (n-vs.size) undef).getD s undef=vs[s]:=by
   simp[Array.getD_eq_getD_getElem?,Array.getElem?_append,hlt]
  show VR S w _ ((vs++Array.replicate (n-vs.size) undef).getD s undef) d
  rw[e]
  rcases ha s vs[s] d (Array.getElem?_eq_getElem hlt) hs with ⟨j,blk,rfl,h1,h2⟩|h1
  ·rw[h2]
   exact .ptr _ _ _ (by rw[zoi];exact h1)
  ·exact .data h1
 bx:=fun b cs hs=>by
  rw[zfp]at hs
  split at hs
  ·rename_i hm
   have hlt:b-MB<bls.length:=by rw[hbl];exact (List.getElem?_eq_some_iff.1 hs).1
   have h1:bls[b-MB]?=some bls[b-MB]:=List.getElem?_eq_getElem hlt
   refine ⟨bls[b-MB],by simp only[zgb,if_pos hm];exact h1,?_,fun o hi=>?_,?_⟩
   ·rw[zacf hn h1,Nat.add_sub_cancel' hm]
   ·exact (hp.jb _ _ (hp.ij _ _ hi)).2 (List.getElem_mem hlt)
   ·obtain ⟨vals,t,k1,k2,k3⟩:=hb _ _ _ h1 hs
    exact ⟨vals,t,k1,k2,fun i v d e1 e2=>.data (k3 i v d e1 e2)⟩
  ·cases hs
 bd:=fun b blk hs=>by
  simp only[zgb]at hs
  split at hs
  ·rename_i hm
   have hlt:b-MB<bs.length:=by rw[←hbl];exact (List.getElem?_eq_some_iff.1 hs).1
   exact ⟨bs[b-MB],by rw[zfp,if_pos hm];exact List.getElem?_eq_getElem hlt⟩
  ·cases hs
 ar:=fun n A h=>by cases h
 ad:=fun n h=>by cases h
 ib:=hp.ib
 ol:=fun b x h=>by
  simp only[zgb,Option.map_eq_some_iff]at h
  obtain ⟨j,hj,-⟩:=h
  obtain ⟨h1,h2,-⟩:=List.findIdx?_eq_some_iff_getElem.1 hj
  have:bls[j]=b:=by simpa using h2
  rw[←this];exact hlt _ (List.getElem_mem h1)
 i0:=fun _ _ h=>h
 i1:=fun _ _ h=>.inl h
 ij:=hp.ij
 j0:=fun _ _ h=>h
 j1:=fun _ _ h=>.inr h
 jm:=fun b o h=>⟨(hp.jb b o h).1,(hp.jb b o h).2,by simp⟩
 old:=fun b _ hm _=>⟨rfl,by
  simp only[zgb,Option.map_eq_none_iff,List.findIdx?_eq_none_iff]
  intro x hx;simp;exact fun e=>hm (e▸hx)⟩
 mb:=fun j blk h=>by rw[zoi];exact h
 mo:=fun b h=>by cases h
 pa:=fun h=>absurd rfl h
 pn:=fun v h=>absurd rfl h
 sz:=Nat.le_refl _
 os:=rfl
 out:=rfl
 tape:=rfl
 gl:=hp.gl
def ze6 (I J:Nat→Nat→Prop) (sz:Nat) (v0:Value) (mo:List Nat):Gh where
 I:=I
 J:=J
 bl:=fun _=>none
 av:=fun n ver=>if n=MA then (if ver=0 then some v0 else none) else none
 vc:=fun _=>0
 ad:=fun n=>n=MA
 az:=fun _=>sz
 ow:=fun b=>if b∈mo then some (.arr MA) else none
theorem znr (kd:κ) (xs:List (El kd)) (ds:List (D κ El)) (s:Nat):zab s (enterA kd xs ds).env=(D.arr MA 0::ds)[s]?:=ze0 (D.arr MA 0::ds) [] s
theorem Rel.enterA {I J:Nat→Nat→Prop} {vs:Array Value} {kd:κ} {xs:List (El kd)} {ds:List (D κ El)} {base:Option Addr} {cap:Nat} {mo:List Nat} {n:Nat} (hp:Pre S w I J mo) (hcap:xs.length≤cap)
 (ho:(cap=0∧mo=[])∨∃blk vals t,mo=[blk]∧base=some ⟨blk,0,none⟩∧w.heap[blk]?=some (.cells vals t (0,0))∧vals.size=cap*S.sz kd∧
  ∀i (hi:i<xs.length) j d,(S.enc kd xs[i])[j]?=some d→∃v,vals[i*S.sz kd+j]?=some v∧DR S w I J v d) (ha:Args S w I J vs ds) :
 Rel S ⟨w,[],(#[Value.slice base xs.length cap]++vs).size+(n-(#[Value.slice base xs.length cap]++vs).size),I,J,mo,some (.slice base xs.length cap)⟩ (Ev.enterA kd xs ds) (ze6 I J (S.sz kd) (.slice base xs.length cap) mo)
  {tmps:=(#[Value.slice base xs.length cap]++vs)++Array.replicate (n-(#[Value.slice base xs.length cap]++vs).size) undef,defers:=[]} w where
 nt:=by simp only[Array.size_append,Array.size_replicate]
 df:=rfl
 env:=fun s d hs=>by
  rw[znr]at hs
  obtain ⟨us,hus⟩:∃us,us=(#[Value.slice base xs.length cap]++vs):=⟨_,rfl⟩
  have hlt:s<us.size:=by
   have:=(List.getElem?_eq_some_iff.1 hs).1
   rw[hus];simp only[List.length_cons]at this;have:=ha.1;simp;omega
  show VR S w _ (((#[Value.slice base xs.length cap]++vs)++Array.replicate (n-(#[Value.slice base xs.length cap]++vs).size) undef).getD s undef) d
  rw[←hus]
  have e:(us++Array.replicate (n-us.size) undef).getD s undef=us[s]:=by
   simp[Array.getD_eq_getD_getElem?,Array.getElem?_append,hlt]
  rw[e]
  have h1:us[s]?=some us[s]:=Array.getElem?_eq_getElem hlt
  cases s with
  |zero=>
   simp only[List.getElem?_cons_zero,Option.some.injEq]at hs
   subst hs
   have e0:us[0]?=some (.slice base xs.length cap):=by rw[hus,Array.getElem?_append_left (by simp)];rfl
   rw[h1]at e0
   rw[Option.some.inj e0]
   refine .slc base xs.length cap MA 0 rfl (Nat.le_refl _) (fun v' hv=>?_)
   replace hv:(if MA=MA then (if (0:Nat)=0 then some (Value.slice base xs.length cap) else none) else none)=some v':=hv
   rw[if_pos rfl,if_pos rfl]at hv
   exact Option.some.inj hv
  |succ s=>
   simp only[List.getElem?_cons_succ]at hs
   have e1:us[s+1]?=vs[s]?:=by rw[hus,Array.getElem?_append_right (by simp)];simp
   rw[h1]at e1
   exact .data (ha.2 s _ d e1.symm hs)
 bx:=fun b cs hs=>by cases hs
 bd:=fun b blk hs=>by cases hs
 ar:=fun m A h=>by
  replace h:zab m [(MA,(⟨kd,xs,0,false,false⟩:Ar κ El))]=some A:=h
  rw[zag]at h
  split at h
  ·rename_i e;subst e;cases h
   refine ⟨rfl,rfl,rfl,fun _=>⟨base,cap,by simp[ze6],hcap,?_⟩,fun ver v hv=>?_,fun _=>⟨rfl,rfl⟩,fun h=>(by cases h)⟩
   ·rcases ho with ⟨h0,-⟩|⟨blk,vals,t,hmo,hb,hh,hs,hel⟩
    ·exact .inl h0
    ·refine .inr ⟨blk,vals,t,hb,hh,hs,by simp[ze6,hmo],fun o hi=>?_,fun hf=>(by cases hf),hel⟩
     exact absurd (by rw[hmo];simp) (hp.jb blk o (hp.ij blk o hi)).2
   ·simp only[ze6,if_true]at hv
    split at hv
    ·rename_i e;exact ⟨e,.inl rfl⟩
    ·cases hv
  ·cases h
 ad:=fun m h=>by
  replace h:m=MA:=h
  exact ⟨⟨kd,xs,0,false,false⟩,by rw[h];show zab MA [(MA,_)]=_;rw[zag,if_pos rfl]⟩
 ib:=hp.ib
 ol:=fun b x h=>by
  simp only[ze6]at h
  split at h
  ·rename_i hm
   rcases ho with ⟨-,h0⟩|⟨blk,vals,t,hmo,hb,hh,hs,hel⟩
   ·rw[h0]at hm;cases hm
   ·rw[hmo]at hm
    simp only[List.mem_singleton]at hm
    subst hm
    exact (Array.getElem?_eq_some_iff.1 hh).1
  ·cases h
 i0:=fun _ _ h=>h
 i1:=fun _ _ h=>.inl h
 ij:=hp.ij
 j0:=fun _ _ h=>h
 j1:=fun _ _ h=>.inr h
 jm:=fun b o h=>⟨(hp.jb b o h).1,by simp,(hp.jb b o h).2⟩
 old:=fun b _ _ hm=>⟨rfl,by simp only[ze6];rw[if_neg hm]⟩
 mb:=fun j blk h=>by simp at h
 mo:=fun b hb=>by simp only[ze6];rw[if_pos hb]
 pa:=fun _=>rfl
 pn:=fun v _ hv=>by simpa[ze6]using hv
 sz:=Nat.le_refl _
 os:=rfl
 out:=rfl
 tape:=rfl
 gl:=hp.gl
end
end Go.Proofs.YtpaidiaknfhclaaGreatDoor.Ev
namespace Go.Proofs.YtpaidiaknfhclaaGreatDoor.Ev
open Go
section
variable {κ:Type} {El:κ→Type} {S:Sg κ El} {P:Program}
variable [KdEq κ]
def zae (P:Program) (S:Sg κ El) (m:Nat) (fn:Func) (loops:{R:Type}→Nat→St κ El→(Ex→St κ El→Option R)→Option R) (id:Nat):Prop:=
 ∀nt,fn.ntmps≤nt→zss P S nt m fn @loops id
theorem Rel.final {c:Cx} {st:St κ El} {g:Gh} {a:Act} {w:World} (hr:Rel S c st g a w) (hmo:c.mo=[]):GrowM c.mb c.w0 w c.I0 (fun b o=>g.I b o∨LB g b o) where
 size:=hr.sz
 os:=hr.os
 out:=hr.out
 tape:=hr.tape
 keep:=fun b hb hm=>(hr.old b hb hm (by rw[hmo];simp)).1
 hI:=fun b o hi=>.inl (hr.i0 b o hi)
 new:=fun b o hi=>by
  rcases hi with hi|⟨n,hn,hb⟩
  ·exact hr.i1 b o hi
  ·rcases Nat.lt_or_ge b c.w0.heap.size with hlt|hge
   ·exfalso
    have how:=hr.bx_ow hb
    by_cases hm:b∈c.mb
    ·obtain ⟨j,hj⟩:=List.getElem?_of_mem hm
     have h2:=hr.bx_ow (hr.mb j b hj)
     rw[how]at h2
     cases h2
     exact absurd hn (by omega)
    ·rw[(hr.old b hlt hm (by rw[hmo];simp)).2]at how;cases how
   ·exact .inr hge
 ib:=fun b o hi=>by
  rcases hi with hi|⟨n,hn,hb⟩
  ·exact hr.ib b o hi
  ·exact hr.bx_lt hb
theorem DR.fin {w:World} {g:Gh} {v:Value} {d:D κ El} (h:DR S w g.I (LB g) v d):DR S w (fun b o=>g.I b o∨LB g b o) (fun b o=>g.I b o∨LB g b o) v d:=
 h.mono (fun b o hi=>⟨rfl,.inl hi⟩) (fun b o hj=>⟨rfl,.inr hj⟩)
theorem ztb {f:Nat} {fn:Func} {code:Code} {loops:{R:Type}→Nat→St κ El→(Ex→St κ El→Option R)→Option R} (G:GoodP P S) (hmix:P.follows .mixedOrders=true) (fok:FnOk P f fn code)
 {R:Type} {r:R} {call:Nat→List (D κ El)→List (List (D κ El))→(D κ El→List (List (D κ El))→Option R)→Option R} (cn:za2 call) (cok:zbi P S call)
 {st0:St κ El} {m:Nat} (hl:∀b∈zaj code,zbp fn (zap b)=b∧zae P S m fn @loops (zap b))
 {fin:St κ El→Option R} (h:evc P S call (loops (R:=R)) code st0 (fun e st=>match e with | .exit _=>none | .normal=>fin st | .ret=>fin st)=some r)
 {c:Cx} {g:Gh} {w:World} {vs:Array Value} (hr:Rel S c st0 g {tmps:=vs++Array.replicate (fn.ntmps-vs.size) undef,defers:=[]} w) (hnt:c.nt=vs.size+(fn.ntmps-vs.size)) (hm:c.ar=m)
 {Qv:Value→World→Prop} (hfin:∀st,fin st=some r→∀g a w,Rel S c st g a w→∃v,(results fn a.tmps).run P w=.ok v w∧Qv v w):zcg P f vs w Qv:=by
 have hle:fn.ntmps≤vs.size+(fn.ntmps-vs.size):=by omega
 obtain ⟨e,st',hk,hev⟩:=zaeo (nt:=vs.size+(fn.ntmps-vs.size)) G hmix cn cok (fok.dst.mono hle) (fun b hb=>⟨(hl b hb).1,(hl b hb).2 _ hle⟩) h
 unfold zcg
 rw[MuLone.run_callFunc_enter fok.at_ fok.name fok.body vs w]
 simp only
 refine calls_of_wp fok.at_ fok.body (hev hr hnt hm (fun g' a' w' hr'=>?_))
 have post:fin st'=some r→a'.defers=[]∧∃v,(results fn a'.tmps).run P w'=.ok v w'∧Qv v w':=
  fun hf=>⟨hr'.df,hfin st' hf g' a' w' hr'⟩
 cases e with
 |normal=>exact post hk
 |ret=>exact post hk
 |exit i=>cases hk
theorem zma {f:Nat} {fn:Func} {code:Code} {loops:{R:Type}→Nat→St κ El→(Ex→St κ El→Option R)→Option R} (G:GoodP P S) (hmix:P.follows .mixedOrders=true) (fok:FnOk P f fn code)
 {R:Type} {r:R} {call:Nat→List (D κ El)→List (List (D κ El))→(D κ El→List (List (D κ El))→Option R)→Option R} (cn:za2 call) (cok:zbi P S call)
 {ds:List (D κ El)} {bs:List (List (D κ El))} (hl:∀b∈zaj code,zbp fn (zap b)=b∧zae P S bs.length fn @loops (zap b))
 {fin:St κ El→Option R} (h:evc P S call (loops (R:=R)) code (enter ds bs) (fun e st=>match e with | .exit _=>none | .normal=>fin st | .ret=>fin st)=some r)
 {Qc:Cx→Value→World→Prop} (hfin:∀st,fin st=some r→∀(c:Cx) g a w,Rel S c st g a w→c.mb.length=bs.length→c.mo=[]→∃v,(results fn a.tmps).run P w=.ok v w∧Qc c v w) (hlt1:bs.length<MA)
 {w:World} {I J:Nat→Nat→Prop} {vs:Array Value} {bls:List Nat} (hp:Pre S w I J bls) (hn:bls.Nodup) (hbl:bls.length=bs.length) (hvs:vs.size=ds.length)
 (ha:∀(i:Nat) v d,vs[i]?=some v→ds[i]?=some d→ArgM S w I J bls v d) (hb:∀(j:Nat) blk cs,bls[j]?=some blk→bs[j]?=some cs→BoxD S w I J blk cs) :
 zcg P f vs w fun v w'=>Qc ⟨w,bls,vs.size+(fn.ntmps-vs.size),I,J,[],none⟩ v w':=by
 have hlt:∀b∈bls,b<w.heap.size:=by
  intro b hm
  obtain ⟨j,hj⟩:=List.getElem?_of_mem hm
  have hj2:j<bs.length:=by rw[←hbl];exact (List.getElem?_eq_some_iff.1 hj).1
  obtain ⟨vals,t,h1,-⟩:=hb j b _ hj (List.getElem?_eq_getElem hj2)
  exact (Array.getElem?_eq_some_iff.1 h1).1
 have hr:=Rel.enter (n:=fn.ntmps) hp hn hbl hvs ha hb hlt
 refine ztb G hmix fok cn cok hl h hr rfl ?_ (fun st hf g a w hr=>hfin st hf _ g a w hr hbl rfl)
 show (if (none:Option Value).isSome then _ else if bls.length<MA then bls.length else MA+2)=bs.length
 simp only[Option.isSome_none,Bool.false_eq_true,if_false]
 rw[if_pos (by rw[hbl];exact hlt1),hbl]
def outD:List (D κ El)→D κ El
 | [d]=>d
 |ds=>.tup ds
theorem zan9 {w:World} {I J:Nat→Nat→Prop} {vs:List Value} {ds:List (D κ El)} (hl:vs.length=ds.length) (h:∀(i:Nat) v d,vs[i]?=some v→ds[i]?=some d→DR S w I J v d):DR S w I J (outV vs) (outD ds):=by
 match vs,ds,hl with
 | [v],[d],_=>exact h 0 v d rfl rfl
 | [],[],_=>exact .tup #[] [] rfl (fun i v d h1=>by simp at h1)
 |v::u::vs,d::e::ds,hl=>exact .tup _ _ (by simp at hl ⊢;exact hl) (fun i v' d' h1 h2=>h i v' d' (by simpa using h1) h2)
theorem zamn {fn:Func} {m:Nat} {st:St κ El} {R:Type} {k:D κ El→List (List (D κ El))→Option R} {r:R} (h:finK P S fn m st k=some r) :
 ∃st1 ds bs,zqc P S st fn.results.toList=some (st1,ds)∧znx st1 m 0=some bs∧k (outD ds) bs=some r:=by
 unfold finK at h
 split at h
 ·rename_i st1 ds h1
  split at h
  ·rename_i bs h2
   refine ⟨st1,ds,bs,h1,h2,?_⟩
   split at h
   ·exact h
   ·rename_i hne
    have:outD ds=.tup ds:=by
     match ds,hne with
     | [],_=>rfl
     | [d],hne=>exact absurd rfl (hne d)
     |_::_::_,_=>rfl
    rw[this];exact h
  ·cases h
 ·cases h
theorem z1x (ok:PrOk P) (sgk:SgOk S) {fn:Func} {m:Nat} {st:St κ El} {R:Type} {k:D κ El→List (List (D κ El))→Option R} {r:R} (h:finK P S fn m st k=some r) {c:Cx} {g:Gh} {a:Act} {w:World}
 (hr:Rel S c st g a w) (hm:c.mb.length=m) (hmo:c.mo=[]) :
 ∃d bs v I',k d bs=some r∧(results fn a.tmps).run P w=.ok v w∧GrowM c.mb c.w0 w c.I0 I'∧DR S w I' I' v d∧bs.length=m∧∀(j:Nat) blk cs,c.mb[j]?=some blk→bs[j]?=some cs→BoxD S w I' I' blk cs:=by
 obtain ⟨st1,ds,bs,h1,h2,h3⟩:=zamn h
 obtain ⟨g1,vs,r1,l1,b1,e1,x1,hrun,hlen,hall⟩:=z4w ok sgk h1 hr
 obtain ⟨g2,st2,r2,l2,b2,hbl,hbox⟩:=zzj sgk h2 r1
 refine ⟨outD ds,bs,outV vs,_,h3,zfx hrun,r2.final hmo,(LB.mono b2 l2 (zan9 hlen hall)).fin,hbl,fun j blk cs hj hcs=>?_⟩
 obtain ⟨blk',f1,vals,t,f2,f3,f4⟩:=hbox j cs hcs
 have:=r1.mb j blk hj
 rw[Nat.zero_add,this]at f1
 cases f1
 exact ⟨vals,t,f2,f3,fun i v d k1 k2=>(f4 i v d k1 k2).fin⟩
variable {f:Nat} {fn:Func} {code:Code} {α β ρ:Type}
theorem Wd.argM {w:World} {I J:Nat→Nat→Prop} {bls:List Nat} {v:Value} {d d':D κ El} (hw:Wd d d') (h:ArgM S w I J bls v d):ArgM S w I J bls v d':=by
 rcases h with ⟨j,blk,rfl,h1,h2⟩|h
 ·cases hw with
  |leaf _ _ h=>cases h with|same=>exact .inl ⟨j,blk,rfl,h1,h2⟩
 ·exact .inr (hw.dr h)
theorem zaiv {loops:{R:Type}→Nat→St κ El→(Ex→St κ El→Option R)→Option R} {call:{R:Type}→Nat→List (D κ El)→List (List (D κ El))→(D κ El→List (List (D κ El))→Option R)→Option R}
 (G:GoodP P S) (hmix:P.follows .mixedOrders=true) (fok:FnOk P f fn code) (cn:∀{R:Type},za2 (R:=R) call) (cok:∀{R:Type},zbi (R:=R) P S call)
 {ac:CC κ El α} {bc:BC κ El β} {rc:Cod κ El ρ} {F:α→β→Option (ρ×β)} (hac:CCOk ac) (hbc:BCOk bc) (hrc:zai rc) {m:Nat} (hm:∀b,(bc.enc b).length=m) (hmlt:m<MA) (hmd:S.md f=.mut)
 (hl:∀b∈zaj code,zbp fn (zap b)=b∧zae P S m fn @loops (zap b))
 (e:∀a b,runF P S call (loops (R:=ρ×β)) fn (ac.enc a) (bc.enc b) (retM rc bc)=F a b) :
 ∀ds bs a b r b',ac.dec ds=some a→bc.dec bs=some b→F a b=some (r,b')→Con P S f ds bs (rc.enc r) (bc.enc b'):=by
 intro ds bs a b r b' hds hbs hF
 unfold Con
 rw[hmd]
 intro w I J vs bls hp hn hbl hvs ha hb
 rw[←e a b]at hF
 unfold runF at hF
 simp only[fok.body]at hF
 have hw:=hac _ _ hds
 have hwb:=hbc _ _ hbs
 have key:=zma (Qc:=fun c v w'=>∃I',GrowM c.mb c.w0 w' c.I0 I'∧DR S w' I' I' v (rc.enc r)∧(bc.enc b').length=(bc.enc b).length∧∀(j:Nat) blk cs,c.mb[j]?=some blk→(bc.enc b')[j]?=some cs→BoxD S w' I' I' blk cs)
  G hmix fok cn cok (ds:=ac.enc a) (bs:=bc.enc b) (by rw[hm];exact hl) hF (fun st hf c g a w hr hmb hmo=>?_) (by rw[hm];exact hmlt) hp hn (hbl.trans hwb.1) (hvs.trans hw.1) (fun i v d h1 h2=>?_) (fun j blk cs h1 h2=>?_)
 ·refine key.mono (fun v w' hq=>?_)
  obtain ⟨I',h1,h2,h3,h4⟩:=hq
  exact ⟨I',h1,h2,by rw[h3,hwb.1],h4⟩
 ·obtain ⟨d,bs2,v,I',h1,h2,h3,h4,h5,h6⟩:=z1x G.ok G.sgk hf hr hmb hmo
  refine ⟨v,h2,I',h3,?_⟩
  unfold retM at h1
  split at h1
  ·rename_i r' hr'
   split at h1
   ·rename_i b2 hb2
    cases h1
    have hwr:=hrc _ _ hr'
    have hwb2:=hbc _ _ hb2
    refine ⟨hwr.dr h4,by rw[hm,hm],fun j blk cs k1 k2=>?_⟩
    have hj:j<bs2.length:=by rw[hwb2.1];exact (List.getElem?_eq_some_iff.1 k2).1
    exact (hwb2.2 j _ cs (List.getElem?_eq_getElem hj) k2).boxD (h6 j blk _ k1 (List.getElem?_eq_getElem hj))
   ·cases h1
  ·cases h1
 ·obtain ⟨d0,h3,h4⟩:=hw.get h2
  exact h4.argM (ha i v d0 h1 h3)
 ·have hj:j<bs.length:=by rw[hwb.1];exact (List.getElem?_eq_some_iff.1 h2).1
  exact (hwb.2 j _ cs (List.getElem?_eq_getElem hj) h2).boxD (hb j blk _ h1 (List.getElem?_eq_getElem hj))
theorem z9v {loops:{R:Type}→Nat→St κ El→(Ex→St κ El→Option R)→Option R} {call:{R:Type}→Nat→List (D κ El)→List (List (D κ El))→(D κ El→List (List (D κ El))→Option R)→Option R}
 (G:GoodP P S) (hmix:P.follows .mixedOrders=true) (fok:FnOk P f fn code) (cn:∀{R:Type},za2 (R:=R) call) (cok:∀{R:Type},zbi (R:=R) P S call)
 {ac:CC κ El α} {rc:Cod κ El ρ} {F:α→Option ρ} (hac:CCOk ac) (hrc:zai rc) (hmd:S.md f=.data)
 (hl:∀b∈zaj code,zbp fn (zap b)=b∧zae P S 0 fn @loops (zap b))
 (e:∀a,runF P S call (loops (R:=ρ)) fn (ac.enc a) [] (retP rc)=F a) :
 ∀ds a r,ac.dec ds=some a→F a=some r→Con P S f ds [] (rc.enc r) []:=by
 intro ds a r hds hF
 unfold Con
 rw[hmd]
 intro _ w I J vs hp ha
 rw[←e a]at hF
 unfold runF at hF
 simp only[fok.body]at hF
 have hw:=hac _ _ hds
 have key:=zma (Qc:=fun c v w'=>∃I',GrowM c.mb c.w0 w' c.I0 I'∧DR S w' I' I' v (rc.enc r)) G hmix fok cn cok (ds:=ac.enc a) (bs:=[]) (bls:=[]) hl hF (fun st hf c g a w hr hmb hmo=>?_) (by show 0<MA;decide) hp List.nodup_nil rfl (ha.1.trans hw.1)
  (fun i v d h1 h2=>?_) (fun j blk cs h1 h2=>by simp at h1)
 ·refine key.mono (fun v w' hq=>?_)
  obtain ⟨I',h1,h2⟩:=hq
  exact ⟨I',h1.grow,h2⟩
 ·obtain ⟨d,bs2,v,I',h1,h2,h3,h4,h5,h6⟩:=z1x G.ok G.sgk hf hr hmb hmo
  refine ⟨v,h2,I',h3,?_⟩
  unfold retP at h1
  split at h1
  ·exact (hrc _ _ h1).dr h4
  ·cases h1
 ·obtain ⟨d0,h3,h4⟩:=hw.get h2
  exact .inr (h4.dr (ha.2 i v d0 h1 h3))
theorem Rel.ow_new0 {c:Cx} {st:St κ El} {g:Gh} {a:Act} {w:World} (hr:Rel S c st g a w) (hnil:c.mb=[]) (hmo:c.mo=[]) {blk n:Nat} (ho:g.ow blk=some (.arr n)):c.w0.heap.size≤blk:=by
 rcases Nat.lt_or_ge blk c.w0.heap.size with hlt|hge
 ·have:=(hr.old blk hlt (by rw[hnil];simp) (by rw[hmo];simp)).2
  rw[ho]at this;cases this
 ·exact hge
theorem znd {tmps:Array Value} {t:Nat} {fn:Func} (h:fn.results.toList=[.tmp t]) {a:Act} {w:World}:(results fn a.tmps).run P w=.ok (a.tmps.getD t undef) w:=by
 have:=zfx (fn:=fn) (a:=a) (P:=P) (w:=w) (vs:=[a.tmps.getD t undef]) (by rw[h];rfl)
 exact this
theorem zri (sgk:SgOk S) {fn:Func} {st:St κ El} {R:Type} {k:D κ El→List (List (D κ El))→Option R} {r:R} (h:zhp P S fn st k=some r) {c:Cx} {g:Gh} {a:Act} {w:World} (hr:Rel S c st g a w) (hmb:c.mb.length=0) (hmo:c.mo=[]) :
 ∃kd xs v I',k (.lst kd xs) []=some r∧(results fn a.tmps).run P w=.ok v w∧Grow c.w0 w c.I0 I'∧NewA S w I' c.w0.heap.size kd xs v:=by
 have hnil:c.mb=[]:=List.eq_nil_of_length_eq_zero hmb
 have hg:Grow c.w0 w c.I0 g.I:=⟨hr.sz,hr.os,hr.out,hr.tape,fun b hb=>(hr.old b hb (by rw[hnil];simp) (by rw[hmo];simp)).1,hr.i0,hr.i1,hr.ib⟩
 unfold zhp at h
 split at h
 ·rename_i t ht
  have hv:=hr.opd (.tmp t)
  split at h
  ·rename_i n ver hopd
   rw[hopd]at hv
   split at h
   ·rename_i A hA
    rw[zad]at h
    split at h
    ·rename_i hc
     rw[Bool.and_eq_true,Bool.not_eq_true']at hc
     obtain ⟨h1,h2⟩:=zb4 hc.1
     obtain ⟨-,ha1,ha2,ha3⟩:=hv.arr_inv
     obtain ⟨base,cap',f1,f2,f3⟩:=(hr.ar n A hA).live h2
     have e2:a.tmps.getD t undef=.slice base A.xs.length cap':=by
      refine ha3 _ ?_
      rw[←h1];exact f1
     refine ⟨A.k,A.xs,_,g.I,h,znd (tmps:=a.tmps) ht,hg,?_⟩
     rw[e2]
     refine ⟨base,cap',rfl,f2,f3.imp id ?_⟩
     rintro ⟨blk,vals,ty,q1,q2,q3,q4,q5,q6,q7⟩
     refine ⟨blk,vals,ty,q1,q2,q3,hr.ow_new0 hnil hmo q4,fun o hi=>?_,fun i hi j d hj=>?_⟩
     ·have:=(q5 o hi).1;rw[hc.2]at this;cases this
     ·obtain ⟨u,a1,a2⟩:=q7 i hi j d hj
      exact ⟨u,a1,a2.relendL sgk (zcr (sgk.plain _ _ _ (List.mem_of_getElem? hj)))⟩
    ·cases h
   ·cases h
  ·rename_i hopd
   rw[hopd]at hv
   split at h
   ·rename_i u hu
    split at h
    ·rename_i e he
     split at h
     ·rename_i kd hkd
      refine ⟨kd,[],_,g.I,h,znd (tmps:=a.tmps) ht,hg,?_⟩
      have:=hv.nil_inv
      have e2:a.tmps.getD t undef=.slice none 0 0:=this
      rw[e2]
      exact ⟨none,0,rfl,Nat.le_refl _,.inl rfl⟩
     ·cases h
    ·cases h
   ·cases h
  ·cases h
 ·cases h
theorem zko {loops:{R:Type}→Nat→St κ El→(Ex→St κ El→Option R)→Option R} {call:{R:Type}→Nat→List (D κ El)→List (List (D κ El))→(D κ El→List (List (D κ El))→Option R)→Option R}
 (G:GoodP P S) (hmix:P.follows .mixedOrders=true) (fok:FnOk P f fn code) (cn:∀{R:Type},za2 (R:=R) call) (cok:∀{R:Type},zbi (R:=R) P S call)
 {kr:κ} (hmd:S.md f=.fresh)
 (hl:∀b∈zaj code,zbp fn (zap b)=b∧zae P S 0 fn @loops (zap b))
 {ds ds0:List (D κ El)} {ys:List (El kr)} (hw:WL ds ds0) (hF:zdf P S call (loops (R:=List (El kr))) fn ds0 (retP (Cod.lst kr))=some ys):Con P S f ds [] (.lst kr ys) []:=by
 unfold Con
 rw[hmd]
 intro _ k' xs' he w I J vs hp ha
 cases he
 unfold zdf at hF
 simp only[fok.body]at hF
 have key:=zma (Qc:=fun c v w'=>∃I',Grow c.w0 w' c.I0 I'∧NewA S w' I' c.w0.heap.size kr ys v) G hmix fok cn cok (ds:=ds0) (bs:=[]) (bls:=[]) hl hF (fun st hf c g a w hr hmb hmo=>?_) (by show 0<MA;decide) hp List.nodup_nil rfl (ha.1.trans hw.1)
  (fun i v d h1 h2=>?_) (fun j blk cs h1 h2=>by simp at h1)
 ·exact key
 ·obtain ⟨kd,xs,v,I',h1,h2,h3,h4⟩:=zri G.sgk hf hr hmb hmo
  refine ⟨v,h2,I',h3,?_⟩
  unfold retP at h1
  simp only[Cod.lst]at h1
  obtain ⟨e,he⟩:=zcd h1
  subst e;cases he
  exact h4
 ·obtain ⟨d0,h3,h4⟩:=hw.get h2
  exact .inr (h4.dr (ha.2 i v d0 h1 h3))
theorem zz0 {loops:{R:Type}→Nat→St κ El→(Ex→St κ El→Option R)→Option R} {call:{R:Type}→Nat→List (D κ El)→List (List (D κ El))→(D κ El→List (List (D κ El))→Option R)→Option R}
 (G:GoodP P S) (hmix:P.follows .mixedOrders=true) (fok:FnOk P f fn code) (cn:∀{R:Type},za2 (R:=R) call) (cok:∀{R:Type},zbi (R:=R) P S call)
 {ac:CC κ El α} {kr:κ} {F:α→Option (List (El kr))} (hac:CCOk ac) (hmd:S.md f=.fresh)
 (hl:∀b∈zaj code,zbp fn (zap b)=b∧zae P S 0 fn @loops (zap b))
 (e:∀a,zdf P S call (loops (R:=List (El kr))) fn (ac.enc a) (retP (Cod.lst kr))=F a) :
 ∀ds a r,ac.dec ds=some a→F a=some r→Con P S f ds [] ((Cod.lst kr).enc r) []:=by
 intro ds a r hds hF
 exact zko G hmix fok cn cok hmd hl (hac _ _ hds) (by rw[e];exact hF)
theorem z9w {loops:{R:Type}→Nat→St κ El→(Ex→St κ El→Option R)→Option R} {call:{R:Type}→Nat→List (D κ El)→List (List (D κ El))→(D κ El→List (List (D κ El))→Option R)→Option R}
 (G:GoodP P S) (hmix:P.follows .mixedOrders=true) (fok:FnOk P f fn code) (cn:∀{R:Type},za2 (R:=R) call) (cok:∀{R:Type},zbi (R:=R) P S call)
 {ac:CC κ El α} {kr:κ} {F:List (El kr)×α→Option (List (El kr))} (hac:CCOk ac) (hmd:S.md f=.inpl)
 (hl:∀b∈zaj code,zbp fn (zap b)=b∧zae P S MA fn @loops (zap b))
 (e:∀a,zse P S call (loops (R:=List (El kr))) fn kr a.1 (ac.enc a.2) (retP (Cod.lst kr))=F a) :
 ∀ds a r,(CC.cons (Cod.lst kr) ac).dec ds=some a→F a=some r→Con P S f ds [] ((Cod.lst kr).enc r) []:=by
 intro ds a r hds hF
 obtain ⟨ys,a⟩:=a
 unfold Con
 rw[hmd]
 intro _ k xs ds0 hd xs' hxs w I J mb v0 vs hp hown ha
 subst hd
 unfold CC.cons at hds
 simp only at hds
 split at hds
 ·rename_i x hx
  split at hds
  ·rename_i b hb
   cases hds
   obtain ⟨ek,hx2⟩:=zcd hx
   subst ek
   cases hx2
   cases hxs
   replace hF:F (xs,a)=some xs':=hF
   rw[←e (xs,a)]at hF
   unfold zse at hF
   simp only[fok.body]at hF
   have hw:=hac _ _ hb
   have ha2:Args S w I J vs (ac.enc a):=⟨ha.1.trans hw.1,fun i v d h1 h2=>by
    obtain ⟨d0,h3,h4⟩:=hw.get h2
    exact h4.dr (ha.2 i v d0 h1 h3)⟩
   obtain ⟨base,cap,rfl,hcap,ho⟩:=hown
   obtain ⟨mo,hmo,hsub,hcase⟩:∃mo:List Nat,((cap=0∧mo=[])∨∃blk vals t,mo=[blk]∧base=some ⟨blk,0,none⟩∧w.heap[blk]?=some (.cells vals t (0,0))∧vals.size=cap*S.sz k∧
    ∀i (hi:i<xs.length) j d,(S.enc k xs[i])[j]?=some d→∃v,vals[i*S.sz k+j]?=some v∧DR S w I J v d)∧(∀b∈mo,b∈mb)∧(cap=0→mo=[]):=by
    by_cases h0:cap=0
    ·exact ⟨[],.inl ⟨h0,rfl⟩,fun b h=>(by cases h),fun _=>rfl⟩
    ·exact ⟨mb,ho.imp (fun h=>absurd h.1 h0) id,fun b h=>h,fun h=>absurd h h0⟩
   have hp':Pre S w I J mo:=⟨hp.gl,hp.ib,hp.ij,fun b o hj=>⟨(hp.jb b o hj).1,fun hm=>(hp.jb b o hj).2 (hsub b hm)⟩⟩
   refine ztb G hmix fok cn cok hl hF (Rel.enterA (n:=fn.ntmps) hp' hcap hmo ha2) rfl (by rfl) (fun st hf g a' w' hr=>?_)
   unfold zrj at hf
   split at hf
   rotate_left
   ·cases hf
   rename_i hres
   split at hf
   rotate_left
   ·cases hf
   rename_i A hA
   rw[zad]at hf
   split at hf
   ·cases hf
   rename_i hdead
   have hdead:A.dead=false:=by simpa using hdead
   unfold retP at hf
   simp only[Cod.lst]at hf
   obtain ⟨ek,hx4⟩:=zcd hf
   have hrun:(results fn a'.tmps).run P w'=.ok (.tuple #[]) w':=zfx (fn:=fn) (a:=a') (P:=P) (w:=w') (vs:=[]) (by rw[hres];rfl)
   refine ⟨_,hrun,rfl,?_⟩
   have hrA:=hr.ar MA A hA
   obtain ⟨hv0,hs0⟩:=hrA.own rfl
   obtain ⟨base',cap',hav,hcap',hz⟩:=hrA.live hdead
   rw[hv0]at hav
   have hpn:=hr.pn _ (by simp) hav
   replace hpn:some (Value.slice base xs.length cap)=some (Value.slice base' A.xs.length cap'):=hpn
   obtain ⟨Ak,Axs,Av,As,Ad⟩:=A
   simp only at ek hx4 hdead hv0 hs0 hcap' hz hpn
   subst ek
   have hx5:Axs=xs':=hx4
   subst hx5
   injection hpn with hpn
   injection hpn with e1 e2 e3
   subst e1 e3
   refine ⟨e2.symm,g.I,⟨hr.sz,hr.os,hr.out,hr.tape,fun b hb hm=>(hr.old b hb (by simp) (fun h=>hm (hsub b h))).1,hr.i0,hr.i1,hr.ib⟩,base,cap,by rw[e2],hcap',?_⟩
   by_cases h0:cap=0
   ·refine ho.imp id ?_
    rintro ⟨blk,vals,t,q1,q2,q3,q4,q5⟩
    have hlen:Axs.length=0:=by omega
    have hmo0:mo=[]:=hcase h0
    refine ⟨blk,vals,t,q1,q2,?_,q4,fun i hi=>absurd hi (by omega)⟩
    rw[←q3]
    exact (hr.old blk (Array.getElem?_eq_some_iff.1 q3).1 (by simp) (by show blk∉mo;rw[hmo0];simp)).1
   ·refine .inr ?_
    rcases hz with hz|⟨blk,vals,t,q1,q2,q3,q4,q5,q6,q7⟩
    ·exact absurd hz h0
    ·rcases ho with ⟨h,-⟩|⟨blk0,vals0,t0,p1,p2,-⟩
     ·exact absurd h h0
     ·rw[q1]at p2
      injection p2 with p2
      injection p2 with p2
      refine ⟨blk,vals,t,by rw[p1,p2],q1,q2,q3,fun i hi j d hj=>?_⟩
      obtain ⟨u,a1,a2⟩:=q7 i hi j d hj
      exact ⟨u,a1,a2.relendL G.sgk (zcr (G.sgk.plain _ _ _ (List.mem_of_getElem? hj)))⟩
  ·cases hds
 ·cases hds
theorem z9x {loops:{R:Type}→Nat→St κ El→(Ex→St κ El→Option R)→Option R} {call:{R:Type}→Nat→List (D κ El)→List (List (D κ El))→(D κ El→List (List (D κ El))→Option R)→Option R}
 (G:GoodP P S) (hmix:P.follows .mixedOrders=true) (fok:FnOk P f fn code) (cn:∀{R:Type},za2 (R:=R) call) (cok:∀{R:Type},zbi (R:=R) P S call)
 {ac:CC κ El α} {cc:CC κ El ρ} {F:α→Option ρ} (hac:CCOk ac) (hcc:CCOk cc) (hmd:S.md f=.newb)
 (hl:∀b∈zaj code,zbp fn (zap b)=b∧zae P S 0 fn @loops (zap b))
 (e:∀a,zsf P S call (loops (R:=ρ)) fn (ac.enc a) (retN cc)=F a) :
 ∀ds a r,ac.dec ds=some a→F a=some r→Con P S f ds [] (.tup []) [cc.enc r]:=by
 intro ds a r hds hF
 unfold Con
 rw[hmd]
 intro cs hcs w I J vs hp ha
 cases hcs
 rw[←e a]at hF
 unfold zsf at hF
 simp only[fok.body]at hF
 have hw:=hac _ _ hds
 have key:=zma (Qc:=fun c v w'=>∃I' blk,Grow c.w0 w' c.I0 I'∧v=.pointer (some ⟨blk,0,none⟩)∧c.w0.heap.size≤blk∧(∀o,¬I' blk o)∧BoxD S w' I' I' blk (cc.enc r)) G hmix fok cn cok (ds:=ac.enc a) (bs:=[]) (bls:=[]) hl hF
  (fun st hf c g a w hr hmb hmo=>?_) (by show 0<MA;decide) hp List.nodup_nil rfl (ha.1.trans hw.1) (fun i v d h1 h2=>?_) (fun j blk cs h1 h2=>by simp at h1)
 ·exact key
 ·have hnil:c.mb=[]:=List.eq_nil_of_length_eq_zero hmb
  unfold zrk at hf
  split at hf
  ·rename_i t ht
   have hv:=hr.opd (.tmp t)
   split at hf
   ·rename_i b hopd
    rw[hopd]at hv
    rw[zad]at hf
    split at hf
    ·cases hf
    ·split at hf
     ·rename_i cs hb
      split at hf
      ·rename_i st1 cs1 hdat
       obtain ⟨g1,r1,l1,b1,e1,x1,n1,v1⟩:=zbb G.sgk hdat hr
       obtain ⟨blk,hve,hbl⟩:=hv.ptr_inv
       obtain ⟨blk',q1,q2,q3,vals,ty,q4,q5,q6⟩:=hr.bx b cs hb
       rw[hbl]at q1;cases q1
       have hlo:c.w0.heap.size≤blk:=by
        rcases Nat.lt_or_ge blk c.w0.heap.size with hlt|hge
        ·have:=(hr.old blk hlt (by rw[hnil];simp) (by rw[hmo];simp)).2
         rw[q2]at this;cases this
        ·exact hge
       have hg:Grow c.w0 w c.I0 g1.I:=⟨r1.sz,r1.os,r1.out,r1.tape,fun b hb=>(r1.old b hb (by rw[hnil];simp) (by rw[hmo];simp)).1,r1.i0,r1.i1,r1.ib⟩
       refine ⟨_,znd (tmps:=a.tmps) ht,g1.I,blk,hg,hve,hlo,?_,?_⟩
       ·obtain ⟨blk2,p1,p2,p3,p4⟩:=r1.bx b cs (by rw[x1];exact hb)
        rw[b1,hbl]at p1;cases p1
        exact p3
       ·replace hf:cc.dec cs1=some r:=hf
        refine (hcc _ _ hf).boxD ⟨vals,ty,q4,by rw[q5,n1],fun i v d k1 k2=>?_⟩
        have hi:i<cs.length:=by rw[←n1];exact (List.getElem?_eq_some_iff.1 k2).1
        obtain ⟨d2,h3,h4⟩:=v1 i _ (List.getElem?_eq_getElem hi)
        rw[k2]at h3;cases h3
        exact (h4 v (q6 i v _ k1 (List.getElem?_eq_getElem hi))).relendL G.sgk (zdu hdat d (List.mem_of_getElem? k2))
      ·cases hf
     ·cases hf
   ·cases hf
  ·cases hf
 ·obtain ⟨d0,h3,h4⟩:=hw.get h2
  exact .inr (h4.dr (ha.2 i v d0 h1 h3))
end
end Go.Proofs.YtpaidiaknfhclaaGreatDoor.Ev
namespace Go.Proofs.YtpaidiaknfhclaaGreatDoor.Ev
open Go
section
variable {κ:Type} {El:κ→Type} {S:Sg κ El} {P:Program}
variable {R:Type} {f:Nat} {α β ρ:Type}
abbrev SemT (κ:Type) (El:κ→Type) (R:Type):=List (D κ El)→List (List (D κ El))→(D κ El→List (List (D κ El))→Option R)→Option R
def zl2 (P:Program) (S:Sg κ El) (f:Nat) (sem:SemT κ El R):Prop:=∀ds bs k r,sem ds bs k=some r→∃d bs',k d bs'=some r∧Con P S f ds bs d bs'
def zf1 (sem:SemT κ El R):Prop:=∀ds bs k r,sem ds bs k=some r→∃d bs',k d bs'=some r∧∀k',k' d bs'=some r→sem ds bs k'=some r
theorem zaon {ac:CC κ El α} {rc:Cod κ El ρ} {F:α→Option ρ} (h:∀ds a r,ac.dec ds=some a→F a=some r→Con P S f ds [] (rc.enc r) []):zl2 P S f (semP (R:=R) ac rc F):=by
 intro ds bs k r hs
 unfold semP at hs
 split at hs
 ·split at hs
  ·rename_i a ha
   split at hs
   ·rename_i x hx;exact ⟨_,_,hs,h _ _ _ ha hx⟩
   ·cases hs
  ·cases hs
 ·cases hs
theorem zacr {ac:CC κ El α} {rc:Cod κ El ρ} {F:α→Option ρ}:zf1 (semP (R:=R) ac rc F):=by
 intro ds bs k r hs
 unfold semP at hs
 split at hs
 ·split at hs
  ·rename_i a ha
   split at hs
   ·rename_i x hx;exact ⟨_,_,hs,fun k' hk'=>by unfold semP;simp only[ha,hx];exact hk'⟩
   ·cases hs
  ·cases hs
 ·cases hs
theorem zaol {ac:CC κ El α} {bc:BC κ El β} {rc:Cod κ El ρ} {F:α→β→Option (ρ×β)} (h:∀ds bs a b r b',ac.dec ds=some a→bc.dec bs=some b→F a b=some (r,b')→Con P S f ds bs (rc.enc r) (bc.enc b')):zl2 P S f (semM (R:=R) ac bc rc F):=by
 intro ds bs k r hs
 unfold semM at hs
 split at hs
 ·rename_i a ha
  split at hs
  ·rename_i b hb
   split at hs
   ·rename_i x y hx;exact ⟨_,_,hs,h _ _ _ _ _ _ ha hb hx⟩
   ·cases hs
  ·cases hs
 ·cases hs
theorem zacp {ac:CC κ El α} {bc:BC κ El β} {rc:Cod κ El ρ} {F:α→β→Option (ρ×β)}:zf1 (semM (R:=R) ac bc rc F):=by
 intro ds bs k r hs
 unfold semM at hs
 split at hs
 ·rename_i a ha
  split at hs
  ·rename_i b hb
   split at hs
   ·rename_i x y hx;exact ⟨_,_,hs,fun k' hk'=>by unfold semM;simp only[ha,hb,hx];exact hk'⟩
   ·cases hs
  ·cases hs
 ·cases hs
theorem zaom {ac:CC κ El α} {cc:CC κ El ρ} {F:α→Option ρ} (h:∀ds a r,ac.dec ds=some a→F a=some r→Con P S f ds [] (.tup []) [cc.enc r]):zl2 P S f (semN (R:=R) ac cc F):=by
 intro ds bs k r hs
 unfold semN at hs
 split at hs
 ·split at hs
  ·rename_i a ha
   split at hs
   ·rename_i x hx;exact ⟨_,_,hs,h _ _ _ ha hx⟩
   ·cases hs
  ·cases hs
 ·cases hs
theorem zacq {ac:CC κ El α} {cc:CC κ El ρ} {F:α→Option ρ}:zf1 (semN (R:=R) ac cc F):=by
 intro ds bs k r hs
 unfold semN at hs
 split at hs
 ·split at hs
  ·rename_i a ha
   split at hs
   ·rename_i x hx;exact ⟨_,_,hs,fun k' hk'=>by unfold semN;simp only[ha,hx];exact hk'⟩
   ·cases hs
  ·cases hs
 ·cases hs
theorem zaco (ac:CC κ El α) {s1 s2:SemT κ El R} (h1:zl2 P S f s1) (h2:zl2 P S f s2):zl2 P S f (fun ds bs k=>zxw (ac.dec ds) (s1 ds bs k) (s2 ds bs k)):=by
 intro ds bs k r hs
 simp only[zxw]at hs
 split at hs
 ·exact h1 _ _ _ _ hs
 ·exact h2 _ _ _ _ hs
theorem z42 (ac:CC κ El α) {s1 s2:SemT κ El R} (h1:zf1 s1) (h2:zf1 s2):zf1 (fun ds bs k=>zxw (ac.dec ds) (s1 ds bs k) (s2 ds bs k)):=by
 intro ds bs k r hs
 cases hd:ac.dec ds with
 |some a=>simp only[zxw,hd]at hs ⊢;exact h1 _ _ _ _ hs
 |none=>simp only[zxw,hd]at hs ⊢;exact h2 _ _ _ _ hs
theorem zaoj:zl2 P S f (fun _ _ _=>none:SemT κ El R):=fun ds bs k r h=>by cases h
theorem zacn:zf1 (fun _ _ _=>none:SemT κ El R):=fun ds bs k r h=>by cases h
theorem zwb:zbi P S (fun _ _ _ _=>none:Nat→SemT κ El R):=fun f ds bs k r h=>by cases h
theorem zqu {g:Nat} {sem:SemT κ El R} {rest:Nat→SemT κ El R} (h1:zl2 P S g sem) (h2:zbi P S rest):zbi P S (fun f ds bs k=>bif Nat.beq f g then sem ds bs k else rest f ds bs k):=by
 intro f ds bs k r h
 simp only[zad]at h
 split at h
 ·rename_i e;rw[Nat.beq_eq]at e;subst e;exact h1 _ _ _ _ h
 ·exact h2 _ _ _ _ _ h
theorem zqt:za2 (fun _ _ _ _=>none:Nat→SemT κ El R):=fun f ds bs k r h=>by cases h
theorem znz {g:Nat} {sem:SemT κ El R} {rest:Nat→SemT κ El R} (h1:zf1 sem) (h2:za2 rest):za2 (fun f ds bs k=>bif Nat.beq f g then sem ds bs k else rest f ds bs k):=by
 intro f ds bs k r h
 cases hb:Nat.beq f g with
 |true=>simp only[hb,cond_true]at h ⊢;exact h1 _ _ _ _ h
 |false=>simp only[hb,cond_false]at h ⊢;exact h2 _ _ _ _ _ h
variable [KdEq κ] {m:Nat} {fn:Func} {code:Code}
theorem zaca (hb:fn.body=some code) {ids:List Nat} (hids:(zaj code).map zap=ids) (hn:zgm ids=true) {id:Nat} (hm:id∈ids):zbp fn id∈zaj code∧zap (zbp fn id)=id:=by
 rw[←hids]at hm
 obtain ⟨b,hbm,rfl⟩:=List.mem_map.1 hm
 rw[ziu hb (by rw[hids];exact hn) b hbm]
 exact ⟨hbm,rfl⟩
theorem zw6 {loops:{R:Type}→Nat→St κ El→(Ex→St κ El→Option R)→Option R} (fok:FnOk P f fn code) {ids:List Nat} (hids:(zaj code).map zap=ids) (hn:zgm ids=true) (h:∀i∈ids,zae P S m fn @loops i) :
 ∀b∈zaj code,zbp fn (zap b)=b∧zae P S m fn @loops (zap b):=
 fun b hb=>⟨ziu fok.body (by rw[hids];exact hn) b hb,h _ (by rw[←hids];exact List.mem_map.2 ⟨b,hb,rfl⟩)⟩
def zyq (P:Program) (S:Sg κ El) (m:Nat) (out:β→Ex×St κ El) (outs:Ex→St κ El→Option β):Prop:=∀e st b,outs e st=some b→(out b).1=e∧ToOk P S m st (out b).2
def zsr (P:Program) (S:Sg κ El) (m:Nat) (out:β→Ex×St κ El) (E:Nat→St κ El→Option β):Prop:=∀i st b,E i st=some b→(out b).1=.exit i∧ToOk P S m st (out b).2
def zahh (P:Program) (S:Sg κ El) (m:Nat) (out:β→Ex×St κ El) (E:St κ El→Option β):Prop:=∀st b,E st=some b→(out b).1=.ret∧ToOk P S m st (out b).2
def PrTo (P:Program) (S:Sg κ El) (m:Nat) (pr:St κ El→Option (St κ El)) (fc:FC κ El α):Prop:=∀st st1 x,pr st=some st1→fc.dec st1=some x→ToOk P S m st (fc.enc x)
theorem zarh {out:β→Ex×St κ El}:zsr P S m out (fun _ _=>none):=fun i st b h=>by cases h
theorem zamc {out:β→Ex×St κ El} {j:Nat} {pr:St κ El→Option (St κ El)} {fo:FC κ El α} {inj:α→β} {rest:Nat→St κ El→Option β} (hp:PrTo P S m pr fo) (hi:∀x,out (inj x)=(.exit j,fo.enc x)) (hr:zsr P S m out rest) :
 zsr P S m out (fun i st=>bif Nat.beq i j then zja pr fo st inj else rest i st):=by
 intro i st b h
 simp only[zad]at h
 split at h
 ·rename_i e
  rw[Nat.beq_eq]at e;subst e
  obtain ⟨x,rfl,hto⟩:=zfa (P:=P) (S:=S) (m:=m) hp h
  rw[hi];exact ⟨rfl,hto⟩
 ·exact hr i st b h
theorem zawk {out:β→Ex×St κ El}:zahh P S m out (fun _=>none):=fun st b h=>by cases h
theorem zawl {out:β→Ex×St κ El} {pr:St κ El→Option (St κ El)} {fo:FC κ El α} {inj:α→β} (hp:PrTo P S m pr fo) (hi:∀x,out (inj x)=(.ret,fo.enc x)):zahh P S m out (fun st=>zja pr fo st inj):=by
 intro st b h
 obtain ⟨x,rfl,hto⟩:=zfa (P:=P) (S:=S) (m:=m) hp h
 rw[hi];exact ⟨rfl,hto⟩
theorem zaxw {out:β→Ex×St κ El} {outs:Ex→St κ El→Option β} (hx:zsr P S m out (fun i st=>outs (.exit i) st)) (hr:zahh P S m out (fun st=>outs .ret st)) (hn:∀st,outs .normal st=none):zyq P S m out outs:=by
 intro e st b h
 cases e with
 |normal=>rw[hn]at h;cases h
 |exit i=>exact hx i st b h
 |ret=>exact hr st b h
theorem z3y {id:Nat} {loops:{R:Type}→Nat→St κ El→(Ex→St κ El→Option R)→Option R}
 {call:{R:Type}→Nat→SemT κ El R}
 {pr:St κ El→Option (St κ El)} {fc:FC κ El α} {step:α→Option (α⊕β)} {outs:Ex→St κ El→Option β} {outk:{R:Type}→β→(Ex→St κ El→Option R)→Option R} (out:β→Ex×St κ El)
 (G:GoodP P S) (fok:FnOk P f fn code) {ids:List Nat} (hids:(zaj code).map zap=ids) (hn:zgm ids=true) (hm:id∈ids)
 (cn:∀{R:Type},za2 (R:=R) call) (cok:∀{R:Type},zbi (R:=R) P S call)
 {inn:List Nat} (hinn:(zaj (zbp fn id)).map zap=inn) (hl:∀i∈inn,zae P S m fn @loops i)
 (el:∀a,evc P S call (loops (R:=α⊕β)) (zbp fn id) (fc.enc a) (zxc pr fc outs)=step a)
 (hp:PrTo P S m pr fc) (ho:zyq P S m out outs)
 (hk:∀{R:Type} b (k:Ex→St κ El→Option R),outk b k=k (out b).1 (out b).2)
 (heq:∀{R:Type} (st:St κ El) (k:Ex→St κ El→Option R),loops id st k=semL pr fc step outk st k):zae P S m fn @loops id:=by
 intro nt hnt
 obtain ⟨hmem,hfr⟩:=zaca fok.body hids hn hm
 refine zaok out G G.ok.mixed cn cok ((fok.dst.mono hnt).body hmem) (fun b hb=>⟨?_,?_⟩) el hp ho hk heq
 ·exact ziu fok.body (by rw[hids];exact hn) b (zhn hmem hb)
 ·exact hl _ (by rw[←hinn];exact List.mem_map.2 ⟨b,hb,rfl⟩) nt hnt
theorem zaa {p:Nat→Prop}:∀i∈([]:List Nat),p i:=fun i h=>by cases h
theorem all_cons {p:Nat→Prop} {n:Nat} {l:List Nat} (h:p n) (hl:∀i∈l,p i):∀i∈n::l,p i:=fun i hi=>by
 rcases List.mem_cons.1 hi with rfl|hi
 ·exact h
 ·exact hl i hi
def fnB (P:Program) (f:Nat) (fn:Func) (ids:List Nat):Bool:=
 !(fn.name == "runtime.NumGoroutine")&&(match fn.body with|some c=>dstB fn.ntmps c&&(zgm ids&&beqL ((zaj c).map zap) ids)|none=>false)
where beqL:List Nat→List Nat→Bool
 | [],[]=>true
 |a::l,b::l'=>Nat.beq a b&&beqL l l'
 |_,_=>false
theorem zzi:∀{l l':List Nat},fnB.beqL l l'=true→l=l':=by
 intro l
 induction l with
 |nil=>intro l' h;cases l' with|nil=>rfl|cons=>cases h
 |cons a l ih=>
  intro l' h
  cases l' with
  |nil=>cases h
  |cons b l'=>simp only[fnB.beqL,Bool.and_eq_true,Nat.beq_eq]at h;rw[h.1,ih h.2]
theorem zbe {ids:List Nat} (hat:P.funcs[f]?=some fn) (h:fnB P f fn ids=true):∃code,FnOk P f fn code∧zgm ids=true∧(zaj code).map zap=ids:=by
 unfold fnB at h
 rw[Bool.and_eq_true,Bool.not_eq_true']at h
 obtain ⟨h1,h2⟩:=h
 split at h2
 ·rename_i c hc
  simp only[Bool.and_eq_true]at h2
  exact ⟨c,⟨hat,h1,hc,z1s h2.1⟩,h2.2.1,zzi h2.2.2⟩
 ·cases h2
def prB (P:Program):Bool:=(List.range P.types.size).all fun t=>match P.underlying t with|none=>false|some _=>true
theorem prOk (h:prB P=true) (hm:P.follows .mixedOrders=true):PrOk P:=by
 refine ⟨fun t i hi=>?_,hm⟩
 by_cases ht:t<P.types.size
 ·have:=List.all_eq_true.1 h t (List.mem_range.2 ht)
  split at this
  ·cases this
  ·rename_i d hd;exact ⟨d,hd⟩
 ·have:=Tables.info?_beyond ht hi
  unfold Program.underlying
  rw[hi]
  obtain ⟨desc,_⟩:=i
  cases desc with
  |named n u=>cases this
  |_=>exact ⟨_,rfl⟩
theorem zarc {S:Sg κ El} {cc:(k:κ)→CC κ El (El k)} (he:∀k,S.enc k=(cc k).enc) (hd:∀k,S.dec k=(cc k).dec) (hcc:∀k,CCOk (cc k)) (hsz:∀k x,((cc k).enc x).length=S.sz k) (hpl:∀k x,((cc k).enc x).all zfb=true) (hpos:∀k,0<S.sz k):SgOk S where
 sz:=fun k x=>by rw[he];exact hsz k x
 plain:=fun k x d h=>by rw[he]at h;exact List.all_eq_true.1 (hpl k x) d h
 pos:=hpos
 dec:=fun k cs x h=>by
  rw[hd]at h
  have hw:=hcc k _ _ h
  refine ⟨by rw[hw.1];exact hsz k x,fun j d hj=>?_⟩
  rw[he]at hj
  obtain ⟨d',h1,h2⟩:=hw.get hj
  refine ⟨d',h1,?_⟩
  have hp:=List.all_eq_true.1 (hpl k x) d (List.mem_of_getElem? hj)
  cases h2 with
  |leaf _ _ h=>exact h
  |_=>cases hp
def eqB (P:Program) (t:Nat):Bool:=!(P.eqGuardType P.depth t)&&(!(P.stoodInHeld t)&&(match P.underlying t with|some (.struct fs)=>fs.toList.all (fun f=>!(f.name == "_"))|_=>true))
theorem z96 {t:Nat} (h:eqB P t=true):EqOk P t:=by
 unfold eqB at h
 simp only[Bool.and_eq_true,Bool.not_eq_true']at h
 refine ⟨h.1,h.2.1,fun fs hfs f hf=>?_⟩
 have h3:=h.2.2
 rw[hfs]at h3
 have:=List.all_eq_true.1 h3 f hf
 simpa using this
theorem zamb:∀t,(false=true)→EqOk P t:=fun t h=>by cases h
theorem z97 {u:Nat} {q:Nat→Bool} (h:eqB P u=true) (hr:∀t,q t=true→EqOk P t):∀t,(Nat.beq t u||q t)=true→EqOk P t:=fun t ht=>by
 rw[Bool.or_eq_true]at ht
 rcases ht with ht|ht
 ·rw[Nat.beq_eq]at ht;subst ht;exact z96 h
 ·exact hr t ht
theorem z1k {loops:{R:Type}→Nat→St κ El→(Ex→St κ El→Option R)→Option R} {call:{R:Type}→Nat→SemT κ El R}
 (G:GoodP P S) (fok:FnOk P f fn code) (cn:∀{R:Type},za2 (R:=R) call) (cok:∀{R:Type},zbi (R:=R) P S call)
 {k0 kr:κ} {F:List (El k0)×Unit→Option (List (El kr))} (hmd:S.md f=.fresh)
 (hl:∀b∈zaj code,zbp fn (zap b)=b∧zae P S 0 fn @loops (zap b))
 (e:∀a,zdf P S call (loops (R:=List (El kr))) fn [.lsn k0 a] (retP (Cod.lst kr))=F (a,()))
 (e0:zdf P S call (loops (R:=List (El kr))) fn [.nil] (retP (Cod.lst kr))=F ([],())) :
 ∀ds a r,(CC.cons (Cod.lst k0) CC.nil).dec ds=some a→F a=some r→Con P S f ds [] ((Cod.lst kr).enc r) []:=by
 intro ds a r hds hF
 obtain ⟨xs,⟨⟩⟩:=a
 have hw:=(CCOk.cons (zai.lst k0) CCOk.nil) _ _ hds
 have hcon:∀ds0,zdf P S call (loops (R:=List (El kr))) fn ds0 (retP (Cod.lst kr))=some r→Con P S f ds0 [] ((Cod.lst kr).enc r) []:=fun ds0 h0=>zko G G.ok.mixed fok cn cok hmd hl (WL.refl ds0) h0
 have c1:=hcon [.lsn k0 xs] (by rw[e];exact hF)
 have c2:xs=[]→Con P S f [.nil] [] ((Cod.lst kr).enc r) []:=fun hx=>hcon [.nil] (by rw[e0];subst hx;exact hF)
 unfold Con at c1 c2 ⊢
 rw[hmd]at c1 c2 ⊢
 intro hb k ys hd w I J vs hp ha
 have ha':=hw.args ha
 obtain ⟨hs,hall⟩:=ha'
 have hs1:vs.size=1:=hs
 have h0:vs[0]?=some vs[0]:=Array.getElem?_eq_getElem (by omega)
 have hv:DR S w I J vs[0] (.lst k0 xs):=hall 0 _ _ h0 rfl
 have one:∀d,DR S w I J vs[0] d→Args S w I J vs [d]:=fun d hd=>⟨by simp[hs1],fun i v d' h1 h2=>by
  cases i with
  |zero=>simp only[List.getElem?_cons_zero,Option.some.injEq]at h2;subst h2;rw[h0]at h1;cases h1;exact hd
  |succ i=>simp at h2⟩
 generalize hv0:vs[0]=v0 at hv one
 cases hv with
 |lst0 a cap _ hn=>
  cases a with
  |none=>
   have hc:cap=0:=hn rfl
   subst hc
   exact c2 rfl hb k ys hd w I J vs hp (one _ .nil)
  |some b=>exact c1 hb k ys hd w I J vs hp (one _ (.lsn b 0 cap k0 [] (.lst0 _ _ _ hn)))
 |lst b off cap _ xs cv hcap hc hv=>exact c1 hb k ys hd w I J vs hp (one _ (.lsn _ _ cap k0 xs (.lst b off cap k0 xs cv hcap hc hv)))
end
end Go.Proofs.YtpaidiaknfhclaaGreatDoor.Ev
namespace Go.Proofs.YtpaidiaknfhclaaGreatDoor.Ev
open Go
def zoz (P:Program) (rec:Nat→Option (List Nat)):List Field→List Nat→Option (List Nat)
 | [],acc=>some acc
 |f::fs,acc=>bif Nat.beq f.offset acc.length then (match rec f.type with
  |some l=>bif Nat.beq l.length (P.cellsOf f.type) then zoz P rec fs (acc++l) else none
  |none=>none) else none
def repL (l:List Nat):Nat→List Nat
 |0=>[]
 |n+1=>l++repL l n
def zg1 (P:Program):Nat→Nat→Option (List Nat)
 |0,_=>none
 |n+1,t=>match P.underlying t with
  |some (.struct fs)=>(match zoz P (zg1 P n) fs.toList []with|some l=>bif Nat.beq l.length (P.cellsOf t) then some l else none|none=>none)
  |some (.array m e)=>(match zg1 P n e with|some l=>bif Nat.beq l.length (P.cellsOf e)&&Nat.beq (repL l m).length (P.cellsOf t) then some (repL l m) else none|none=>none)
  |some .bool=>some [t]
  |some (.int _)=>some [t]
  |some .string=>some [t]
  |some (.slice _)=>some [t]
  |_=>none
section
variable {H:Type} {enc:TypeId×Value→H} {P:Program} {w:World}
abbrev TR (enc:TypeId×Value→H) (P:Program) (w:World) (fuel t:Nat) (cs:List Value):=DataW.trod enc P w 0 (fun _=>true) true fuel t cs
def zgs (enc:TypeId×Value→H) (P:Program) (w:World) (ts:List Nat) (cs:List Value):Prop:=
 cs.length=ts.length∧∀(j:Nat) u v,ts[j]?=some u→cs[j]?=some v→∃fuel x,TR enc P w fuel u [v]=some x
theorem zgs.app {l m:List Nat} {cs ds:List Value} (h:zgs enc P w l cs) (h':zgs enc P w m ds):zgs enc P w (l++m) (cs++ds):=by
 refine ⟨by simp[h.1,h'.1],fun j u v h1 h2=>?_⟩
 by_cases hj:j<l.length
 ·rw[List.getElem?_append_left hj]at h1
  rw[List.getElem?_append_left (by rw[h.1];exact hj)]at h2
  exact h.2 j u v h1 h2
 ·rw[List.getElem?_append_right (by omega)]at h1
  rw[List.getElem?_append_right (by rw[h.1];omega),h.1]at h2
  exact h'.2 _ u v h1 h2
theorem zi9 {α β:Type} {f:α→Option β}:∀{l:List α} {r:List β},l.mapM f=some r→∀x∈l,∃y,f x=some y:=by
 intro l
 induction l with
 |nil=>intro r _ x hx;cases hx
 |cons a l ih=>
  intro r h x hx
  simp only[List.mapM_cons,Option.bind_eq_bind,Option.pure_def]at h
  cases ha:f a with
  |none=>rw[ha]at h;cases h
  |some y=>
   rw[ha]at h
   simp only[Option.bind_some]at h
   cases hl:l.mapM f with
   |none=>rw[hl]at h;cases h
   |some ys=>
    rcases List.mem_cons.1 hx with rfl|hx
    ·exact ⟨y,ha⟩
    ·exact ih hl x hx
theorem z3g {rec:Nat→Option (List Nat)} {cs:List Value} (hrec:∀t l,rec t=some l→∀fuel cs x,TR enc P w fuel t cs=some x→zgs enc P w l cs) :
 ∀{fs:List Field} {acc l:List Nat},zoz P rec fs acc=some l→(∀f∈fs,∃fuel x,TR enc P w fuel f.type ((cs.drop f.offset).take (P.cellsOf f.type))=some x)→zgs enc P w acc (cs.take acc.length)→zgs enc P w l (cs.take l.length):=by
 intro fs
 induction fs with
 |nil=>intro acc l h _ hp;simp only[zoz,Option.some.injEq]at h;subst h;exact hp
 |cons f fs ih=>
  intro acc l h hf hp
  simp only[zoz,zad]at h
  split at h
  rotate_left
  ·cases h
  rename_i ho
  rw[Nat.beq_eq]at ho
  split at h
  rotate_left
  ·cases h
  rename_i lf hlf
  split at h
  rotate_left
  ·cases h
  rename_i hlen
  rw[Nat.beq_eq]at hlen
  obtain ⟨fuel,x,hx⟩:=hf f (by simp)
  have h1:=hrec _ _ hlf fuel _ x hx
  refine ih h (fun g hg=>hf g (by simp[hg])) ?_
  have e:cs.take (acc++lf).length=cs.take acc.length++(cs.drop f.offset).take (P.cellsOf f.type):=by
   rw[List.length_append,List.take_add,ho,hlen]
  rw[e]
  exact hp.app h1
theorem zla:∀(n:Nat) {t:Nat} {l:List Nat},zg1 P n t=some l→∀fuel cs x,TR enc P w fuel t cs=some x→zgs enc P w l cs:=by
 intro n
 induction n with
 |zero=>intro t l h;cases h
 |succ n ih=>
  intro t l h fuel cs x hx
  cases fuel with
  |zero=>cases hx
  |succ fuel=>
   have one:∀{v:Value},cs=[v]→l=[t]→zgs enc P w l cs:=by
    intro v hc hl
    subst hc hl
    refine ⟨rfl,fun j u v' h1 h2=>?_⟩
    cases j with
    |zero=>simp only[List.getElem?_cons_zero,Option.some.injEq]at h1 h2;subst h1 h2;exact ⟨_,_,hx⟩
    |succ j=>simp at h1
   unfold zg1 at h
   unfold TR DataW.trod at hx
   split at h
   ·rename_i fs hu
    simp only[hu]at hx
    split at h
    rotate_left
    ·cases h
    rename_i l' hl'
    rw[zad]at h
    split at h
    rotate_left
    ·cases h
    rename_i hlen
    rw[Nat.beq_eq]at hlen
    cases h
    split at hx
    rotate_left
    ·cases hx
    rename_i hcl
    rw[Option.map_eq_some_iff]at hx
    obtain ⟨xs,hm,-⟩:=hx
    have:=z3g (enc:=enc) (w:=w) (cs:=cs) (fun t l h=>ih h) hl' (fun f hf=>let ⟨y,hy⟩:=zi9 hm f hf;⟨fuel,y,hy⟩) ⟨by simp,fun j u v h=>by simp at h⟩
    rwa [List.take_of_length_le (by rw[hcl,hlen];exact Nat.le_refl _)]at this
   ·rename_i m e hu
    simp only[hu]at hx
    split at h
    rotate_left
    ·cases h
    rename_i le hle
    rw[zad]at h
    split at h
    rotate_left
    ·cases h
    rename_i hlen
    rw[Bool.and_eq_true,Nat.beq_eq,Nat.beq_eq]at hlen
    cases h
    split at hx
    rotate_left
    ·cases hx
    rename_i hcl
    rw[Option.map_eq_some_iff]at hx
    obtain ⟨xs,hm,-⟩:=hx
    have hel:∀i,i<m→zgs enc P w le ((cs.drop (i*le.length)).take le.length):=by
     intro i hi
     obtain ⟨y,hy⟩:=zi9 hm i (List.mem_range.2 hi)
     rw[hlen.1]
     exact ih hle fuel _ y hy
    have key:∀(m' k:Nat),k+m'=m→∀ds,ds=cs.drop (k*le.length)→ds.length=(repL le m').length→zgs enc P w (repL le m') ds:=by
     intro m'
     induction m' with
     |zero=>intro k hk ds hd hl;simp only[repL,List.length_nil]at hl;rw[List.eq_nil_of_length_eq_zero hl];exact ⟨rfl,fun j u v h=>by simp[repL]at h⟩
     |succ m' ihm=>
      intro k hk ds hd hl
      have e1:ds=ds.take le.length++ds.drop le.length:=(List.take_append_drop _ _).symm
      rw[e1]
      refine zgs.app (l:=le) (m:=repL le m') (by rw[hd];exact hel k (by omega)) (ihm (k+1) (by omega) _ ?_ ?_)
      ·rw[hd,List.drop_drop,Nat.add_mul,Nat.one_mul]
      ·rw[List.length_drop,hl];simp[repL]
    exact key m 0 (by omega) cs (by simp) (by rw[hcl,hlen.2])
   all_goals (first|(cases h;done)|skip)
   all_goals
    rename_i hu
    simp only[Option.some.injEq]at h
    simp only[hu]at hx
    split at hx<;>first|exact one rfl h.symm|(cases hx;done)|skip
   all_goals (first|exact one rfl h.symm|simp_all)
end
section
variable {κ:Type} {El:κ→Type} {S:Sg κ El} {P:Program} {α β:Type}
def AllC (w:World) (b o:Nat):Prop:=∃v,w.cell? ⟨b,o,none⟩=some v
def zam (P:Program) (S:Sg κ El) (u:Nat) (c:Cod κ El α) (R:α→Prop):Prop:=
 ∀(H:Type) (enc:TypeId×Value→H) (w:World) fuel v x,TR enc P w fuel u [v]=some x→∃a,R a∧DR S w (AllC w) (AllC w) v (c.enc a)
def zaf (P:Program) (S:Sg κ El) (ts:List Nat) (c:CC κ El α) (R:α→Prop):Prop:=
 ∀(H:Type) (enc:TypeId×Value→H) (w:World) cs,zgs enc P w ts cs→∃a,R a∧cs.length=(c.enc a).length∧∀(i:Nat) v d,cs[i]?=some v→(c.enc a)[i]?=some d→DR S w (AllC w) (AllC w) v d
theorem zaf.nil:zaf P S [] (CC.nil:CC κ El Unit) (fun _=>True):=by
 intro H enc w cs h
 have:cs=[]:=List.eq_nil_of_length_eq_zero (by simpa using h.1)
 subst this
 exact ⟨(),trivial,rfl,fun i v d h=>by simp at h⟩
theorem zaf.cons {u:Nat} {ts:List Nat} {c:Cod κ El α} {r:CC κ El β} {R:α→Prop} {R':β→Prop} (h:zam P S u c R) (h':zaf P S ts r R'):zaf P S (u::ts) (CC.cons c r) (fun p=>R p.1∧R' p.2):=by
 intro H enc w cs hp
 cases cs with
 |nil=>exact absurd hp.1 (by simp)
 |cons v cs=>
  obtain ⟨fuel,x,hx⟩:=hp.2 0 u v rfl rfl
  obtain ⟨a,ha,hd⟩:=h H enc w fuel v x hx
  obtain ⟨b,hb,hl,hall⟩:=h' H enc w cs ⟨by simpa using hp.1,fun j u v h1 h2=>hp.2 (j+1) u v (by simpa using h1) (by simpa using h2)⟩
  refine ⟨(a,b),⟨ha,hb⟩,by simp[CC.cons,hl],fun i v' d h1 h2=>?_⟩
  cases i with
  |zero=>simp only[CC.cons,List.getElem?_cons_zero,Option.some.injEq]at h1 h2;subst h1 h2;exact hd
  |succ i=>exact hall i v' d (by simpa using h1) (by simpa[CC.cons]using h2)
theorem zaf.iso {ts:List Nat} {c:CC κ El β} {enc0:α→List (D κ El)} {to:β→α} {R:β→Prop} {R':α→Prop} (h:zaf P S ts c R) (h0:∀b,enc0 (to b)=c.enc b) (hR:∀b,R b→R' (to b)):zaf P S ts (c.iso enc0 to) R':=by
 intro H enc w cs hp
 obtain ⟨b,hb,hl,hall⟩:=h H enc w cs hp
 exact ⟨to b,hR b hb,by simp only[CC.iso,h0];exact hl,fun i v d h1 h2=>hall i v d h1 (by simpa only[CC.iso,h0]using h2)⟩
def inK (k:IntKind) (n:Int):Prop:=(Lit.int k n).wf=true
theorem zam.int {u:Nat} {k:IntKind} (hu:P.underlying u=some (.int k)):zam P S u (Cod.int k) (inK k):=by
 intro H enc w fuel v x hx
 cases fuel with
 |zero=>cases hx
 |succ fuel=>
  unfold TR DataW.trod at hx
  simp only[hu]at hx
  split at hx<;>try (cases hx;done)
  all_goals first
   |(
    rename_i k1 k2 n h1 h2
    split at hx
    ·rename_i hk
     cases h1;cases h2
     rw[hk.1]
     exact ⟨n,hk.2,.int _ _⟩
    ·cases hx)
   |simp_all
theorem zam.bool {u:Nat} (hu:P.underlying u=some .bool):zam P S u (Cod.bool) (fun _=>True):=by
 intro H enc w fuel v x hx
 cases fuel with
 |zero=>cases hx
 |succ fuel=>
  unfold TR DataW.trod at hx
  simp only[hu]at hx
  split at hx<;>try (cases hx;done)
  all_goals first
   |(rename_i b h1 h2;cases h2;exact ⟨b,trivial,.bool _⟩)
   |simp_all
theorem zam.str {u:Nat} (hu:P.underlying u=some .string):zam P S u (Cod.str) (fun s=>s.length≤maxLen):=by
 intro H enc w fuel v x hx
 cases fuel with
 |zero=>cases hx
 |succ fuel=>
  unfold TR DataW.trod at hx
  simp only[hu]at hx
  split at hx<;>try (cases hx;done)
  all_goals first
   |(
    rename_i s h1 h2
    split at hx
    ·rename_i hs
     cases h2
     exact ⟨s.data.toList,by simpa using hs,.str _⟩
    ·cases hx)
   |simp_all
theorem zam.lst {u e n:Nat} {k:κ} {ts:List Nat} {cc:CC κ El (El k)} {R:El k→Prop} [KdEq κ] (hu:P.underlying u=some (.slice e)) (hts:zg1 P n e=some ts) (he:zaf P S ts cc R) (hcc:S.enc k=cc.enc) (hsz:S.sz k=P.cellsOf e) (hpos:0<P.cellsOf e) (hlen:∀x,(cc.enc x).length=S.sz k) :
 zam P S u (Cod.lst k) (fun xs=>xs.length≤maxLen∧∀x∈xs,R x):=by
 intro H enc w fuel v x hx
 show ∃a:List (El k),(a.length≤maxLen∧∀x∈a,R x)∧DR S w (AllC w) (AllC w) v (.lst k a)
 cases fuel with
 |zero=>cases hx
 |succ fuel=>
  have main:∀(a:Addr) (len cap:Nat),v=.slice (some a) len cap→(len≤cap∧cap≤maxLen)→(∀i,i<len→∃z,(w.cells? 0 (a.add (i*P.cellsOf e)) (P.cellsOf e)).bind (DataW.trod enc P w 0 (fun _=>true) true fuel e)=some z)→
   ∃a:List (El k),(a.length≤maxLen∧∀x∈a,R x)∧DR S w (AllC w) (AllC w) v (.lst k a):=by
   intro a len cap hv hb hm
   subst hv
   have hel:∀i,i<len→∃y:El k,R y∧∀j d,(S.enc k y)[j]?=some d→∃v,w.cell? ((a.add (i*P.cellsOf e)).add j)=some v∧DR S w (AllC w) (AllC w) v d:=by
    intro i hi
    obtain ⟨z,hz⟩:=hm i hi
    rw[Option.bind_eq_some_iff]at hz
    obtain ⟨cs,hcs,htr⟩:=hz
    obtain ⟨y,hy,hl,hall⟩:=he H enc w cs (zla n hts fuel cs z htr)
    refine ⟨y,hy,fun j d hd=>?_⟩
    rw[hcc]at hd
    have hj:j<cs.length:=by rw[hl];exact (List.getElem?_eq_some_iff.1 hd).1
    obtain ⟨_,hn,hget⟩:=World.cells?_some hcs
    refine ⟨cs[j],?_,hall j _ d (List.getElem?_eq_getElem hj) hd⟩
    rw[hget j (by omega)]
    exact List.getElem?_eq_getElem hj
   cases len with
   |zero=>exact ⟨[],⟨by simp,fun x hx=>by cases hx⟩,.lst0 _ _ _ (fun h=>by cases h)⟩
   |succ len=>
    have hspot:a.spot=none:=by
     obtain ⟨y,hy,hc⟩:=hel 0 (by omega)
     have hl0:0<(S.enc k y).length:=by rw[hcc,hlen,hsz];exact hpos
     obtain ⟨v,hv,-⟩:=hc 0 _ (List.getElem?_eq_getElem hl0)
     simp only[Nat.zero_mul,Addr.add,if_true]at hv
     cases hs:a.spot with
     |none=>rfl
     |some q=>unfold World.cell? at hv;simp[hs]at hv;split at hv<;>cases hv
    obtain ⟨b,off,spot⟩:=a
    simp only at hspot
    subst hspot
    have hch:∃xs:List (El k),xs.length=len+1∧(∀x∈xs,R x)∧∀i (hi:i<xs.length) j d,(S.enc k xs[i])[j]?=some d→∃v,w.cell? ⟨b,off+(i*S.sz k+j),none⟩=some v∧DR S w (AllC w) (AllC w) v d:=by
     have:∀m,m≤len+1→∃xs:List (El k),xs.length=m∧(∀x∈xs,R x)∧∀i (hi:i<xs.length) j d,(S.enc k xs[i])[j]?=some d→∃v,w.cell? ⟨b,off+(i*S.sz k+j),none⟩=some v∧DR S w (AllC w) (AllC w) v d:=by
      intro m
      induction m with
      |zero=>intro _;exact ⟨[],rfl,fun x hx=>(by cases hx),fun i hi=>(by simp at hi)⟩
      |succ m ihm=>
       intro hm'
       obtain ⟨xs,h1,h2,h3⟩:=ihm (by omega)
       obtain ⟨y,hy,hc⟩:=hel m (by omega)
       refine ⟨xs++[y],by simp[h1],fun x hx=>?_,fun i hi j d hd=>?_⟩
       ·rcases List.mem_append.1 hx with hx|hx
        ·exact h2 x hx
        ·simp at hx;subst hx;exact hy
       ·by_cases hlt:i<xs.length
        ·rw[List.getElem_append_left hlt]at hd;exact h3 i hlt j d hd
        ·have hi':i=m:=by simp at hi;omega
         subst hi'
         rw[List.getElem_append_right (by omega)]at hd
         simp only[h1,Nat.sub_self,List.getElem_cons_zero]at hd
         obtain ⟨v,hv,hdr⟩:=hc j d hd
         refine ⟨v,?_,hdr⟩
         rw[zbg,zbg]at hv
         rw[hsz,←Nat.add_assoc];exact hv
     exact this (len+1) (Nat.le_refl _)
    obtain ⟨xs,h1,h2,h3⟩:=hch
    refine ⟨xs,⟨by rw[h1];omega,h2⟩,?_⟩
    have key:=DR.lst (S:=S) (w:=w) (I:=AllC w) (J:=AllC w) b off cap k xs (fun i j=>(w.cell? ⟨b,off+(i*S.sz k+j),none⟩).getD undef) (by rw[h1];exact hb.1) (fun i j hi hj=>?_) (fun i hi j d hd=>?_)
    ·rw[h1]at key;exact key
    ·have hl0:j<(S.enc k xs[i]).length:=by rw[hcc,hlen];exact hj
     obtain ⟨v,hv,-⟩:=h3 i hi j _ (List.getElem?_eq_getElem hl0)
     rw[hv];exact ⟨rfl,v,hv⟩
    ·obtain ⟨v,hv,hdr⟩:=h3 i hi j d hd
     rw[hv];exact hdr
  unfold TR DataW.trod at hx
  simp only[hu]at hx
  split at hx<;>try (cases hx;done)
  all_goals first
   |(rename_i e' h1 h2;cases h2;exact ⟨[],⟨by simp,fun x hx=>by cases hx⟩,.lst0 _ _ _ (fun _=>rfl)⟩)
   |(
    rename_i e' a len cap h1 h2
    cases h1
    split at hx
    ·rename_i hb
     rw[Option.bind_eq_some_iff]at hx
     obtain ⟨elems,hm,-⟩:=hx
     exact main a len cap (by cases h2;rfl) hb.2 (fun i hi=>zi9 hm i (List.mem_range.2 hi))
    ·cases hx)
   |simp_all
theorem zaf.agg {t n:Nat} {ts:List Nat} {cc:CC κ El α} {R:α→Prop} (hts:zg1 P n t=some ts) (h:zaf P S ts cc R) {H:Type} {enc:TypeId×Value→H} {w:World} {v:Value} {d:DataW H} {ps:List MemPlace}
 (hv:∃cs,v=.agg cs) (hx:DataW.Trod enc P w 0 (fun _=>true) true t v d ps):∃a,R a∧DR S w (AllC w) (AllC w) v ((Cod.agg cc).enc a):=by
 obtain ⟨cs,rfl⟩:=hv
 obtain ⟨fuel,hx⟩:=hx
 obtain ⟨a,hR,hl,hall⟩:=h H enc w _ (zla n hts fuel _ _ hx)
 refine ⟨a,hR,.agg cs _ (by simpa[Value.cells]using hl) (fun i v d h1 h2=>hall i v d ?_ h2)⟩
 simpa[Value.cells]using h1
end
end Go.Proofs.YtpaidiaknfhclaaGreatDoor.Ev
namespace Go.Proofs.YtpaidiaknfhclaaGreatDoor.Ev
open Go
section
variable {κ:Type} {El:κ→Type} {S:Sg κ El} {P:Program}
theorem zy9 {w:World} {b o:Nat} (h:AllC w b o):b<w.heap.size:=by
 obtain ⟨v,hv⟩:=h
 unfold World.cell? at hv
 split at hv
 ·rename_i hb;exact (Array.getElem?_eq_some_iff.1 hb).1
 ·cases hv
theorem z2e {f:Nat} {fn:Func} {code:Code} (fok:FnOk P f fn code) (hmd:S.md f=.data) {ds:List (D κ El)} (hcon:Con P S f ds [] (.bool true) []) {W:World} {args:Array Value} (hgl:zl0 S W (AllC W)) (ha:Args S W (AllC W) (AllC W) args ds) :
 Calls P f args W fun e W'=>e=.returned (.bool true)∧RowKit.Below W.heap.size W W':=by
 unfold Con at hcon
 rw[hmd]at hcon
 have h:=hcon rfl W (AllC W) (AllC W) args ⟨hgl,fun b o h=>zy9 h,fun b o h=>h,fun b o h=>⟨zy9 h,by simp⟩⟩ ha
 unfold zcg at h
 rw[MuLone.run_callFunc_enter fok.at_ fok.name fok.body args W]at h
 simp only at h
 refine Calls.mono h (fun e W' he=>?_)
 cases e with
 |returned v=>
  obtain ⟨I',hg,hd⟩:=he
  exact ⟨by rw[hd.bool_inv],⟨hg.os,hg.tape,hg.out,hg.size,fun b hb=>hg.keep b hb⟩⟩
 |_=>exact he.elim
theorem z8c {w:World}:Args S w (AllC w) (AllC w) #[] ([]:List (D κ El)):=⟨rfl,fun i v d h=>by simp at h⟩
theorem ze1 {w:World} {v:Value} {vs:Array Value} {d:D κ El} {ds:List (D κ El)} (h:DR S w (AllC w) (AllC w) v d) (h':Args S w (AllC w) (AllC w) vs ds):Args S w (AllC w) (AllC w) (#[v]++vs) (d::ds):=by
 refine ⟨by simp[h'.1];omega,fun i v' d' h1 h2=>?_⟩
 cases i with
 |zero=>
  simp only[List.getElem?_cons_zero,Option.some.injEq]at h2
  subst h2
  rw[Array.getElem?_append_left (by simp)]at h1
  simp at h1;subst h1;exact h
 |succ i=>
  rw[Array.getElem?_append_right (by simp)]at h1
  exact h'.2 i v' d' (by simpa using h1) (by simpa using h2)
theorem zaai {W:World} (h:∀n k xs,S.glob n=some ⟨k,xs⟩→∀i (hi:i<xs.length) j d,(S.enc k xs[i])[j]?=some d→∃v,W.cell? ⟨n,i*S.sz k+j,none⟩=some v∧DR S W (AllC W) (AllC W) v d):zl0 S W (AllC W):=
 fun n k xs hg i hi j d hd=>let ⟨v,h1,h2⟩:=h n k xs hg i hi j d hd;⟨v,h1,⟨v,h1⟩,h2⟩
theorem zam.dr {α:Type} {u:Nat} {c:Cod κ El α} {R:α→Prop} (h:zam P S u c R) {H:Type} {enc:TypeId×Value→H} {w:World} {v:Value} {d:DataW H} {ps:List MemPlace} (hv:v.cells.toList=[v])
 (hx:DataW.Trod enc P w 0 (fun _=>true) true u v d ps):∃a,R a∧DR S w (AllC w) (AllC w) v (c.enc a):=by
 obtain ⟨fuel,hx⟩:=hx
 rw[hv]at hx
 exact h H enc w fuel v _ hx
end
end Go.Proofs.YtpaidiaknfhclaaGreatDoor.Ev
namespace Go.Proofs.YtpaidiaknfhclaaGreatDoor.Ev
open Go
section
variable {κ:Type} {El:κ→Type} {α β γ ρ:Type}
class CodC (c:Cod κ El α):Prop where ok:zai c
class CCC (c:CC κ El α):Prop where ok:CCOk c
class FCC (c:FC κ El α):Prop where ok:FCOk c
instance (k:IntKind):CodC (Cod.int k:Cod κ El Int):=⟨zai.int k⟩
instance:CodC (Cod.bool:Cod κ El Bool):=⟨zai.bool⟩
instance:CodC (Cod.str:Cod κ El (List UInt8)):=⟨zai.str⟩
instance:CodC (Cod.unit:Cod κ El Unit):=⟨zai.unit⟩
instance (n:Nat):CodC (Cod.ptrc n:Cod κ El Unit):=⟨zai.ptrc n⟩
instance [KdEq κ] (k:κ):CodC (Cod.lst k:Cod κ El (List (El k))):=⟨zai.lst k⟩
instance (c:CC κ El α) [CCC c]:CodC (Cod.agg c):=⟨zai.agg CCC.ok⟩
instance (c:CC κ El α) [CCC c]:CodC (Cod.cptr c):=⟨zai.cptr CCC.ok⟩
instance (c:CC κ El (α×β×Unit)) [CCC c]:CodC (Cod.tup2 c):=⟨zai.tup2 CCC.ok⟩
instance (c:CC κ El (α×β×γ×Unit)) [CCC c]:CodC (Cod.tup3 c):=⟨zai.tup3 CCC.ok⟩
instance (f:Nat) (p:CC κ El α) (c:CC κ El β) [CCC p] [CCC c]:CodC (Cod.fnc f p c):=⟨zai.fnc f CCC.ok CCC.ok⟩
def Cod.clo (f:Nat) (c:CC κ El β):Cod κ El β:=(Cod.fnc f CC.nil c).iso (fun g=>g.2) (fun g=>((),g))
instance (f:Nat) (c:CC κ El β) [CCC c]:CodC (Cod.clo f c):=⟨zai.iso (zai.fnc f CCOk.nil CCC.ok) (fun _=>rfl)⟩
instance:CCC (CC.nil:CC κ El Unit):=⟨CCOk.nil⟩
instance (c:Cod κ El α) (r:CC κ El β) [CodC c] [CCC r]:CCC (CC.cons c r):=⟨CCOk.cons CodC.ok CCC.ok⟩
instance (c:Cod κ El α) [CodC c]:CCC (CC.one c):=⟨CCOk.one CodC.ok⟩
instance:FCC (FC.nil:FC κ El Unit):=⟨FCOk.nil⟩
instance (s:Nat) (c:Cod κ El α) (r:FC κ El β) [CodC c] [FCC r]:FCC (FC.slot s c r):=⟨FCOk.slot s CodC.ok FCC.ok⟩
instance (s b:Nat) (r:FC κ El β) [FCC r]:FCC (FC.ptr s b r):=⟨FCOk.ptr s b FCC.ok⟩
instance (s b:Nat) (r:FC κ El β) [FCC r]:FCC (FC.arr s b r):=⟨FCOk.arr s b FCC.ok⟩
instance (s:Nat) (r:FC κ El β) [FCC r]:FCC (FC.nilS s r):=⟨FCOk.nilS s FCC.ok⟩
instance (s f:Nat) (pre caps:List Nat) (r:FC κ El β) [FCC r]:FCC (FC.clo s f pre caps r):=⟨FCOk.clo s f pre caps FCC.ok⟩
instance (b:Nat) (c:CC κ El α) (r:FC κ El β) [CCC c] [FCC r]:FCC (FC.box b c r):=⟨FCOk.box b CCC.ok FCC.ok⟩
instance [KdEq κ] (n:Nat) (k:κ) (s:Bool) (r:FC κ El β) [FCC r]:FCC (FC.own n k s r):=⟨FCOk.own n k s FCC.ok⟩
instance [KdEq κ] (n:Nat) (k:κ) (r:FC κ El β) [FCC r]:FCC (FC.map n k r):=⟨FCOk.map n k FCC.ok⟩
end
section
variable {κ:Type} {El:κ→Type} {S:Sg κ El} {P:Program}
variable {R:Type} {f:Nat} {α β ρ:Type}
def cl (n:Nat) (s:SemT κ El R) (r:Nat→SemT κ El R):Nat→SemT κ El R:=fun f ds bs k=>bif Nat.beq f n then s ds bs k else r f ds bs k
def c0:Nat→SemT κ El R:=fun _ _ _ _=>none
def si (ac:CC κ El α) (s1 s2:SemT κ El R):SemT κ El R:=fun ds bs k=>zxw (ac.dec ds) (s1 ds bs k) (s2 ds bs k)
def s0:SemT κ El R:=fun _ _ _=>none
structure CG (P:Program) (S:Sg κ El) (call:{R:Type}→Nat→SemT κ El R):Prop where
 nat:∀{R:Type},za2 (R:=R) call
 ok:∀{R:Type},zbi (R:=R) P S call
structure SG (P:Program) (S:Sg κ El) (f:Nat) (sem:{R:Type}→SemT κ El R):Prop where
 nat:∀{R:Type},zf1 (R:=R) sem
 ok:∀{R:Type},zl2 (R:=R) P S f sem
theorem cg0:CG P S (fun {R}=>(c0:Nat→SemT κ El R)):=⟨zqt,zwb⟩
theorem cgc {n:Nat} {s:{R:Type}→SemT κ El R} {r:{R:Type}→Nat→SemT κ El R} (h:SG P S n @s) (hr:CG P S @r):CG P S (fun {R}=>cl n (s (R:=R)) (r (R:=R))):=⟨znz h.nat hr.nat,zqu h.ok hr.ok⟩
theorem sg0:SG P S f (fun {R}=>(s0:SemT κ El R)):=⟨zacn,zaoj⟩
theorem sgi {ac:CC κ El α} {s1 s2:{R:Type}→SemT κ El R} (h1:SG P S f @s1) (h2:SG P S f @s2):SG P S f (fun {R}=>si ac (s1 (R:=R)) (s2 (R:=R))):=⟨z42 ac h1.nat h2.nat,zaco ac h1.ok h2.ok⟩
theorem sgP {ac:CC κ El α} {rc:Cod κ El ρ} {F:α→Option ρ} (h:∀ds a r,ac.dec ds=some a→F a=some r→Con P S f ds [] (rc.enc r) []):SG P S f (fun {R}=>(semP ac rc F:SemT κ El R)):=⟨zacr,zaon h⟩
theorem sgM {ac:CC κ El α} {bc:BC κ El β} {rc:Cod κ El ρ} {F:α→β→Option (ρ×β)} (h:∀ds bs a b r b',ac.dec ds=some a→bc.dec bs=some b→F a b=some (r,b')→Con P S f ds bs (rc.enc r) (bc.enc b')):SG P S f (fun {R}=>(semM ac bc rc F:SemT κ El R)):=⟨zacp,zaol h⟩
theorem sgN {ac:CC κ El α} {cc:CC κ El ρ} {F:α→Option ρ} (h:∀ds a r,ac.dec ds=some a→F a=some r→Con P S f ds [] (.tup []) [cc.enc r]):SG P S f (fun {R}=>(semN ac cc F:SemT κ El R)):=⟨zacq,zaom h⟩
theorem SG.con {ac:CC κ El α} {rc:Cod κ El ρ} {F:α→Option ρ} (h:SG P S f (fun {R}=>(semP ac rc F:SemT κ El R))) {ds:List (D κ El)} {a:α} {r:ρ} (hd:ac.dec ds=some a) (hf:F a=some r):Con P S f ds [] (rc.enc r) []:=by
 obtain ⟨d,bs',h1,h2⟩:=h.ok ds [] (fun d bs=>some (d,bs)) (rc.enc r,[]) (by unfold semP;simp[hd,hf])
 cases h1
 exact h2
abbrev Lp (κ:Type) (El:κ→Type) (R:Type):=Nat→St κ El→(Ex→St κ El→Option R)→Option R
def lp (n:Nat) (s:St κ El→(Ex→St κ El→Option R)→Option R) (r:Lp κ El R):Lp κ El R:=fun i st k=>bif Nat.beq i n then s st k else r i st k
def l0:Lp κ El R:=fun _ _ _=>none
def zace (outk:{R:Type}→β→(Ex→St κ El→Option R)→Option R) (b:β):Ex×St κ El:=match outk b (fun e s=>some (e,s)) with
 |some p=>p
 |none=>(.normal,⟨[],[],[]⟩)
variable [KdEq κ] {m:Nat} {fn:Func} {loops:{R:Type}→Lp κ El R} {call:{R:Type}→Nat→SemT κ El R}
theorem zaxz {id:Nat} {pr:St κ El→Option (St κ El)} {fc:FC κ El α} {step:α→Option (α⊕β)} {outs:Ex→St κ El→Option β} {outk:{R:Type}→β→(Ex→St κ El→Option R)→Option R}
 (G:GoodP P S) (hat:P.funcs[f]?=some fn) {ids:List Nat} (fb:fnB P f fn ids=true) (hm:id∈ids) (cc:CG P S @call) {inn:List Nat} (hinn:(zaj (zbp fn id)).map zap=inn) (hl:∀i∈inn,zae P S m fn @loops i)
 (el:∀a,evc P S call (loops (R:=α⊕β)) (zbp fn id) (fc.enc a) (zxc pr fc outs)=step a)
 (hp:PrTo P S m pr fc) (ho:zyq P S m (zace @outk) outs) (hk:∀{R:Type} b (k:Ex→St κ El→Option R),outk b k=k (zace @outk b).1 (zace @outk b).2)
 (heq:∀{R:Type} (st:St κ El) (k:Ex→St κ El→Option R),loops id st k=semL pr fc step outk st k):zae P S m fn @loops id:=by
 obtain ⟨code,fok,hn,hids⟩:=zbe hat fb
 exact z3y (zace @outk) G fok hids hn hm cc.nat cc.ok hinn hl el hp ho hk heq
theorem ptC {ta:List (Nat×Nat×κ)} {se ss bs as:List Nat} {fc:FC κ El α} [FCC fc] (sgk:SgOk S) (hh:zj8 m ta bs as fc.bs fc.as=true):PrTo P S m (prep ta se ss bs as) fc:=zaoa sgk FCC.ok hh
theorem prC {rs ps bs:List Nat} {fc:FC κ El α} [FCC fc] (sgk:SgOk S) (hh:zj8 (κ:=κ) m [] bs [] fc.bs fc.as=true):PrTo P S m (zne rs ps bs) fc:=zxy sgk FCC.ok hh
theorem conD {ac:CC κ El α} {rc:Cod κ El ρ} {F:α→Option ρ} [CCC ac] [CodC rc] (G:GoodP P S) (hat:P.funcs[f]?=some fn) {ids:List Nat} (fb:fnB P f fn ids=true) (hmd:S.md f=.data) (cc:CG P S @call)
 (hl:∀i∈ids,zae P S 0 fn @loops i) (e:∀a,runF P S call (loops (R:=ρ)) fn (ac.enc a) [] (retP rc)=F a):SG P S f (fun {R}=>(semP ac rc F:SemT κ El R)):=by
 obtain ⟨code,fok,hn,hids⟩:=zbe hat fb
 exact sgP (z9v G G.ok.mixed fok cc.nat cc.ok CCC.ok CodC.ok hmd (zw6 fok hids hn hl) e)
theorem conM {ac:CC κ El α} {cb:CC κ El β} {rc:Cod κ El ρ} {F:α→β→Option (ρ×β)} [CCC ac] [CCC cb] [CodC rc] (G:GoodP P S) (hat:P.funcs[f]?=some fn) {ids:List Nat} (fb:fnB P f fn ids=true) (hmd:S.md f=.mut) (cc:CG P S @call)
 (hl:∀i∈ids,zae P S 1 fn @loops i) (e:∀a b,runF P S call (loops (R:=ρ×β)) fn (ac.enc a) ((BC.one cb).enc b) (retM rc (BC.one cb))=F a b):SG P S f (fun {R}=>(semM ac (BC.one cb) rc F:SemT κ El R)):=by
 obtain ⟨code,fok,hn,hids⟩:=zbe hat fb
 exact sgM (zaiv G G.ok.mixed fok cc.nat cc.ok CCC.ok (BCOk.one CCC.ok) CodC.ok (m:=1) (fun _=>rfl) (by show 1<99999;decide) hmd (zw6 fok hids hn hl) e)
theorem conN {ac:CC κ El α} {rc:CC κ El ρ} {F:α→Option ρ} [CCC ac] [CCC rc] (G:GoodP P S) (hat:P.funcs[f]?=some fn) {ids:List Nat} (fb:fnB P f fn ids=true) (hmd:S.md f=.newb) (cc:CG P S @call)
 (hl:∀i∈ids,zae P S 0 fn @loops i) (e:∀a,zsf P S call (loops (R:=ρ)) fn (ac.enc a) (retN rc)=F a):SG P S f (fun {R}=>(semN ac rc F:SemT κ El R)):=by
 obtain ⟨code,fok,hn,hids⟩:=zbe hat fb
 exact sgN (z9x G G.ok.mixed fok cc.nat cc.ok CCC.ok CCC.ok hmd (zw6 fok hids hn hl) e)
theorem conF {ac:CC κ El α} {kr:κ} {F:α→Option (List (El kr))} [CCC ac] (G:GoodP P S) (hat:P.funcs[f]?=some fn) {ids:List Nat} (fb:fnB P f fn ids=true) (hmd:S.md f=.fresh) (cc:CG P S @call)
 (hl:∀i∈ids,zae P S 0 fn @loops i) (e:∀a,zdf P S call (loops (R:=List (El kr))) fn (ac.enc a) (retP (Cod.lst kr))=F a):SG P S f (fun {R}=>(semP ac (Cod.lst kr) F:SemT κ El R)):=by
 obtain ⟨code,fok,hn,hids⟩:=zbe hat fb
 exact sgP (zz0 G G.ok.mixed fok cc.nat cc.ok CCC.ok hmd (zw6 fok hids hn hl) e)
theorem conS {k0 kr:κ} {F:List (El k0)×Unit→Option (List (El kr))} (G:GoodP P S) (hat:P.funcs[f]?=some fn) {ids:List Nat} (fb:fnB P f fn ids=true) (hmd:S.md f=.fresh) (cc:CG P S @call)
 (hl:∀i∈ids,zae P S 0 fn @loops i) (e:∀a,zdf P S call (loops (R:=List (El kr))) fn [.lsn k0 a] (retP (Cod.lst kr))=F (a,()))
 (e0:zdf P S call (loops (R:=List (El kr))) fn [.nil] (retP (Cod.lst kr))=F ([],())):SG P S f (fun {R}=>(semP (CC.cons (Cod.lst k0) CC.nil) (Cod.lst kr) F:SemT κ El R)):=by
 obtain ⟨code,fok,hn,hids⟩:=zbe hat fb
 exact sgP (z1k G fok cc.nat cc.ok hmd (zw6 fok hids hn hl) e e0)
theorem conI {ac:CC κ El α} {kr:κ} {F:List (El kr)×α→Option (List (El kr))} [CCC ac] (G:GoodP P S) (hat:P.funcs[f]?=some fn) {ids:List Nat} (fb:fnB P f fn ids=true) (hmd:S.md f=.inpl) (cc:CG P S @call)
 (hl:∀i∈ids,zae P S MA fn @loops i) (e:∀a,zse P S call (loops (R:=List (El kr))) fn kr a.1 (ac.enc a.2) (retP (Cod.lst kr))=F a):SG P S f (fun {R}=>(semP (CC.cons (Cod.lst kr) ac) (Cod.lst kr) F:SemT κ El R)):=by
 obtain ⟨code,fok,hn,hids⟩:=zbe hat fb
 exact sgP (z9w G G.ok.mixed fok cc.nat cc.ok CCC.ok hmd (zw6 fok hids hn hl) e)
end
end Go.Proofs.YtpaidiaknfhclaaGreatDoor.Ev
namespace Go.Proofs.YtpaidiaknfhclaaGreatDoor.Ev
open Go
section
variable {κ:Type} {El:κ→Type}
inductive OC (κ:Type) (El:κ→Type):Type→Type 1
 |x {α:Type} (i:Nat) (ss bs as:List Nat) (fo:FC κ El α) [h:FCC fo]:OC κ El α
 |r {α:Type} (rs ps bs:List Nat) (fo:FC κ El α) [h:FCC fo]:OC κ El α
 |xs {α β:Type} (i:Nat) (ss bs as:List Nat) (fo:FC κ El α) [h:FCC fo] (rest:OC κ El β):OC κ El (α⊕β)
def OC.outs {β γ:Type}:OC κ El β→(β→γ)→Ex→St κ El→Option γ
 |.x i ss bs as fo (h:=_),f,e,st=>(match e with | .exit j=>bif Nat.beq j i then zja (prep [] [] ss bs as) fo st f else none|_=>none)
 |.r rs ps bs fo (h:=_),f,e,st=>(match e with | .ret=>zja (zne rs ps bs) fo st f|_=>none)
 |.xs i ss bs as fo rest (h:=_),f,e,st=>(match e with
  |.exit j=>bif Nat.beq j i then zja (prep [] [] ss bs as) fo st (fun a=>f (.inl a)) else rest.outs (fun y=>f (.inr y)) (.exit j) st
  |.ret=>rest.outs (fun y=>f (.inr y)) .ret st
  |.normal=>none)
def OC.outk {β R:Type}:OC κ El β→β→(Ex→St κ El→Option R)→Option R
 |.x i _ _ _ fo (h:=_),b,k=>k (.exit i) (fo.enc b)
 |.r _ _ _ fo (h:=_),b,k=>k .ret (fo.enc b)
 |.xs i _ _ _ fo rest (h:=_),b,k=>(match b with | .inl a=>k (.exit i) (fo.enc a) | .inr y=>rest.outk y k)
def OC.out {β:Type}:OC κ El β→β→Ex×St κ El
 |.x i _ _ _ fo (h:=_),b=>(.exit i,fo.enc b)
 |.r _ _ _ fo (h:=_),b=>(.ret,fo.enc b)
 |.xs i _ _ _ fo rest (h:=_),b=>(match b with | .inl a=>(.exit i,fo.enc a) | .inr y=>rest.out y)
def OC.good {β:Type} (m:Nat):OC κ El β→Bool
 |.x _ _ bs as fo (h:=_)=>zj8 (κ:=κ) m [] bs as fo.bs fo.as
 |.r _ _ bs fo (h:=_)=>zj8 (κ:=κ) m [] bs [] fo.bs fo.as
 |.xs _ _ bs as fo rest (h:=_)=>zj8 (κ:=κ) m [] bs as fo.bs fo.as&&rest.good m
theorem OC.outk_out {β R:Type} (k:Ex→St κ El→Option R):∀(o:OC κ El β) (b:β),o.outk b k=k (o.out b).1 (o.out b).2:=by
 intro o
 induction o with
 |x=>intro b;simp only[OC.outk,OC.out]
 |r=>intro b;simp only[OC.outk,OC.out]
 |xs i ss bs as fo rest ih=>
  intro b
  cases b with
  |inl x=>simp only[OC.outk,OC.out]
  |inr y=>simp only[OC.outk,OC.out];exact ih y
end
section
variable {κ:Type} {El:κ→Type} {S:Sg κ El} {P:Program} {m:Nat} [KdEq κ]
theorem OC.ok {β:Type} (sgk:SgOk S):∀(o:OC κ El β),o.good m=true→∀{γ:Type} (f:β→γ) (e:Ex) (st:St κ El) (c:γ),o.outs f e st=some c→∃b,c=f b∧(o.out b).1=e∧ToOk P S m st (o.out b).2:=by
 intro o
 induction o with
 |x i ss bs as fo=>
  intro hg γ f e st c h
  simp only[OC.good]at hg
  cases e with
  |exit j=>
   simp only[OC.outs,zad]at h
   split at h
   ·rename_i e
    rw[Nat.beq_eq]at e;subst e
    obtain ⟨x,rfl,hto⟩:=zfa (P:=P) (S:=S) (m:=m) (ptC sgk hg) h
    refine ⟨x,rfl,?_⟩
    simp only[OC.out]
    exact ⟨trivial,hto⟩
   ·cases h
  |ret=>simp only[OC.outs]at h;cases h
  |normal=>simp only[OC.outs]at h;cases h
 |r rs ps bs fo=>
  intro hg γ f e st c h
  simp only[OC.good]at hg
  cases e with
  |exit j=>simp only[OC.outs]at h;cases h
  |normal=>simp only[OC.outs]at h;cases h
  |ret=>
   simp only[OC.outs]at h
   obtain ⟨x,rfl,hto⟩:=zfa (P:=P) (S:=S) (m:=m) (prC sgk hg) h
   refine ⟨x,rfl,?_⟩
   simp only[OC.out]
   exact ⟨trivial,hto⟩
 |xs i ss bs as fo rest ih=>
  intro hg γ f e st c h
  simp only[OC.good,Bool.and_eq_true]at hg
  cases e with
  |normal=>simp only[OC.outs]at h;cases h
  |ret=>
   simp only[OC.outs]at h
   obtain ⟨b,h1,h2,h3⟩:=ih hg.2 _ _ _ _ h
   refine ⟨.inr b,h1,?_⟩
   simp only[OC.out]
   exact ⟨h2,h3⟩
  |exit j=>
   simp only[OC.outs,zad]at h
   split at h
   ·rename_i e
    rw[Nat.beq_eq]at e;subst e
    obtain ⟨x,rfl,hto⟩:=zfa (P:=P) (S:=S) (m:=m) (ptC sgk hg.1) h
    refine ⟨.inl x,rfl,?_⟩
    simp only[OC.out]
    exact ⟨trivial,hto⟩
   ·obtain ⟨b,h1,h2,h3⟩:=ih hg.2 _ _ _ _ h
    refine ⟨.inr b,h1,?_⟩
    simp only[OC.out]
    exact ⟨h2,h3⟩
structure LD (κ:Type) (El:κ→Type) (α β:Type) where
 ta:List (Nat×Nat×κ)
 se:List Nat
 ss:List Nat
 bs:List Nat
 as:List Nat
 fc:FC κ El α
 [ok:FCC fc]
 step:α→Option (α⊕β)
 oc:OC κ El β
abbrev LD.pr {α β:Type} (L:LD κ El α β):St κ El→Option (St κ El):=prep L.ta L.se L.ss L.bs L.as
abbrev LD.sem {α β R:Type} (L:LD κ El α β):St κ El→(Ex→St κ El→Option R)→Option R:=semL L.pr L.fc L.step (fun b k=>L.oc.outk b k)
abbrev LD.leaf {α β:Type} (L:LD κ El α β):Ex→St κ El→Option (α⊕β):=zxc L.pr L.fc (L.oc.outs (fun b=>b))
def LD.good {α β:Type} (L:LD κ El α β) (m:Nat) (fn:Func) (n:Nat) (ids inn:List Nat):Bool:=
 ids.any (Nat.beq n)&&(fnB.beqL ((zaj (zbp fn n)).map zap) inn&&(zj8 m L.ta L.bs L.as L.fc.bs L.fc.as&&L.oc.good m))
variable {f:Nat} {α β ρ:Type} {fn:Func} {loops:{R:Type}→Lp κ El R} {call:{R:Type}→Nat→SemT κ El R}
theorem zar {n:Nat} (L:LD κ El α β) (G:GoodP P S) (hat:P.funcs[f]?=some fn) {ids:List Nat} (fb:fnB P f fn ids=true) (cc:CG P S @call) {inn:List Nat} (hl:∀i∈inn,zae P S m fn @loops i)
 (el:∀a,evc P S call (loops (R:=α⊕β)) (zbp fn n) (L.fc.enc a) L.leaf=L.step a) (hb:L.good m fn n ids inn=true)
 (heq:∀{R:Type} (st:St κ El) (k:Ex→St κ El→Option R),loops n st k=L.sem st k):zae P S m fn @loops n:=by
 obtain ⟨code,fok,hn,hids⟩:=zbe hat fb
 unfold LD.good at hb
 simp only[Bool.and_eq_true]at hb
 obtain ⟨h1,h2,h3,h4⟩:=hb
 have:=L.ok
 refine z3y L.oc.out G fok hids hn (zdg.1 h1) cc.nat cc.ok (zzi h2) hl el (ptC G.sgk h3) ?_ (fun b k=>L.oc.outk_out k b) heq
 intro e st b h
 obtain ⟨b',e1,e2,e3⟩:=L.oc.ok (P:=P) G.sgk h4 _ _ _ _ h
 rw[e1]
 exact ⟨e2,e3⟩
theorem conE {ac:CC κ El α} {rc:Cod κ El ρ} {F:α→Option ρ} [CCC ac] [CodC rc] (G:GoodP P S) (hat:P.funcs[f]?=some fn) (fb:fnB P f fn []=true) (hmd:S.md f=.data) (cc:CG P S @call)
 (e:∀a,runF P S call l0 fn (ac.enc a) [] (retP rc)=F a):SG P S f (fun {R}=>(semP ac rc F:SemT κ El R)):=conD (loops:=l0) G hat fb hmd cc zaa e
end
end Go.Proofs.YtpaidiaknfhclaaGreatDoor.Ev
namespace Go.Proofs.YtpaidiaknfhclaaGreatDoor.Ev
open Go
def zip {α:Type} (s:List α) (i:Int) (v:List α):Option (List α):=
 match v with
 | [y]=>bif decide (0≤i)&&decide (i≤(s.length:Int))&&decide (s.length+1≤1073741824) then some (s.take i.toNat++y::s.drop i.toNat) else none
 |_=>none
def zmo {α:Type} (s:List α) (i j:Int):Option (List α):=
 bif decide (0≤i)&&decide (i≤j)&&decide (j≤(s.length:Int))&&decide (s.length≤1073741824) then some (s.take i.toNat++s.drop j.toNat) else none
def insR {α:Type} (p:α→α→Option Int) (x:α):List α→Option (List α)
 | []=>some [x]
 |y::ys=>match p x y with
  |some c=>bif decide (c<0) then (match insR p x ys with|some r=>some (y::r)|none=>none) else some (x::y::ys)
  |none=>none
def zawy {α:Type} (p:α→α→Option Int):List α→List α→Option (List α)
 |acc,[]=>some acc.reverse
 |acc,x::xs=>match insR p x acc with
  |some acc'=>zawy p acc' xs
  |none=>none
def zaxt {α:Type} (p:α→α→Option Int) (s:List α):Option (List α):=bif decide (s.length<20) then zawy p [] s else none
def dcd:List UInt8→Nat×Nat
 | []=>(0,0)
 |a::r=>
  if 32≤a.toNat∧a.toNat<127 then (a.toNat,1)
  else if 194≤a.toNat∧a.toNat<224 then
   (match r with
   |b::_=>if (128≤b.toNat∧b.toNat<192)∧160≤(a.toNat-192)*64+b.toNat-128 then ((a.toNat-192)*64+b.toNat-128,2) else (0,0)
   | []=>(0,0))
  else if 224≤a.toNat∧a.toNat<240 then
   (match r with
   |b::c::_=>
    if ((128≤b.toNat∧b.toNat<192)∧(128≤c.toNat∧c.toNat<192))∧2048≤(a.toNat-224)*4096+(b.toNat-128)*64+c.toNat-128∧
     ((a.toNat-224)*4096+(b.toNat-128)*64+c.toNat-128<55296∨57343<(a.toNat-224)*4096+(b.toNat-128)*64+c.toNat-128) then
     ((a.toNat-224)*4096+(b.toNat-128)*64+c.toNat-128,3) else (0,0)
   |_=>(0,0))
  else (0,0)
def vldN:Nat→List UInt8→Bool
 |0,_=>true
 |n+1,l=>if l=[] then true else if (dcd l).2=0 then false else vldN n (l.drop (dcd l).2)
def vld (s:List UInt8):Bool:=vldN s.length s
def wid (l:List UInt8):Nat:=if (dcd l).2<1 then 1 else (dcd l).2
def blk (c:Nat):Bool:=c==32||c==160
def clnN:Nat→List UInt8→List UInt8→Bool→List UInt8
 |0,_,out,_=>out
 |n+1,l,out,gap=>if l=[] then out else
  if blk (dcd l).1 then clnN n (l.drop (wid l)) out true
  else clnN n (l.drop (wid l)) ((if gap&&!(out==[]) then out++[32] else out)++l.take (wid l)) false
def cln (s:List UInt8):List UInt8:=clnN s.length s [] false
def pdqL {α:Type} [Inhabited α] (cf:α→α→Int) (s:List α):List α:=(Go.Sort.pdq (fun x y=>decide (cf x y<0)) s.toArray 0 s.length (Go.Lib.bitLen s.length) true true).toList
def zf5 (x y:Int):Int:=if x=0 then y else x
end Go.Proofs.YtpaidiaknfhclaaGreatDoor.Ev
namespace Go.Proofs.YtpaidiaknfhclaaGreatDoor
set_option maxRecDepth 100000
open Ev
open Go (IntKind)
structure V4 (α:Type) where
 x0:α
 x1:α
 x2:α
 x3:α
structure V7 (α:Type) where
 x0:α
 x1:α
 x2:α
 x3:α
 x4:α
 x5:α
 x6:α
structure Custody where
 State:Int
 Branch:Int
 Who:Int
 To:Int
structure Item where
 ID:Int
 Record:Int
 Branch:Int
 Kind:Int
 Price:Int
 Call:List UInt8
 Custody:Custody
structure Patron where
 ID:Int
 Kind:Int
 Branch:Int
 Until:Int
 Stopped:Bool
 Name:List UInt8
structure Loan where
 Item:Int
 Patron:Int
 Out:Int
 Due:Int
 Renewals:Int
 Recalled:Bool
structure Hold where
 ID:Int
 Patron:Int
 Record:Int
 Item:Int
 Pickup:Int
 Placed:Int
 State:Int
 Got:Int
 Until:Int
 Asleep:Int
 Rank:Int
structure Charge where
 ID:Int
 Patron:Int
 Item:Int
 Day:Int
 Kind:Int
 Amount:Int
 Paid:Int
structure Rule where
 Patron:Int
 Item:Int
 Branch:Int
 Days:Int
 Renewals:Int
 Fine:Int
 Grace:Int
 MaxFine:Int
 Loans:Int
 Shelf:Int
 Recall:Int
 Fixed:Int
 Rank:Int
structure Calendar where
 Week:Int
 Closed:List Int
structure Move where
 Day:Int
 Item:Int
 Kind:Int
 Branch:Int
 Who:Int
structure Circ where
 Today:Int
 Items:List Item
 Patrons:List Patron
 Loans:List Loan
 Holds:List Hold
 Charges:List Charge
 Rules:List Rule
 Cals:V4 Calendar
 Moves:List Move
 NextHold:Int
 NextCharge:Int
 Local:Bool
structure Circ_desk where
 c:Circ
 err:Int
structure Weed_candidate where
 id_:Int
 record:Int
 loans:Int
 last:Int
structure MapI where
 key:Int
 val:Int
structure Utf8_acceptRange where
 lo:Int
 hi:Int
inductive Kd where
 |kItem
 |kPatron
 |kLoan
 |kHold
 |kCharge
 |kRule
 |ki64
 |kMove
 |kbool
 |kWeed_candidate
 |kMapI
 |kSi64
 |ku8
 |kUtf8_acceptRange
 |ku16
abbrev El:Kd→Type
 |.kItem=>Item
 |.kPatron=>Patron
 |.kLoan=>Loan
 |.kHold=>Hold
 |.kCharge=>Charge
 |.kRule=>Rule
 |.ki64=>Int
 |.kMove=>Move
 |.kbool=>Bool
 |.kWeed_candidate=>Weed_candidate
 |.kMapI=>MapI
 |.kSi64=>List Int
 |.ku8=>Int
 |.kUtf8_acceptRange=>Utf8_acceptRange
 |.ku16=>Int
abbrev DD:=D Kd El
abbrev SS:=St Kd El
abbrev Sm (R:Type):=SemT Kd El R
abbrev mkld {α β:Type} (ta:List (Nat×Nat×Kd)) (se ss bs as:List Nat) (fc:FC Kd El α) [FCC fc] (step:α→Option (α⊕β)) (oc:OC Kd El β):LD Kd El α β:=⟨ta,se,ss,bs,as,fc,step,oc⟩
instance:KdEq Kd where
 dec:=fun a b=>match a,b with
  |.kItem,.kItem=>some ⟨rfl⟩
  |.kPatron,.kPatron=>some ⟨rfl⟩
  |.kLoan,.kLoan=>some ⟨rfl⟩
  |.kHold,.kHold=>some ⟨rfl⟩
  |.kCharge,.kCharge=>some ⟨rfl⟩
  |.kRule,.kRule=>some ⟨rfl⟩
  |.ki64,.ki64=>some ⟨rfl⟩
  |.kMove,.kMove=>some ⟨rfl⟩
  |.kbool,.kbool=>some ⟨rfl⟩
  |.kWeed_candidate,.kWeed_candidate=>some ⟨rfl⟩
  |.kMapI,.kMapI=>some ⟨rfl⟩
  |.kSi64,.kSi64=>some ⟨rfl⟩
  |.ku8,.ku8=>some ⟨rfl⟩
  |.kUtf8_acceptRange,.kUtf8_acceptRange=>some ⟨rfl⟩
  |.ku16,.ku16=>some ⟨rfl⟩
  |_,_=>none
abbrev wr (k:IntKind) (n:Int):Int:=IntKind.wrap k n
def zrg (x:Custody):List DD:=[.int .i64 x.State,.int .i64 x.Branch,.int .i64 x.Who,.int .i64 x.To]
def zax:CC Kd El Custody:=(CC.cons (Cod.int .i64) (CC.cons (Cod.int .i64) (CC.cons (Cod.int .i64) (CC.cons (Cod.int .i64) CC.nil)))).iso zrg (fun p=>⟨p.1,p.2.1,p.2.2.1,p.2.2.2.1⟩)
def z91 (x:Item):List DD:=[.int .i64 x.ID,.int .i64 x.Record,.int .i64 x.Branch,.int .i64 x.Kind,.int .i64 x.Price,.str x.Call,.int .i64 x.Custody.State,.int .i64 x.Custody.Branch,.int .i64 x.Custody.Who,.int .i64 x.Custody.To]
def za0:CC Kd El Item:=(CC.cons (Cod.int .i64) (CC.cons (Cod.int .i64) (CC.cons (Cod.int .i64) (CC.cons (Cod.int .i64) (CC.cons (Cod.int .i64) (CC.cons Cod.str (CC.cons (Cod.int .i64) (CC.cons (Cod.int .i64) (CC.cons (Cod.int .i64) (CC.cons (Cod.int .i64) CC.nil)))))))))).iso z91 (fun p=>⟨p.1,p.2.1,p.2.2.1,p.2.2.2.1,p.2.2.2.2.1,p.2.2.2.2.2.1,⟨p.2.2.2.2.2.2.1,p.2.2.2.2.2.2.2.1,p.2.2.2.2.2.2.2.2.1,p.2.2.2.2.2.2.2.2.2.1⟩⟩)
def zw1 (x:Patron):List DD:=[.int .i64 x.ID,.int .i64 x.Kind,.int .i64 x.Branch,.int .i64 x.Until,.bool x.Stopped,.str x.Name]
def zba:CC Kd El Patron:=(CC.cons (Cod.int .i64) (CC.cons (Cod.int .i64) (CC.cons (Cod.int .i64) (CC.cons (Cod.int .i64) (CC.cons Cod.bool (CC.cons Cod.str CC.nil)))))).iso zw1 (fun p=>⟨p.1,p.2.1,p.2.2.1,p.2.2.2.1,p.2.2.2.2.1,p.2.2.2.2.2.1⟩)
def z92 (x:Loan):List DD:=[.int .i64 x.Item,.int .i64 x.Patron,.int .i64 x.Out,.int .i64 x.Due,.int .i64 x.Renewals,.bool x.Recalled]
def zcp:CC Kd El Loan:=(CC.cons (Cod.int .i64) (CC.cons (Cod.int .i64) (CC.cons (Cod.int .i64) (CC.cons (Cod.int .i64) (CC.cons (Cod.int .i64) (CC.cons Cod.bool CC.nil)))))).iso z92 (fun p=>⟨p.1,p.2.1,p.2.2.1,p.2.2.2.1,p.2.2.2.2.1,p.2.2.2.2.2.1⟩)
def z90 (x:Hold):List DD:=[.int .i64 x.ID,.int .i64 x.Patron,.int .i64 x.Record,.int .i64 x.Item,.int .i64 x.Pickup,.int .i64 x.Placed,.int .i64 x.State,.int .i64 x.Got,.int .i64 x.Until,.int .i64 x.Asleep,.int .i64 x.Rank]
def zbj:CC Kd El Hold:=(CC.cons (Cod.int .i64) (CC.cons (Cod.int .i64) (CC.cons (Cod.int .i64) (CC.cons (Cod.int .i64) (CC.cons (Cod.int .i64) (CC.cons (Cod.int .i64) (CC.cons (Cod.int .i64) (CC.cons (Cod.int .i64) (CC.cons (Cod.int .i64) (CC.cons (Cod.int .i64) (CC.cons (Cod.int .i64) CC.nil))))))))))).iso z90 (fun p=>⟨p.1,p.2.1,p.2.2.1,p.2.2.2.1,p.2.2.2.2.1,p.2.2.2.2.2.1,p.2.2.2.2.2.2.1,p.2.2.2.2.2.2.2.1,p.2.2.2.2.2.2.2.2.1,p.2.2.2.2.2.2.2.2.2.1,p.2.2.2.2.2.2.2.2.2.2.1⟩)
def zw0 (x:Charge):List DD:=[.int .i64 x.ID,.int .i64 x.Patron,.int .i64 x.Item,.int .i64 x.Day,.int .i64 x.Kind,.int .i64 x.Amount,.int .i64 x.Paid]
def zdi:CC Kd El Charge:=(CC.cons (Cod.int .i64) (CC.cons (Cod.int .i64) (CC.cons (Cod.int .i64) (CC.cons (Cod.int .i64) (CC.cons (Cod.int .i64) (CC.cons (Cod.int .i64) (CC.cons (Cod.int .i64) CC.nil))))))).iso zw0 (fun p=>⟨p.1,p.2.1,p.2.2.1,p.2.2.2.1,p.2.2.2.2.1,p.2.2.2.2.2.1,p.2.2.2.2.2.2.1⟩)
def z95 (x:Rule):List DD:=[.int .i64 x.Patron,.int .i64 x.Item,.int .i64 x.Branch,.int .i64 x.Days,.int .i64 x.Renewals,.int .i64 x.Fine,.int .i64 x.Grace,.int .i64 x.MaxFine,.int .i64 x.Loans,.int .i64 x.Shelf,.int .i64 x.Recall,.int .i64 x.Fixed,.int .i64 x.Rank]
def zc8:CC Kd El Rule:=(CC.cons (Cod.int .i64) (CC.cons (Cod.int .i64) (CC.cons (Cod.int .i64) (CC.cons (Cod.int .i64) (CC.cons (Cod.int .i64) (CC.cons (Cod.int .i64) (CC.cons (Cod.int .i64) (CC.cons (Cod.int .i64) (CC.cons (Cod.int .i64) (CC.cons (Cod.int .i64) (CC.cons (Cod.int .i64) (CC.cons (Cod.int .i64) (CC.cons (Cod.int .i64) CC.nil))))))))))))).iso z95 (fun p=>⟨p.1,p.2.1,p.2.2.1,p.2.2.2.1,p.2.2.2.2.1,p.2.2.2.2.2.1,p.2.2.2.2.2.2.1,p.2.2.2.2.2.2.2.1,p.2.2.2.2.2.2.2.2.1,p.2.2.2.2.2.2.2.2.2.1,p.2.2.2.2.2.2.2.2.2.2.1,p.2.2.2.2.2.2.2.2.2.2.2.1,p.2.2.2.2.2.2.2.2.2.2.2.2.1⟩)
def zoe (x:Calendar):List DD:=[.int .i64 x.Week,.lst .ki64 x.Closed]
def zaw:CC Kd El Calendar:=(CC.cons (Cod.int .i64) (CC.cons (Cod.lst Kd.ki64) CC.nil)).iso zoe (fun p=>⟨p.1,p.2.1⟩)
def z94 (x:Move):List DD:=[.int .i64 x.Day,.int .i64 x.Item,.int .i64 x.Kind,.int .i64 x.Branch,.int .i64 x.Who]
def zgw:CC Kd El Move:=(CC.cons (Cod.int .i64) (CC.cons (Cod.int .i64) (CC.cons (Cod.int .i64) (CC.cons (Cod.int .i64) (CC.cons (Cod.int .i64) CC.nil))))).iso z94 (fun p=>⟨p.1,p.2.1,p.2.2.1,p.2.2.2.1,p.2.2.2.2.1⟩)
def z9z (x:Circ):List DD:=[.int .i64 x.Today,.lst .kItem x.Items,.lst .kPatron x.Patrons,.lst .kLoan x.Loans,.lst .kHold x.Holds,.lst .kCharge x.Charges,.lst .kRule x.Rules,.int .i64 x.Cals.x0.Week,.lst .ki64 x.Cals.x0.Closed,.int .i64 x.Cals.x1.Week,.lst .ki64 x.Cals.x1.Closed,.int .i64 x.Cals.x2.Week,.lst .ki64 x.Cals.x2.Closed,.int .i64 x.Cals.x3.Week,.lst .ki64 x.Cals.x3.Closed,.lst .kMove x.Moves,.int .i64 x.NextHold,.int .i64 x.NextCharge,.bool x.Local]
def zal:CC Kd El Circ:=(CC.cons (Cod.int .i64) (CC.cons (Cod.lst Kd.kItem) (CC.cons (Cod.lst Kd.kPatron) (CC.cons (Cod.lst Kd.kLoan) (CC.cons (Cod.lst Kd.kHold) (CC.cons (Cod.lst Kd.kCharge) (CC.cons (Cod.lst Kd.kRule) (CC.cons (Cod.int .i64) (CC.cons (Cod.lst Kd.ki64) (CC.cons (Cod.int .i64) (CC.cons (Cod.lst Kd.ki64) (CC.cons (Cod.int .i64) (CC.cons (Cod.lst Kd.ki64) (CC.cons (Cod.int .i64) (CC.cons (Cod.lst Kd.ki64) (CC.cons (Cod.lst Kd.kMove) (CC.cons (Cod.int .i64) (CC.cons (Cod.int .i64) (CC.cons Cod.bool CC.nil))))))))))))))))))).iso z9z (fun p=>⟨p.1,p.2.1,p.2.2.1,p.2.2.2.1,p.2.2.2.2.1,p.2.2.2.2.2.1,p.2.2.2.2.2.2.1,⟨⟨p.2.2.2.2.2.2.2.1,p.2.2.2.2.2.2.2.2.1⟩,⟨p.2.2.2.2.2.2.2.2.2.1,p.2.2.2.2.2.2.2.2.2.2.1⟩,⟨p.2.2.2.2.2.2.2.2.2.2.2.1,p.2.2.2.2.2.2.2.2.2.2.2.2.1⟩,⟨p.2.2.2.2.2.2.2.2.2.2.2.2.2.1,p.2.2.2.2.2.2.2.2.2.2.2.2.2.2.1⟩⟩,p.2.2.2.2.2.2.2.2.2.2.2.2.2.2.2.1,p.2.2.2.2.2.2.2.2.2.2.2.2.2.2.2.2.1,p.2.2.2.2.2.2.2.2.2.2.2.2.2.2.2.2.2.1,p.2.2.2.2.2.2.2.2.2.2.2.2.2.2.2.2.2.2.1⟩)
def zmp (x:Circ_desk):List DD:=[.int .i64 x.c.Today,.lst .kItem x.c.Items,.lst .kPatron x.c.Patrons,.lst .kLoan x.c.Loans,.lst .kHold x.c.Holds,.lst .kCharge x.c.Charges,.lst .kRule x.c.Rules,.int .i64 x.c.Cals.x0.Week,.lst .ki64 x.c.Cals.x0.Closed,.int .i64 x.c.Cals.x1.Week,.lst .ki64 x.c.Cals.x1.Closed,.int .i64 x.c.Cals.x2.Week,.lst .ki64 x.c.Cals.x2.Closed,.int .i64 x.c.Cals.x3.Week,.lst .ki64 x.c.Cals.x3.Closed,.lst .kMove x.c.Moves,.int .i64 x.c.NextHold,.int .i64 x.c.NextCharge,.bool x.c.Local,.int .i64 x.err]
def zav:CC Kd El Circ_desk:=(CC.cons (Cod.int .i64) (CC.cons (Cod.lst Kd.kItem) (CC.cons (Cod.lst Kd.kPatron) (CC.cons (Cod.lst Kd.kLoan) (CC.cons (Cod.lst Kd.kHold) (CC.cons (Cod.lst Kd.kCharge) (CC.cons (Cod.lst Kd.kRule) (CC.cons (Cod.int .i64) (CC.cons (Cod.lst Kd.ki64) (CC.cons (Cod.int .i64) (CC.cons (Cod.lst Kd.ki64) (CC.cons (Cod.int .i64) (CC.cons (Cod.lst Kd.ki64) (CC.cons (Cod.int .i64) (CC.cons (Cod.lst Kd.ki64) (CC.cons (Cod.lst Kd.kMove) (CC.cons (Cod.int .i64) (CC.cons (Cod.int .i64) (CC.cons Cod.bool (CC.cons (Cod.int .i64) CC.nil)))))))))))))))))))).iso zmp (fun p=>⟨⟨p.1,p.2.1,p.2.2.1,p.2.2.2.1,p.2.2.2.2.1,p.2.2.2.2.2.1,p.2.2.2.2.2.2.1,⟨⟨p.2.2.2.2.2.2.2.1,p.2.2.2.2.2.2.2.2.1⟩,⟨p.2.2.2.2.2.2.2.2.2.1,p.2.2.2.2.2.2.2.2.2.2.1⟩,⟨p.2.2.2.2.2.2.2.2.2.2.2.1,p.2.2.2.2.2.2.2.2.2.2.2.2.1⟩,⟨p.2.2.2.2.2.2.2.2.2.2.2.2.2.1,p.2.2.2.2.2.2.2.2.2.2.2.2.2.2.1⟩⟩,p.2.2.2.2.2.2.2.2.2.2.2.2.2.2.2.1,p.2.2.2.2.2.2.2.2.2.2.2.2.2.2.2.2.1,p.2.2.2.2.2.2.2.2.2.2.2.2.2.2.2.2.2.1,p.2.2.2.2.2.2.2.2.2.2.2.2.2.2.2.2.2.2.1⟩,p.2.2.2.2.2.2.2.2.2.2.2.2.2.2.2.2.2.2.2.1⟩)
def zf8 (x:Weed_candidate):List DD:=[.int .i64 x.id_,.int .i64 x.record,.int .i64 x.loans,.int .i64 x.last]
def zbl:CC Kd El Weed_candidate:=(CC.cons (Cod.int .i64) (CC.cons (Cod.int .i64) (CC.cons (Cod.int .i64) (CC.cons (Cod.int .i64) CC.nil)))).iso zf8 (fun p=>⟨p.1,p.2.1,p.2.2.1,p.2.2.2.1⟩)
def z93 (x:MapI):List DD:=[.int .i64 x.key,.int .i64 x.val]
def zqv:CC Kd El MapI:=(CC.cons (Cod.int .i64) (CC.cons (Cod.int .i64) CC.nil)).iso z93 (fun p=>⟨p.1,p.2.1⟩)
def zfo (x:Utf8_acceptRange):List DD:=[.int .u8 x.lo,.int .u8 x.hi]
def zb9:CC Kd El Utf8_acceptRange:=(CC.cons (Cod.int .u8) (CC.cons (Cod.int .u8) CC.nil)).iso zfo (fun p=>⟨p.1,p.2.1⟩)
def zig (x:V4 Calendar):List DD:=[.int .i64 x.x0.Week,.lst .ki64 x.x0.Closed,.int .i64 x.x1.Week,.lst .ki64 x.x1.Closed,.int .i64 x.x2.Week,.lst .ki64 x.x2.Closed,.int .i64 x.x3.Week,.lst .ki64 x.x3.Closed]
def zdz:CC Kd El (V4 Calendar):=(CC.cons (Cod.int .i64) (CC.cons (Cod.lst Kd.ki64) (CC.cons (Cod.int .i64) (CC.cons (Cod.lst Kd.ki64) (CC.cons (Cod.int .i64) (CC.cons (Cod.lst Kd.ki64) (CC.cons (Cod.int .i64) (CC.cons (Cod.lst Kd.ki64) CC.nil)))))))).iso zig (fun p=>⟨⟨p.1,p.2.1⟩,⟨p.2.2.1,p.2.2.2.1⟩,⟨p.2.2.2.2.1,p.2.2.2.2.2.1⟩,⟨p.2.2.2.2.2.2.1,p.2.2.2.2.2.2.2.1⟩⟩)
def zrh (x:V7 Bool):List DD:=[.bool x.x0,.bool x.x1,.bool x.x2,.bool x.x3,.bool x.x4,.bool x.x5,.bool x.x6]
def zbk:CC Kd El (V7 Bool):=(CC.cons Cod.bool (CC.cons Cod.bool (CC.cons Cod.bool (CC.cons Cod.bool (CC.cons Cod.bool (CC.cons Cod.bool (CC.cons Cod.bool CC.nil))))))).iso zrh (fun p=>⟨p.1,p.2.1,p.2.2.1,p.2.2.2.1,p.2.2.2.2.1,p.2.2.2.2.2.1,p.2.2.2.2.2.2.1⟩)
def ccK:(k:Kd)→CC Kd El (El k)
 |.kItem=>za0
 |.kPatron=>zba
 |.kLoan=>zcp
 |.kHold=>zbj
 |.kCharge=>zdi
 |.kRule=>zc8
 |.ki64=>CC.one (Cod.int .i64)
 |.kMove=>zgw
 |.kbool=>CC.one Cod.bool
 |.kWeed_candidate=>zbl
 |.kMapI=>zqv
 |.kSi64=>CC.one (Cod.lst Kd.ki64)
 |.ku8=>CC.one (Cod.int .u8)
 |.kUtf8_acceptRange=>zb9
 |.ku16=>CC.one (Cod.int .u16)
def kdSz:Kd→Nat
 |.kItem=>10
 |.kPatron=>6
 |.kLoan=>6
 |.kHold=>11
 |.kCharge=>7
 |.kRule=>13
 |.ki64=>1
 |.kMove=>5
 |.kbool=>1
 |.kWeed_candidate=>4
 |.kMapI=>2
 |.kSi64=>1
 |.ku8=>1
 |.kUtf8_acceptRange=>2
 |.ku16=>1
def kdOf (t:Nat):Option Kd:=bif Nat.beq t 298 then some .kMapI else bif Nat.beq t 291 then some .ku8 else bif Nat.beq t 290 then some .ku8 else bif Nat.beq t 242 then some .ku16 else bif Nat.beq t 240 then some .kUtf8_acceptRange else bif Nat.beq t 187 then some .ki64 else bif Nat.beq t 79 then some .kRule else bif Nat.beq t 77 then some .kCharge else bif Nat.beq t 75 then some .kHold else bif Nat.beq t 73 then some .kLoan else bif Nat.beq t 71 then some .kPatron else bif Nat.beq t 63 then some .kWeed_candidate else bif Nat.beq t 59 then some .kMove else bif Nat.beq t 53 then some .kItem else bif Nat.beq t 45 then some .ki64 else bif Nat.beq t 28 then some .kSi64 else bif Nat.beq t 6 then some .ku8 else bif Nat.beq t 5 then some .ku8 else bif Nat.beq t 4 then some .kbool else bif Nat.beq t 3 then some .ki64 else bif Nat.beq t 2 then some .ki64 else none
def zay:List Int:=(List.range 256).map fun c=>(Go.Lib.firstT c:Int)
def zao:List Utf8_acceptRange:=(List.range 16).map fun i=>⟨(Go.Lib.accLo i:Int),(Go.Lib.accHi i:Int)⟩
def zbx:List Int:=[0,32770,41316,42344,6160,8268,8320,8704,16,4112,32784,49152,0]
def z13 (t:Nat):Option ((k:Kd)×List (El k)):=bif Nat.beq t 2 then some ⟨.ku16,zbx⟩ else bif Nat.beq t 1 then some ⟨.kUtf8_acceptRange,zao⟩ else bif Nat.beq t 0 then some ⟨.ku8,zay⟩ else none
def mdOf (f:Nat):Md:=bif Nat.beq f 276 then .inpl else bif Nat.beq f 275 then .inpl else bif Nat.beq f 269 then .inpl else bif Nat.beq f 259 then .inpl else bif Nat.beq f 226 then .fresh else bif Nat.beq f 225 then .cons else bif Nat.beq f 211 then .fresh else bif Nat.beq f 210 then .cons else bif Nat.beq f 187 then .cons else bif Nat.beq f 174 then .mut else bif Nat.beq f 172 then .mut else bif Nat.beq f 169 then .fresh else bif Nat.beq f 168 then .cons else bif Nat.beq f 159 then .mut else bif Nat.beq f 156 then .fresh else bif Nat.beq f 114 then .mut else bif Nat.beq f 113 then .mut else bif Nat.beq f 109 then .mut else bif Nat.beq f 108 then .mut else bif Nat.beq f 105 then .mut else bif Nat.beq f 104 then .mut else bif Nat.beq f 103 then .fresh else bif Nat.beq f 102 then .cons else bif Nat.beq f 72 then .mut else bif Nat.beq f 71 then .mut else bif Nat.beq f 68 then .mut else bif Nat.beq f 67 then .mut else bif Nat.beq f 65 then .mut else bif Nat.beq f 64 then .newb else bif Nat.beq f 59 then .inpl else .data
def zatz (t:Nat):Bool:=Nat.beq t 51||(false)
def zan0:MpK Kd El:=mpkI .kMapI MapI.key MapI.val (fun k v=>⟨k,v⟩)
def zau4 (t:Nat):Option (MpK Kd El):=bif Nat.beq t 65 then some zan0 else none
def sg:Sg Kd El:=⟨fun k=>(ccK k).enc,fun k=>(ccK k).dec,kdSz,kdOf,z13,mdOf,zatz,zau4⟩
def zbr (x y:Custody):Bool:=(x.State==y.State&&(x.Branch==y.Branch&&(x.Who==y.Who&&(x.To==y.To&&true))))
abbrev ZC:=CC Kd El
abbrev ZF:=FC Kd El
abbrev ZD:=Cod Kd El
abbrev Zi:ZD Int:=Cod.int .i64
abbrev Zb:ZD Bool:=Cod.bool
abbrev Zl (k:Kd):ZD (List (El k)):=Cod.lst k
abbrev Zn:ZC Unit:=CC.nil
abbrev Zz:ZF Unit:=FC.nil
section
variable {α β:Type}
abbrev Zc:ZD α→ZC β→ZC (α×β):=CC.cons
abbrev Zs:Nat→ZD α→ZF β→ZF (α×β):=FC.slot
abbrev Zp:Nat→Nat→ZF β→ZF β:=FC.ptr
abbrev Zx:Nat→ZC α→ZF β→ZF (α×β):=FC.box
end
end Go.Proofs.YtpaidiaknfhclaaGreatDoor
namespace Go.Proofs.YtpaidiaknfhclaaGreatDoor
open Ev
open Go (IntKind)
def qdr (s:List Item) (i:Int) (v:List Item):Option (List Item):=zip s i v
def qdo (s:List Patron) (i:Int) (v:List Patron):Option (List Patron):=zip s i v
def qdq (s:List Loan) (i:Int) (v:List Loan):Option (List Loan):=zip s i v
def qdt (s:List Hold) (i j:Int):Option (List Hold):=zmo s i j
def qds (s:List Loan) (i j:Int):Option (List Loan):=zmo s i j
def qcv {γ0:Type} (p:γ0→Hold→Hold→Option Int) (s:List Hold) (a m b:Int) (g:γ0):Option (List Hold):=none
def qc7 (s:List UInt8):Option Bool:=bif decide (s.length≤LIM) then some (vld s) else none
def qd1 (s:List UInt8):Option (List UInt8):=bif decide (s.length≤LIM)&&vld s then some (cln s) else none
instance:Inhabited Weed_candidate:=⟨⟨0,0,0,0⟩⟩
def qda {γ0:Type} (p:γ0→Weed_candidate→Weed_candidate→Option Int) (s:List Weed_candidate) (g:γ0):Option (List Weed_candidate):=bif decide (s.length≤LIM) then some (pdqL (fun a b=>zf5 (Go.Lib.compareInt a.loans b.loans) (zf5 (Go.Lib.compareInt a.last b.last) (Go.Lib.compareInt a.id_ b.id_))) s) else none
end Go.Proofs.YtpaidiaknfhclaaGreatDoor
