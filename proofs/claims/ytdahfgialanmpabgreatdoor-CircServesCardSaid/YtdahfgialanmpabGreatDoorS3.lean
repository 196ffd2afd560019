/- CircServes: a part of the proof of the given statement, which is proved without conditions. -/
import Derived.Test.YtdahfgialanmpabGreatDoorS2
import Derived.ChangeMade
import Derived.DataReads
import GoSem.ClaimChange
import Derived.Below
import Derived.Lib.DecodeN
import Derived.Lib.SlicesCompact
set_option linter.all false
namespace Go.Proofs.YtdahfgialanmpabGreatDoor.Ev
open Go
section
section
variable {κ:Type} {El:κ→Type} {S:Sg κ El} {P:Program}
variable [KdEq κ]
def e9 (P:Program) (S:Sg κ El) (m:Nat) (fn:Func) (loops:{R:Type}→Nat→St κ El→(Ex→St κ El→Option R)→Option R) (id:Nat):Prop:=
 ∀nt,fn.ntmps≤nt→c9g P S nt m fn @loops id
theorem Rel.final {c:Cx} {st:St κ El} {g:Gh} {a:Act} {w:World} (hr:Rel S c st g a w) (hmo:c.mo=[]):GrowM c.mb c.w0 w c.I0 (fun b o=>g.I b o∨LB g b o) where
 size:=hr.sz
 os:=hr.os
 out:=hr.out
 tape:=hr.tape
 keep:=fun b hb hm=>(hr.old b hb hm (by rw[hmo];simp)).1
 hI:=fun b o hi=>.inl (hr.i0 b o hi)
 new:=fun b o hi=>by
  rcases hi with hi|⟨n,hn,hb⟩
  ·exact hr.i1 b o hi
  ·rcases ybY b c.w0.heap.size with hlt|hge
   ·exfalso;have how:=hr.bx_ow hb;by_cases hm:b∈c.mb
    ·obtain ⟨j,hj⟩:=yau hm;have h2:=hr.bx_ow (hr.mb j b hj);rw[how]at h2;cases h2
     exact absurd hn (by omega)
    ·rw[(hr.old b hlt hm (by rw[hmo];simp)).2]at how;cases how
   ·exact .inr hge
 ib:=fun b o hi=>by
  rcases hi with hi|⟨n,hn,hb⟩
  ·exact hr.ib b o hi
  ·exact hr.bx_lt hb
theorem DR.fin {w:World} {g:Gh} {v:Value} {d:D κ El} (h:DR S w g.I (LB g) v d):DR S w (fun b o=>g.I b o∨LB g b o) (fun b o=>g.I b o∨LB g b o) v d:=
 h.mono (fun b o hi=>⟨rfl,.inl hi⟩) (fun b o hj=>⟨rfl,.inr hj⟩)
theorem c92 {f:Nat} {fn:Func} {code:Code} {loops:{R:Type}→Nat→St κ El→(Ex→St κ El→Option R)→Option R} (G:GoodP P S) (hmix:P.follows .mixedOrders=true) (fok:FnOk P f fn code)
 {R:Type} {r:R} {call:Nat→List (D κ El)→List (List (D κ El))→(D κ El→List (List (D κ El))→Option R)→Option R} (cn:y9 call) (cok:a01 P S call)
 {st0:St κ El} {m:Nat} (hl:∀b∈i7 code,a1e fn (m8 b)=b∧e9 P S m fn @loops (m8 b))
 {fin:St κ El→Option R} (h:evc P S call (loops (R:=R)) code st0 (fun e st=>match e with | .exit _=>none | .normal=>fin st | .ret=>fin st)=some r)
 {c:Cx} {g:Gh} {w:World} {vs:Array Value} (hr:Rel S c st0 g {tmps:=vs++Array.replicate (fn.ntmps-vs.size) undef,defers:=[]} w) (hnt:c.nt=vs.size+(fn.ntmps-vs.size)) (hm:c.ar=m)
 {Qv:Value→World→Prop} (hfin:∀st,fin st=some r→∀g a w,Rel S c st g a w→∃v,(results fn a.tmps).run P w=.ok v w∧Qv v w):a2y P f vs w Qv:=by
 have hle:fn.ntmps≤vs.size+(fn.ntmps-vs.size):=by omega
 obtain ⟨e,st',hk,hev⟩:=f5r (nt:=vs.size+(fn.ntmps-vs.size)) G hmix cn cok (fok.dst.mono hle) (fun b hb=>⟨(hl b hb).1,(hl b hb).2 _ hle⟩) h;unfold a2y;rw[MuLone.run_callFunc_enter fok.at_ fok.name fok.body vs w];simp only;refine calls_of_wp fok.at_ fok.body (hev hr hnt hm (fun g' a' w' hr'=>?_));have post:fin st'=some r→a'.defers=[]∧∃v,(results fn a'.tmps).run P w'=.ok v w'∧Qv v w':=
  fun hf=>⟨hr'.df,hfin st' hf g' a' w' hr'⟩
 cases e with
 |normal=>exact post hk
 |ret=>exact post hk
 |exit i=>cases hk
theorem b9k {f:Nat} {fn:Func} {code:Code} {loops:{R:Type}→Nat→St κ El→(Ex→St κ El→Option R)→Option R} (G:GoodP P S) (hmix:P.follows .mixedOrders=true) (fok:FnOk P f fn code)
 {R:Type} {r:R} {call:Nat→List (D κ El)→List (List (D κ El))→(D κ El→List (List (D κ El))→Option R)→Option R} (cn:y9 call) (cok:a01 P S call)
 {ds:List (D κ El)} {bs:List (List (D κ El))} (hl:∀b∈i7 code,a1e fn (m8 b)=b∧e9 P S bs.length fn @loops (m8 b))
 {fin:St κ El→Option R} (h:evc P S call (loops (R:=R)) code (enter ds bs) (fun e st=>match e with | .exit _=>none | .normal=>fin st | .ret=>fin st)=some r)
 {Qc:Cx→Value→World→Prop} (hfin:∀st,fin st=some r→∀(c:Cx) g a w,Rel S c st g a w→c.mb.length=bs.length→c.mo=[]→∃v,(results fn a.tmps).run P w=.ok v w∧Qc c v w) (hlt1:bs.length<MA)
 {w:World} {I J:Nat→Nat→Prop} {vs:Array Value} {bls:List Nat} (hp:Pre S w I J bls) (hn:bls.Nodup) (hbl:bls.length=bs.length) (hvs:vs.size=ds.length)
 (ha:∀(i:Nat) v d,vs[i]?=some v→ds[i]?=some d→h0d S w I J bls v d) (hb:∀(j:Nat) blk cs,bls[j]?=some blk→bs[j]?=some cs→d60 S w I J blk cs) :
 a2y P f vs w fun v w'=>Qc ⟨w,bls,vs.size+(fn.ntmps-vs.size),I,J,[],none⟩ v w':=by
 have hlt:∀b∈bls,b<w.heap.size:=by
  intro b hm;obtain ⟨j,hj⟩:=yau hm;have hj2:j<bs.length:=by rw[←hbl];exact (zL hj)
  obtain ⟨vals,t,h1,-⟩:=hb j b _ hj (yac hj2);exact (yak.1 h1).1
 have hr:=Rel.enter (n:=fn.ntmps) hp hn hbl hvs ha hb hlt;refine c92 G hmix fok cn cok hl h hr rfl ?_ (fun st hf g a w hr=>hfin st hf _ g a w hr hbl rfl);show (if (none:Option Value).isSome then _ else if bls.length<MA then bls.length else MA+2)=bs.length
 simp only[yb4,yaB,ya7];rw[yaP (by rw[hbl];exact hlt1),hbl]
def h6x:List (D κ El)→D κ El
 | [d]=>d
 |ds=>.tup ds
theorem g6b {w:World} {I J:Nat→Nat→Prop} {vs:List Value} {ds:List (D κ El)} (hl:vs.length=ds.length) (h:∀(i:Nat) v d,vs[i]?=some v→ds[i]?=some d→DR S w I J v d):DR S w I J (h7g vs) (h6x ds):=by
 match vs,ds,hl with
 | [v],[d],_=>exact h 0 v d rfl rfl
 | [],[],_=>exact .tup #[] [] rfl (fun i v d h1=>by simp at h1)
 |v::u::vs,d::e::ds,hl=>exact .tup _ _ (by simp at hl ⊢;exact hl) (fun i v' d' h1 h2=>h i v' d' (by simpa using h1) h2)
theorem g4s {fn:Func} {m:Nat} {st:St κ El} {R:Type} {k:D κ El→List (List (D κ El))→Option R} {r:R} (h:h3v P S fn m st k=some r) :
 ∃st1 ds bs,c5t P S st fn.results.toList=some (st1,ds)∧c16 st1 m 0=some bs∧k (h6x ds) bs=some r:=by
 unfold h3v at h;split at h
 ·rename_i st1 ds h1;split at h
  ·rename_i bs h2;refine ⟨st1,ds,bs,h1,h2,?_⟩;split at h
   ·exact h
   ·rename_i hne;have:h6x ds=.tup ds:=by
     match ds,hne with
     | [],_=>rfl
     | [d],hne=>exact absurd rfl (hne d)
     |_::_::_,_=>rfl
    rw[this];exact h
  ·cases h
 ·cases h
theorem e0q (ok:PrOk P) (sgk:SgOk S) {fn:Func} {m:Nat} {st:St κ El} {R:Type} {k:D κ El→List (List (D κ El))→Option R} {r:R} (h:h3v P S fn m st k=some r) {c:Cx} {g:Gh} {a:Act} {w:World}
 (hr:Rel S c st g a w) (hm:c.mb.length=m) (hmo:c.mo=[]) :
 ∃d bs v I',k d bs=some r∧(results fn a.tmps).run P w=.ok v w∧GrowM c.mb c.w0 w c.I0 I'∧DR S w I' I' v d∧bs.length=m∧∀(j:Nat) blk cs,c.mb[j]?=some blk→bs[j]?=some cs→d60 S w I' I' blk cs:=by
 obtain ⟨st1,ds,bs,h1,h2,h3⟩:=g4s h;obtain ⟨g1,vs,r1,l1,b1,e1,x1,hrun,hlen,hall⟩:=e4i ok sgk h1 hr;obtain ⟨g2,st2,r2,l2,b2,hbl,hbox⟩:=d71 sgk h2 r1;refine ⟨h6x ds,bs,h7g vs,_,h3,a9c hrun,r2.final hmo,(LB.mono b2 l2 (g6b hlen hall)).fin,hbl,fun j blk cs hj hcs=>?_⟩;obtain ⟨blk',f1,vals,t,f2,f3,f4⟩:=hbox j cs hcs;have:=r1.mb j blk hj;rw[yaE,this]at f1;cases f1
 exact ⟨vals,t,f2,f3,fun i v d k1 k2=>(f4 i v d k1 k2).fin⟩
variable {f:Nat} {fn:Func} {code:Code} {α β ρ:Type}
theorem Wd.argM {w:World} {I J:Nat→Nat→Prop} {bls:List Nat} {v:Value} {d d':D κ El} (hw:Wd d d') (h:h0d S w I J bls v d):h0d S w I J bls v d':=by
 rcases h with ⟨j,blk,rfl,h1,h2⟩|h
 ·cases hw with
  |leaf _ _ h=>cases h with|same=>exact .inl ⟨j,blk,rfl,h1,h2⟩
 ·exact .inr (hw.dr h)
theorem g0r {loops:{R:Type}→Nat→St κ El→(Ex→St κ El→Option R)→Option R} {call:{R:Type}→Nat→List (D κ El)→List (List (D κ El))→(D κ El→List (List (D κ El))→Option R)→Option R}
 (G:GoodP P S) (hmix:P.follows .mixedOrders=true) (fok:FnOk P f fn code) (cn:∀{R:Type},y9 (R:=R) call) (cok:∀{R:Type},a01 (R:=R) P S call)
 {ac:CC κ El α} {bc:BC κ El β} {rc:Cod κ El ρ} {F:α→β→Option (ρ×β)} (hac:m6 ac) (hbc:e76 bc) (hrc:i5 rc) {m:Nat} (hm:∀b,(bc.enc b).length=m) (hmlt:m<MA) (hmd:S.md f=.mut)
 (hl:∀b∈i7 code,a1e fn (m8 b)=b∧e9 P S m fn @loops (m8 b))
 (e:∀a b,g6s P S call (loops (R:=ρ×β)) fn (ac.enc a) (bc.enc b) (h7r rc bc)=F a b) :
 ∀ds bs a b r b',ac.dec ds=some a→bc.dec bs=some b→F a b=some (r,b')→Con P S f ds bs (rc.enc r) (bc.enc b'):=by
 intro ds bs a b r b' hds hbs hF;unfold Con;rw[hmd];intro w I J vs bls hp hn hbl hvs ha hb;rw[←e a b]at hF;unfold g6s at hF;simp only[fok.body]at hF;have hw:=hac _ _ hds;have hwb:=hbc _ _ hbs;have key:=b9k (Qc:=fun c v w'=>∃I',GrowM c.mb c.w0 w' c.I0 I'∧DR S w' I' I' v (rc.enc r)∧(bc.enc b').length=(bc.enc b).length∧∀(j:Nat) blk cs,c.mb[j]?=some blk→(bc.enc b')[j]?=some cs→d60 S w' I' I' blk cs)
  G hmix fok cn cok (ds:=ac.enc a) (bs:=bc.enc b) (by rw[hm];exact hl) hF (fun st hf c g a w hr hmb hmo=>?_) (by rw[hm];exact hmlt) hp hn (hbl.trans hwb.1) (hvs.trans hw.1) (fun i v d h1 h2=>?_) (fun j blk cs h1 h2=>?_)
 ·refine key.mono (fun v w' hq=>?_);obtain ⟨I',h1,h2,h3,h4⟩:=hq;exact ⟨I',h1,h2,by rw[h3,hwb.1],h4⟩
 ·obtain ⟨d,bs2,v,I',h1,h2,h3,h4,h5,h6⟩:=e0q G.ok G.sgk hf hr hmb hmo;refine ⟨v,h2,I',h3,?_⟩;unfold h7r at h1;split at h1
  ·rename_i r' hr';split at h1
   ·rename_i b2 hb2;cases h1
    have hwr:=hrc _ _ hr';have hwb2:=hbc _ _ hb2;refine ⟨hwr.dr h4,by rw[hm,hm],fun j blk cs k1 k2=>?_⟩;have hj:j<bs2.length:=by rw[hwb2.1];exact (zL k2)
    exact (hwb2.2 j _ cs (yac hj) k2).boxD (h6 j blk _ k1 (yac hj))
   ·cases h1
  ·cases h1
 ·obtain ⟨d0,h3,h4⟩:=hw.get h2;exact h4.argM (ha i v d0 h1 h3)
 ·have hj:j<bs.length:=by rw[hwb.1];exact (zL h2)
  exact (hwb.2 j _ cs (yac hj) h2).boxD (hb j blk _ h1 (yac hj))
theorem e98 {loops:{R:Type}→Nat→St κ El→(Ex→St κ El→Option R)→Option R} {call:{R:Type}→Nat→List (D κ El)→List (List (D κ El))→(D κ El→List (List (D κ El))→Option R)→Option R}
 (G:GoodP P S) (hmix:P.follows .mixedOrders=true) (fok:FnOk P f fn code) (cn:∀{R:Type},y9 (R:=R) call) (cok:∀{R:Type},a01 (R:=R) P S call)
 {ac:CC κ El α} {rc:Cod κ El ρ} {F:α→Option ρ} (hac:m6 ac) (hrc:i5 rc) (hmd:S.md f=.data)
 (hl:∀b∈i7 code,a1e fn (m8 b)=b∧e9 P S 0 fn @loops (m8 b))
 (e:∀a,g6s P S call (loops (R:=ρ)) fn (ac.enc a) [] (c6i rc)=F a) :
 ∀ds a r,ac.dec ds=some a→F a=some r→Con P S f ds [] (rc.enc r) []:=by
 intro ds a r hds hF;unfold Con;rw[hmd];intro _ w I J vs hp ha;rw[←e a]at hF;unfold g6s at hF;simp only[fok.body]at hF;have hw:=hac _ _ hds;have key:=b9k (Qc:=fun c v w'=>∃I',GrowM c.mb c.w0 w' c.I0 I'∧DR S w' I' I' v (rc.enc r)) G hmix fok cn cok (ds:=ac.enc a) (bs:=[]) (bls:=[]) hl hF (fun st hf c g a w hr hmb hmo=>?_) (by show 0<MA;decide) hp List.nodup_nil rfl (ha.1.trans hw.1)
  (fun i v d h1 h2=>?_) (fun j blk cs h1 h2=>by simp at h1)
 ·refine key.mono (fun v w' hq=>?_);obtain ⟨I',h1,h2⟩:=hq;exact ⟨I',h1.grow,h2⟩
 ·obtain ⟨d,bs2,v,I',h1,h2,h3,h4,h5,h6⟩:=e0q G.ok G.sgk hf hr hmb hmo;refine ⟨v,h2,I',h3,?_⟩;unfold c6i at h1;split at h1
  ·exact (hrc _ _ h1).dr h4
  ·cases h1
 ·obtain ⟨d0,h3,h4⟩:=hw.get h2;exact .inr (h4.dr (ha.2 i v d0 h1 h3))
theorem Rel.ow_new0 {c:Cx} {st:St κ El} {g:Gh} {a:Act} {w:World} (hr:Rel S c st g a w) (hnil:c.mb=[]) (hmo:c.mo=[]) {blk n:Nat} (ho:g.ow blk=some (.arr n)):c.w0.heap.size≤blk:=by
 rcases ybY blk c.w0.heap.size with hlt|hge
 ·have:=(hr.old blk hlt (by rw[hnil];simp) (by rw[hmo];simp)).2;rw[ho]at this;cases this
 ·exact hge
theorem c04 {tmps:Array Value} {t:Nat} {fn:Func} (h:fn.results.toList=[.tmp t]) {a:Act} {w:World}:(results fn a.tmps).run P w=.ok (a.tmps.getD t undef) w:=by
 have:=a9c (fn:=fn) (a:=a) (P:=P) (w:=w) (vs:=[a.tmps.getD t undef]) (by rw[h];rfl);exact this
theorem c7m (sgk:SgOk S) {fn:Func} {st:St κ El} {R:Type} {k:D κ El→List (List (D κ El))→Option R} {r:R} (h:b2f P S fn st k=some r) {c:Cx} {g:Gh} {a:Act} {w:World} (hr:Rel S c st g a w) (hmb:c.mb.length=0) (hmo:c.mo=[]) :
 ∃kd xs v I',k (.lst kd xs) []=some r∧(results fn a.tmps).run P w=.ok v w∧Grow c.w0 w c.I0 I'∧e78 S w I' c.w0.heap.size kd xs v:=by
 have hnil:c.mb=[]:=yaJ hmb;have hg:Grow c.w0 w c.I0 g.I:=⟨hr.sz,hr.os,hr.out,hr.tape,fun b hb=>(hr.old b hb (by rw[hnil];simp) (by rw[hmo];simp)).1,hr.i0,hr.i1,hr.ib⟩
 unfold b2f at h;split at h
 ·rename_i t ht;have hv:=hr.opd (.tmp t);split at h
  ·rename_i n ver hopd;rw[hopd]at hv;split at h
   ·rename_i A hA;rw[d9]at h;split at h
    ·rename_i hc;rw[yad,yar]at hc;obtain ⟨h1,h2⟩:=a2f hc.1;obtain ⟨p,kk,cap,e,ha1,ha2,ha3⟩:=hv.arr_inv;obtain ⟨base,cap',f1,f2,f3⟩:=(hr.ar n A hA).live h2;have e2:a.tmps.getD t undef=.slice base A.xs.length cap':=by
      refine ha3 _ ?_;rw[←h1];exact f1
     refine ⟨A.k,A.xs,_,g.I,h,c04 (tmps:=a.tmps) ht,hg,?_⟩;rw[e2];refine ⟨base,cap',rfl,f2,f3.imp id ?_⟩;rintro ⟨blk,vals,ty,q1,q2,q3,q4,q5,q6,q7⟩;refine ⟨blk,vals,ty,q1,q2,q3,hr.ow_new0 hnil hmo q4,fun o hi=>?_,fun i hi j d hj=>?_⟩
     ·have:=(q5 o hi).1;rw[hc.2]at this;cases this
     ·obtain ⟨u,a1,a2⟩:=q7 i hi j d hj;exact ⟨u,a1,a2.relendL sgk (a3k (sgk.plain _ _ _ (yaf hj)))⟩
    ·cases h
   ·cases h
  ·rename_i hopd;rw[hopd]at hv;split at h
   ·rename_i u hu;split at h
    ·rename_i e he;split at h
     ·rename_i kd hkd;refine ⟨kd,[],_,g.I,h,c04 (tmps:=a.tmps) ht,hg,?_⟩;have:=hv.nil_inv;have e2:a.tmps.getD t undef=.slice none 0 0:=this;rw[e2];exact ⟨none,0,rfl,yaF _,.inl rfl⟩
     ·cases h
    ·cases h
   ·cases h
  ·cases h
 ·cases h
theorem b7c {loops:{R:Type}→Nat→St κ El→(Ex→St κ El→Option R)→Option R} {call:{R:Type}→Nat→List (D κ El)→List (List (D κ El))→(D κ El→List (List (D κ El))→Option R)→Option R}
 (G:GoodP P S) (hmix:P.follows .mixedOrders=true) (fok:FnOk P f fn code) (cn:∀{R:Type},y9 (R:=R) call) (cok:∀{R:Type},a01 (R:=R) P S call)
 {kr:κ} (hmd:S.md f=.fresh)
 (hl:∀b∈i7 code,a1e fn (m8 b)=b∧e9 P S 0 fn @loops (m8 b))
 {ds ds0:List (D κ El)} {ys:List (El kr)} (hw:WL ds ds0) (hF:a4k P S call (loops (R:=List (El kr))) fn ds0 (c6i (Cod.lst kr))=some ys):Con P S f ds [] (.lst kr ys) []:=by
 unfold Con;rw[hmd];intro _ k' xs' he w I J vs hp ha;cases he
 unfold a4k at hF;simp only[fok.body]at hF;have key:=b9k (Qc:=fun c v w'=>∃I',Grow c.w0 w' c.I0 I'∧e78 S w' I' c.w0.heap.size kr ys v) G hmix fok cn cok (ds:=ds0) (bs:=[]) (bls:=[]) hl hF (fun st hf c g a w hr hmb hmo=>?_) (by show 0<MA;decide) hp List.nodup_nil rfl (ha.1.trans hw.1)
  (fun i v d h1 h2=>?_) (fun j blk cs h1 h2=>by simp at h1)
 ·exact key
 ·obtain ⟨kd,xs,v,I',h1,h2,h3,h4⟩:=c7m G.sgk hf hr hmb hmo;refine ⟨v,h2,I',h3,?_⟩;unfold c6i at h1;simp only[Cod.lst]at h1;obtain ⟨e,he⟩:=a3g h1;subst e;cases he
  exact h4
 ·obtain ⟨d0,h3,h4⟩:=hw.get h2;exact .inr (h4.dr (ha.2 i v d0 h1 h3))
theorem e99 {loops:{R:Type}→Nat→St κ El→(Ex→St κ El→Option R)→Option R} {call:{R:Type}→Nat→List (D κ El)→List (List (D κ El))→(D κ El→List (List (D κ El))→Option R)→Option R}
 (G:GoodP P S) (hmix:P.follows .mixedOrders=true) (fok:FnOk P f fn code) (cn:∀{R:Type},y9 (R:=R) call) (cok:∀{R:Type},a01 (R:=R) P S call)
 {ac:CC κ El α} {kr:κ} {F:List (El kr)×α→Option (List (El kr))} (hac:m6 ac) (hmd:S.md f=.inpl)
 (hl:∀b∈i7 code,a1e fn (m8 b)=b∧e9 P S MA fn @loops (m8 b))
 (e:∀a,c8x P S call (loops (R:=List (El kr))) fn kr a.1 (ac.enc a.2) (c6i (Cod.lst kr))=F a) :
 ∀ds a r,(CC.cons (Cod.lst kr) ac).dec ds=some a→F a=some r→Con P S f ds [] ((Cod.lst kr).enc r) []:=by
 intro ds a r hds hF;obtain ⟨ys,a⟩:=a;unfold Con;rw[hmd];intro _ k xs ds0 hd xs' hxs w I J mb v0 vs hp hown ha;subst hd;unfold CC.cons at hds;simp only at hds;split at hds
 ·rename_i x hx;split at hds
  ·rename_i b hb;cases hds
   obtain ⟨ek,hx2⟩:=a3g hx;subst ek;cases hx2
   cases hxs
   replace hF:F (xs,a)=some xs':=hF;rw[←e (xs,a)]at hF;unfold c8x at hF;simp only[fok.body]at hF;have hw:=hac _ _ hb;have ha2:c1l S w I J vs (ac.enc a):=⟨ha.1.trans hw.1,fun i v d h1 h2=>by
    obtain ⟨d0,h3,h4⟩:=hw.get h2;exact h4.dr (ha.2 i v d0 h1 h3)⟩
   obtain ⟨base,cap,rfl,hcap,ho⟩:=hown;obtain ⟨mo,hmo,hsub,hcase⟩:∃mo:List Nat,((cap=0∧mo=[])∨∃blk vals t,mo=[blk]∧base=some ⟨blk,0,none⟩∧w.heap[blk]?=some (.cells vals t (0,0))∧vals.size=cap*S.sz k∧
    ∀i (hi:i<xs.length) j d,(S.enc k xs[i])[j]?=some d→∃v,vals[i*S.sz k+j]?=some v∧DR S w I J v d)∧(∀b∈mo,b∈mb)∧(cap=0→mo=[]):=by
    by_cases h0:cap=0
    ·exact ⟨[],.inl ⟨h0,rfl⟩,fun b h=>(by cases h),fun _=>rfl⟩
    ·exact ⟨mb,ho.imp (fun h=>absurd h.1 h0) id,fun b h=>h,fun h=>absurd h h0⟩
   have hp':Pre S w I J mo:=⟨hp.gl,hp.ib,hp.ij,fun b o hj=>⟨(hp.jb b o hj).1,fun hm=>(hp.jb b o hj).2 (hsub b hm)⟩⟩
   refine c92 G hmix fok cn cok hl hF (Rel.enterA (n:=fn.ntmps) hp' hcap hmo ha2) rfl (by rfl) (fun st hf g a' w' hr=>?_);unfold c7n at hf;split at hf
   rotate_left
   ·cases hf
   rename_i hres;split at hf
   rotate_left
   ·cases hf
   rename_i A hA;rw[d9]at hf;split at hf
   ·cases hf
   rename_i hdead;have hdead:A.dead=false:=by simpa using hdead
   unfold c6i at hf;simp only[Cod.lst]at hf;obtain ⟨ek,hx4⟩:=a3g hf;have hrun:(results fn a'.tmps).run P w'=.ok (.tuple #[]) w':=a9c (fn:=fn) (a:=a') (P:=P) (w:=w') (vs:=[]) (by rw[hres];rfl);refine ⟨_,hrun,rfl,?_⟩;have hrA:=hr.ar MA A hA;obtain ⟨hv0,hs0⟩:=hrA.own rfl;obtain ⟨base',cap',hav,hcap',hz⟩:=hrA.live hdead;rw[hv0]at hav;have hpn:=hr.pn _ (by simp) hav;replace hpn:some (Value.slice base xs.length cap)=some (Value.slice base' A.xs.length cap'):=hpn;obtain ⟨Ak,Axs,Av,As,Ad⟩:=A;simp only at ek hx4 hdead hv0 hs0 hcap' hz hpn;subst ek;have hx5:Axs=xs':=hx4;subst hx5;injection hpn with hpn;injection hpn with e1 e2 e3;subst e1 e3;refine ⟨e2.symm,g.I,⟨hr.sz,hr.os,hr.out,hr.tape,fun b hb hm=>(hr.old b hb (by simp) (fun h=>hm (hsub b h))).1,hr.i0,hr.i1,hr.ib⟩,base,cap,by rw[e2],hcap',?_⟩;by_cases h0:cap=0
   ·refine ho.imp id ?_;rintro ⟨blk,vals,t,q1,q2,q3,q4,q5⟩;have hlen:Axs.length=0:=by omega
    have hmo0:mo=[]:=hcase h0;refine ⟨blk,vals,t,q1,q2,?_,q4,fun i hi=>absurd hi (by omega)⟩;rw[←q3];exact (hr.old blk (yak.1 q3).1 (by simp) (by show blk∉mo;rw[hmo0];simp)).1
   ·refine .inr ?_;rcases hz with hz|⟨blk,vals,t,q1,q2,q3,q4,q5,q6,q7⟩
    ·exact absurd hz h0
    ·rcases ho with ⟨h,-⟩|⟨blk0,vals0,t0,p1,p2,-⟩
     ·exact absurd h h0
     ·rw[q1]at p2;injection p2 with p2;injection p2 with p2;refine ⟨blk,vals,t,by rw[p1,p2],q1,q2,q3,fun i hi j d hj=>?_⟩;obtain ⟨u,a1,a2⟩:=q7 i hi j d hj;exact ⟨u,a1,a2.relendL G.sgk (a3k (G.sgk.plain _ _ _ (yaf hj)))⟩
  ·cases hds
 ·cases hds
theorem f0a {loops:{R:Type}→Nat→St κ El→(Ex→St κ El→Option R)→Option R} {call:{R:Type}→Nat→List (D κ El)→List (List (D κ El))→(D κ El→List (List (D κ El))→Option R)→Option R}
 (G:GoodP P S) (hmix:P.follows .mixedOrders=true) (fok:FnOk P f fn code) (cn:∀{R:Type},y9 (R:=R) call) (cok:∀{R:Type},a01 (R:=R) P S call)
 {ac:CC κ El α} {cc:CC κ El ρ} {F:α→Option ρ} (hac:m6 ac) (hcc:m6 cc) (hmd:S.md f=.newb)
 (hl:∀b∈i7 code,a1e fn (m8 b)=b∧e9 P S 0 fn @loops (m8 b))
 (e:∀a,c8y P S call (loops (R:=ρ)) fn (ac.enc a) (h76 cc)=F a) :
 ∀ds a r,ac.dec ds=some a→F a=some r→Con P S f ds [] (.tup []) [cc.enc r]:=by
 intro ds a r hds hF;unfold Con;rw[hmd];intro cs hcs w I J vs hp ha;cases hcs
 rw[←e a]at hF;unfold c8y at hF;simp only[fok.body]at hF;have hw:=hac _ _ hds;have key:=b9k (Qc:=fun c v w'=>∃I' blk,Grow c.w0 w' c.I0 I'∧v=.pointer (some ⟨blk,0,none⟩)∧c.w0.heap.size≤blk∧(∀o,¬I' blk o)∧d60 S w' I' I' blk (cc.enc r)) G hmix fok cn cok (ds:=ac.enc a) (bs:=[]) (bls:=[]) hl hF
  (fun st hf c g a w hr hmb hmo=>?_) (by show 0<MA;decide) hp List.nodup_nil rfl (ha.1.trans hw.1) (fun i v d h1 h2=>?_) (fun j blk cs h1 h2=>by simp at h1)
 ·exact key
 ·have hnil:c.mb=[]:=yaJ hmb;unfold c7o at hf;split at hf
  ·rename_i t ht;have hv:=hr.opd (.tmp t);split at hf
   ·rename_i b hopd;rw[hopd]at hv;rw[d9]at hf;split at hf
    ·cases hf
    ·split at hf
     ·rename_i cs hb;split at hf
      ·rename_i st1 cs1 hdat;obtain ⟨g1,r1,l1,b1,e1,x1,n1,v1⟩:=a0o G.sgk hdat hr;obtain ⟨blk,hve,hbl⟩:=hv.ptr_inv;obtain ⟨blk',q1,q2,q3,vals,ty,q4,q5,q6⟩:=hr.bx b cs hb;rw[hbl]at q1;cases q1
       have hlo:c.w0.heap.size≤blk:=by
        rcases ybY blk c.w0.heap.size with hlt|hge
        ·have:=(hr.old blk hlt (by rw[hnil];simp) (by rw[hmo];simp)).2;rw[q2]at this;cases this
        ·exact hge
       have hg:Grow c.w0 w c.I0 g1.I:=⟨r1.sz,r1.os,r1.out,r1.tape,fun b hb=>(r1.old b hb (by rw[hnil];simp) (by rw[hmo];simp)).1,r1.i0,r1.i1,r1.ib⟩
       refine ⟨_,c04 (tmps:=a.tmps) ht,g1.I,blk,hg,hve,hlo,?_,?_⟩
       ·obtain ⟨blk2,p1,p2,p3,p4⟩:=r1.bx b cs (by rw[x1];exact hb);rw[b1,hbl]at p1;cases p1
        exact p3
       ·replace hf:cc.dec cs1=some r:=hf;refine (hcc _ _ hf).boxD ⟨vals,ty,q4,by rw[q5,n1],fun i v d k1 k2=>?_⟩;have hi:i<cs.length:=by rw[←n1];exact (zL k2)
        obtain ⟨d2,h3,h4⟩:=v1 i _ (yac hi);rw[k2]at h3;cases h3
        exact (h4 v (q6 i v _ k1 (yac hi))).relendL G.sgk (a5h hdat d (yaf k2))
      ·cases hf
     ·cases hf
   ·cases hf
  ·cases hf
 ·obtain ⟨d0,h3,h4⟩:=hw.get h2;exact .inr (h4.dr (ha.2 i v d0 h1 h3))
end
end
section
section
variable {κ:Type} {El:κ→Type} {S:Sg κ El} {P:Program}
variable {R:Type} {f:Nat} {α β ρ:Type}
abbrev a5y (κ:Type) (El:κ→Type) (R:Type):=List (D κ El)→List (List (D κ El))→(D κ El→List (List (D κ El))→Option R)→Option R
def b9b (P:Program) (S:Sg κ El) (f:Nat) (sem:a5y κ El R):Prop:=∀ds bs k r,sem ds bs k=some r→∃d bs',k d bs'=some r∧Con P S f ds bs d bs'
def a9i (sem:a5y κ El R):Prop:=∀ds bs k r,sem ds bs k=some r→∃d bs',k d bs'=some r∧∀k',k' d bs'=some r→sem ds bs k'=some r
theorem g6y {ac:CC κ El α} {rc:Cod κ El ρ} {F:α→Option ρ} (h:∀ds a r,ac.dec ds=some a→F a=some r→Con P S f ds [] (rc.enc r) []):b9b P S f (n5 (R:=R) ac rc F):=by
 intro ds bs k r hs;unfold n5 at hs;split at hs
 ·split at hs
  ·rename_i a ha;split at hs
   ·rename_i x hx;exact ⟨_,_,hs,h _ _ _ ha hx⟩
   ·cases hs
  ·cases hs
 ·cases hs
theorem f3h {ac:CC κ El α} {rc:Cod κ El ρ} {F:α→Option ρ}:a9i (n5 (R:=R) ac rc F):=by
 intro ds bs k r hs;unfold n5 at hs;split at hs
 ·split at hs
  ·rename_i a ha;split at hs
   ·rename_i x hx;exact ⟨_,_,hs,fun k' hk'=>by unfold n5;simp only[ha,hx];exact hk'⟩
   ·cases hs
  ·cases hs
 ·cases hs
theorem g6w {ac:CC κ El α} {bc:BC κ El β} {rc:Cod κ El ρ} {F:α→β→Option (ρ×β)} (h:∀ds bs a b r b',ac.dec ds=some a→bc.dec bs=some b→F a b=some (r,b')→Con P S f ds bs (rc.enc r) (bc.enc b')):b9b P S f (b5z (R:=R) ac bc rc F):=by
 intro ds bs k r hs;unfold b5z at hs;split at hs
 ·rename_i a ha;split at hs
  ·rename_i b hb;split at hs
   ·rename_i x y hx;exact ⟨_,_,hs,h _ _ _ _ _ _ ha hb hx⟩
   ·cases hs
  ·cases hs
 ·cases hs
theorem f3f {ac:CC κ El α} {bc:BC κ El β} {rc:Cod κ El ρ} {F:α→β→Option (ρ×β)}:a9i (b5z (R:=R) ac bc rc F):=by
 intro ds bs k r hs;unfold b5z at hs;split at hs
 ·rename_i a ha;split at hs
  ·rename_i b hb;split at hs
   ·rename_i x y hx;exact ⟨_,_,hs,fun k' hk'=>by unfold b5z;simp only[ha,hb,hx];exact hk'⟩
   ·cases hs
  ·cases hs
 ·cases hs
theorem g6x {ac:CC κ El α} {cc:CC κ El ρ} {F:α→Option ρ} (h:∀ds a r,ac.dec ds=some a→F a=some r→Con P S f ds [] (.tup []) [cc.enc r]):b9b P S f (f8x (R:=R) ac cc F):=by
 intro ds bs k r hs;unfold f8x at hs;split at hs
 ·split at hs
  ·rename_i a ha;split at hs
   ·rename_i x hx;exact ⟨_,_,hs,h _ _ _ ha hx⟩
   ·cases hs
  ·cases hs
 ·cases hs
theorem f3g {ac:CC κ El α} {cc:CC κ El ρ} {F:α→Option ρ}:a9i (f8x (R:=R) ac cc F):=by
 intro ds bs k r hs;unfold f8x at hs;split at hs
 ·split at hs
  ·rename_i a ha;split at hs
   ·rename_i x hx;exact ⟨_,_,hs,fun k' hk'=>by unfold f8x;simp only[ha,hx];exact hk'⟩
   ·cases hs
  ·cases hs
 ·cases hs
theorem f3e (ac:CC κ El α) {s1 s2:a5y κ El R} (h1:b9b P S f s1) (h2:b9b P S f s2):b9b P S f (fun ds bs k=>d5h (ac.dec ds) (s1 ds bs k) (s2 ds bs k)):=by
 intro ds bs k r hs;simp only[d5h]at hs;split at hs
 ·exact h1 _ _ _ _ hs
 ·exact h2 _ _ _ _ hs
theorem e4r (ac:CC κ El α) {s1 s2:a5y κ El R} (h1:a9i s1) (h2:a9i s2):a9i (fun ds bs k=>d5h (ac.dec ds) (s1 ds bs k) (s2 ds bs k)):=by
 intro ds bs k r hs;cases hd:ac.dec ds with
 |some a=>simp only[d5h,hd]at hs ⊢;exact h1 _ _ _ _ hs
 |none=>simp only[d5h,hd]at hs ⊢;exact h2 _ _ _ _ hs
theorem g6u:b9b P S f (fun _ _ _=>none:a5y κ El R):=fun ds bs k r h=>by cases h
theorem f3d:a9i (fun _ _ _=>none:a5y κ El R):=fun ds bs k r h=>by cases h
theorem d3j:a01 P S (fun _ _ _ _=>none:Nat→a5y κ El R):=fun f ds bs k r h=>by cases h
theorem c6v {g:Nat} {sem:a5y κ El R} {rest:Nat→a5y κ El R} (h1:b9b P S g sem) (h2:a01 P S rest):a01 P S (fun f ds bs k=>bif Nat.beq f g then sem ds bs k else rest f ds bs k):=by
 intro f ds bs k r h;simp only[d9]at h;split at h
 ·rename_i e;rw[ya2]at e;subst e;exact h1 _ _ _ _ h
 ·exact h2 _ _ _ _ _ h
theorem c6u:y9 (fun _ _ _ _=>none:Nat→a5y κ El R):=fun f ds bs k r h=>by cases h
theorem c2b {g:Nat} {sem:a5y κ El R} {rest:Nat→a5y κ El R} (h1:a9i sem) (h2:y9 rest):y9 (fun f ds bs k=>bif Nat.beq f g then sem ds bs k else rest f ds bs k):=by
 intro f ds bs k r h;cases hb:Nat.beq f g with
 |true=>simp only[hb,yab]at h ⊢;exact h1 _ _ _ _ h
 |false=>simp only[hb,yaa]at h ⊢;exact h2 _ _ _ _ _ h
variable [KdEq κ] {m:Nat} {fn:Func} {code:Code}
theorem f2q (hb:fn.body=some code) {ids:List Nat} (hids:(i7 code).map m8=ids) (hn:a98 ids=true) {id:Nat} (hm:id∈ids):a1e fn id∈i7 code∧m8 (a1e fn id)=id:=by
 rw[←hids]at hm;obtain ⟨b,hbm,rfl⟩:=ya8.1 hm;rw[b36 hb (by rw[hids];exact hn) b hbm];exact ⟨hbm,rfl⟩
theorem d4l {loops:{R:Type}→Nat→St κ El→(Ex→St κ El→Option R)→Option R} (fok:FnOk P f fn code) {ids:List Nat} (hids:(i7 code).map m8=ids) (hn:a98 ids=true) (h:∀i∈ids,e9 P S m fn @loops i) :
 ∀b∈i7 code,a1e fn (m8 b)=b∧e9 P S m fn @loops (m8 b):=
 fun b hb=>⟨b36 fok.body (by rw[hids];exact hn) b hb,h _ (by rw[←hids];exact ya8.2 ⟨b,hb,rfl⟩)⟩
def d66 (P:Program) (S:Sg κ El) (m:Nat) (out:β→Ex×St κ El) (outs:Ex→St κ El→Option β):Prop:=∀e st b,outs e st=some b→(out b).1=e∧d25 P S m st (out b).2
def g96 (P:Program) (S:Sg κ El) (m:Nat) (pr:St κ El→Option (St κ El)) (fc:FC κ El α):Prop:=∀st st1 x,pr st=some st1→fc.dec st1=some x→d25 P S m st (fc.enc x)
theorem e2w {id:Nat} {loops:{R:Type}→Nat→St κ El→(Ex→St κ El→Option R)→Option R}
 {call:{R:Type}→Nat→a5y κ El R}
 {pr:St κ El→Option (St κ El)} {fc:FC κ El α} {step:α→Option (α⊕β)} {outs:Ex→St κ El→Option β} {outk:{R:Type}→β→(Ex→St κ El→Option R)→Option R} (out:β→Ex×St κ El)
 (G:GoodP P S) (fok:FnOk P f fn code) {ids:List Nat} (hids:(i7 code).map m8=ids) (hn:a98 ids=true) (hm:id∈ids)
 (cn:∀{R:Type},y9 (R:=R) call) (cok:∀{R:Type},a01 (R:=R) P S call)
 {inn:List Nat} (hinn:(i7 (a1e fn id)).map m8=inn) (hl:∀i∈inn,e9 P S m fn @loops i)
 (el:∀a,evc P S call (loops (R:=α⊕β)) (a1e fn id) (fc.enc a) (d4u pr fc outs)=step a)
 (hp:g96 P S m pr fc) (ho:d66 P S m out outs)
 (hk:∀{R:Type} b (k:Ex→St κ El→Option R),outk b k=k (out b).1 (out b).2)
 (heq:∀{R:Type} (st:St κ El) (k:Ex→St κ El→Option R),loops id st k=h56 pr fc step outk st k):e9 P S m fn @loops id:=by
 intro nt hnt;obtain ⟨hmem,hfr⟩:=f2q fok.body hids hn hm;refine g6v out G G.ok.mixed cn cok ((fok.dst.mono hnt).body hmem) (fun b hb=>⟨?_,?_⟩) el hp ho hk heq
 ·exact b36 fok.body (by rw[hids];exact hn) b (b13 hmem hb)
 ·exact hl _ (by rw[←hinn];exact ya8.2 ⟨b,hb,rfl⟩) nt hnt
theorem c9 {p:Nat→Prop}:∀i∈([]:List Nat),p i:=fun i h=>by cases h
theorem all_cons {p:Nat→Prop} {n:Nat} {l:List Nat} (h:p n) (hl:∀i∈l,p i):∀i∈n::l,p i:=fun i hi=>by
 rcases yaN.1 hi with rfl|hi
 ·exact h
 ·exact hl i hi
def fnB (P:Program) (f:Nat) (fn:Func) (ids:List Nat):Bool:=
 !(fn.name == "runtime.NumGoroutine")&&(match fn.body with|some c=>e0k fn.ntmps c&&(a98 ids&&beqL ((i7 c).map m8) ids)|none=>false)
where beqL:List Nat→List Nat→Bool
 | [],[]=>true
 |a::l,b::l'=>Nat.beq a b&&beqL l l'
 |_,_=>false
theorem d7y:∀{l l':List Nat},fnB.beqL l l'=true→l=l':=by
 intro l
 induction l with
 |nil=>intro l' h;cases l' with|nil=>rfl|cons=>cases h
 |cons a l ih=>
  intro l' h;cases l' with
  |nil=>cases h
  |cons b l'=>simp only[fnB.beqL,yad,ya2]at h;rw[h.1,ih h.2]
theorem a0p {ids:List Nat} (hat:P.funcs[f]?=some fn) (h:fnB P f fn ids=true):∃code,FnOk P f fn code∧a98 ids=true∧(i7 code).map m8=ids:=by
 unfold fnB at h;rw[yad,yar]at h;obtain ⟨h1,h2⟩:=h;split at h2
 ·rename_i c hc;simp only[yad]at h2;exact ⟨c,⟨hat,h1,hc,e0l h2.1⟩,h2.2.1,d7y h2.2.2⟩
 ·cases h2
def prB (P:Program):Bool:=(List.range P.types.size).all fun t=>match P.underlying t with|none=>false|some _=>true
theorem h8h (h:prB P=true) (hm:P.follows .mixedOrders=true):PrOk P:=by
 refine ⟨fun t i hi=>?_,hm⟩;by_cases ht:t<P.types.size
 ·have:=yam.1 h t (yb2.2 ht);split at this
  ·cases this
  ·rename_i d hd;exact ⟨d,hd⟩
 ·have:=Tables.info?_beyond ht hi;unfold Program.underlying;rw[hi];obtain ⟨desc,_⟩:=i;cases desc with
  |named n u=>cases this
  |_=>exact ⟨_,rfl⟩
theorem g9z {S:Sg κ El} {cc:(k:κ)→CC κ El (El k)} (he:∀k,S.enc k=(cc k).enc) (hd:∀k,S.dec k=(cc k).dec) (hcc:∀k,m6 (cc k)) (hsz:∀k x,((cc k).enc x).length=S.sz k) (hpl:∀k x,((cc k).enc x).all a7v=true) (hpos:∀k,0<S.sz k):SgOk S where
 sz:=fun k x=>by rw[he];exact hsz k x
 plain:=fun k x d h=>by rw[he]at h;exact yam.1 (hpl k x) d h
 pos:=hpos
 dec:=fun k cs x h=>by
  rw[hd]at h;have hw:=hcc k _ _ h;refine ⟨by rw[hw.1];exact hsz k x,fun j d hj=>?_⟩;rw[he]at hj;obtain ⟨d',h1,h2⟩:=hw.get hj;refine ⟨d',h1,?_⟩;have hp:=yam.1 (hpl k x) d (yaf hj);cases h2 with
  |leaf _ _ h=>exact h
  |_=>cases hp
def eqB (P:Program) (t:Nat):Bool:=!(P.eqGuardType P.depth t)&&(!(P.stoodInHeld t)&&(match P.underlying t with|some (.struct fs)=>fs.toList.all (fun f=>!(f.name == "_"))|_=>true))
theorem f0l {t:Nat} (h:eqB P t=true):EqOk P t:=by
 unfold eqB at h;simp only[yad,yar]at h;refine ⟨h.1,h.2.1,fun fs hfs f hf=>?_⟩;have h3:=h.2.2;rw[hfs]at h3;have:=yam.1 h3 f hf;simpa using this
theorem g4i:∀t,(false=true)→EqOk P t:=fun t h=>by cases h
theorem f0m {u:Nat} {q:Nat→Bool} (h:eqB P u=true) (hr:∀t,q t=true→EqOk P t):∀t,(Nat.beq t u||q t)=true→EqOk P t:=fun t ht=>by
 rw[ybg]at ht;rcases ht with ht|ht
 ·rw[ya2]at ht;subst ht;exact f0l h
 ·exact hr t ht
theorem e0c {loops:{R:Type}→Nat→St κ El→(Ex→St κ El→Option R)→Option R} {call:{R:Type}→Nat→a5y κ El R}
 (G:GoodP P S) (fok:FnOk P f fn code) (cn:∀{R:Type},y9 (R:=R) call) (cok:∀{R:Type},a01 (R:=R) P S call)
 {k0 kr:κ} {F:List (El k0)×Unit→Option (List (El kr))} (hmd:S.md f=.fresh)
 (hl:∀b∈i7 code,a1e fn (m8 b)=b∧e9 P S 0 fn @loops (m8 b))
 (e:∀a,a4k P S call (loops (R:=List (El kr))) fn [.lsn k0 a] (c6i (Cod.lst kr))=F (a,()))
 (e0:a4k P S call (loops (R:=List (El kr))) fn [.nil] (c6i (Cod.lst kr))=F ([],())) :
 ∀ds a r,(CC.cons (Cod.lst k0) CC.nil).dec ds=some a→F a=some r→Con P S f ds [] ((Cod.lst kr).enc r) []:=by
 intro ds a r hds hF;obtain ⟨xs,⟨⟩⟩:=a;have hw:=(m6.cons (i5.lst k0) m6.nil) _ _ hds;have hcon:∀ds0,a4k P S call (loops (R:=List (El kr))) fn ds0 (c6i (Cod.lst kr))=some r→Con P S f ds0 [] ((Cod.lst kr).enc r) []:=fun ds0 h0=>b7c G G.ok.mixed fok cn cok hmd hl (WL.refl ds0) h0
 have c1:=hcon [.lsn k0 xs] (by rw[e];exact hF);have c2:xs=[]→Con P S f [.nil] [] ((Cod.lst kr).enc r) []:=fun hx=>hcon [.nil] (by rw[e0];subst hx;exact hF)
 unfold Con at c1 c2 ⊢;rw[hmd]at c1 c2 ⊢;intro hb k ys hd w I J vs hp ha;have ha':=hw.args ha;obtain ⟨hs,hall⟩:=ha';have hs1:vs.size=1:=hs;have h0:vs[0]?=some vs[0]:=yao (by omega);have hv:DR S w I J vs[0] (.lst k0 xs):=hall 0 _ _ h0 rfl;have one:∀d,DR S w I J vs[0] d→c1l S w I J vs [d]:=fun d hd=>⟨by simp[hs1],fun i v d' h1 h2=>by
  cases i with
  |zero=>simp only[yaq,yal]at h2;subst h2;rw[h0]at h1;cases h1;exact hd
  |succ i=>simp at h2⟩
 generalize hv0:vs[0]=v0 at hv one;cases hv with
 |lst0 a cap _ hn=>
  cases a with
  |none=>
   have hc:cap=0:=hn rfl;subst hc;exact c2 rfl hb k ys hd w I J vs hp (one _ .nil)
  |some b=>exact c1 hb k ys hd w I J vs hp (one _ (.lsn b 0 cap k0 [] (.lst0 _ _ _ hn)))
 |lst b off cap _ xs cv hcap hc hv=>exact c1 hb k ys hd w I J vs hp (one _ (.lsn _ _ cap k0 xs (.lst b off cap k0 xs cv hcap hc hv)))
end
end
section
def c3o (P:Program) (rec:Nat→Option (List Nat)):List Field→List Nat→Option (List Nat)
 | [],acc=>some acc
 |f::fs,acc=>bif Nat.beq f.offset acc.length then (match rec f.type with
  |some l=>bif Nat.beq l.length (P.cellsOf f.type) then c3o P rec fs (acc++l) else none
  |none=>none) else none
def f3a (l:List Nat):Nat→List Nat
 |0=>[]
 |n+1=>l++f3a l n
def b0v (P:Program):Nat→Nat→Option (List Nat)
 |0,_=>none
 |n+1,t=>match P.underlying t with
  |some (.struct fs)=>(match c3o P (b0v P n) fs.toList []with|some l=>bif Nat.beq l.length (P.cellsOf t) then some l else none|none=>none)
  |some (.array m e)=>(match b0v P n e with|some l=>bif Nat.beq l.length (P.cellsOf e)&&Nat.beq (f3a l m).length (P.cellsOf t) then some (f3a l m) else none|none=>none)
  |some .bool=>some [t]
  |some (.int _)=>some [t]
  |some .string=>some [t]
  |some (.slice _)=>some [t]
  |_=>none
section
variable {H:Type} {enc:TypeId×Value→H} {P:Program} {w:World}
abbrev TR (enc:TypeId×Value→H) (P:Program) (w:World) (fuel t:Nat) (cs:List Value):=DataW.trod enc P w 0 (fun _=>true) true fuel t cs
def b0l (enc:TypeId×Value→H) (P:Program) (w:World) (ts:List Nat) (cs:List Value):Prop:=
 cs.length=ts.length∧∀(j:Nat) u v,ts[j]?=some u→cs[j]?=some v→∃fuel x,TR enc P w fuel u [v]=some x
theorem b0l.app {l m:List Nat} {cs ds:List Value} (h:b0l enc P w l cs) (h':b0l enc P w m ds):b0l enc P w (l++m) (cs++ds):=by
 refine ⟨by simp[h.1,h'.1],fun j u v h1 h2=>?_⟩;by_cases hj:j<l.length
 ·rw[yaD hj]at h1;rw[yaD (by rw[h.1];exact hj)]at h2;exact h.2 j u v h1 h2
 ·rw[yaG (by omega)]at h1;rw[yaG (by rw[h.1];omega),h.1]at h2;exact h'.2 _ u v h1 h2
theorem b4o {α β:Type} {f:α→Option β}:∀{l:List α} {r:List β},l.mapM f=some r→∀x∈l,∃y,f x=some y:=by
 intro l
 induction l with
 |nil=>intro r _ x hx;cases hx
 |cons a l ih=>
  intro r h x hx;simp only[List.mapM_cons,Option.bind_eq_bind,Option.pure_def]at h;cases ha:f a with
  |none=>rw[ha]at h;cases h
  |some y=>
   rw[ha]at h;simp only[Option.bind_some]at h;cases hl:l.mapM f with
   |none=>rw[hl]at h;cases h
   |some ys=>
    rcases yaN.1 hx with rfl|hx
    ·exact ⟨y,ha⟩
    ·exact ih hl x hx
theorem e2b {rec:Nat→Option (List Nat)} {cs:List Value} (hrec:∀t l,rec t=some l→∀fuel cs x,TR enc P w fuel t cs=some x→b0l enc P w l cs) :
 ∀{fs:List Field} {acc l:List Nat},c3o P rec fs acc=some l→(∀f∈fs,∃fuel x,TR enc P w fuel f.type ((cs.drop f.offset).take (P.cellsOf f.type))=some x)→b0l enc P w acc (cs.take acc.length)→b0l enc P w l (cs.take l.length):=by
 intro fs
 induction fs with
 |nil=>intro acc l h _ hp;simp only[c3o,yal]at h;subst h;exact hp
 |cons f fs ih=>
  intro acc l h hf hp;simp only[c3o,d9]at h;split at h
  rotate_left
  ·cases h
  rename_i ho;rw[ya2]at ho;split at h
  rotate_left
  ·cases h
  rename_i lf hlf;split at h
  rotate_left
  ·cases h
  rename_i hlen;rw[ya2]at hlen;obtain ⟨fuel,x,hx⟩:=hf f (by simp);have h1:=hrec _ _ hlf fuel _ x hx;refine ih h (fun g hg=>hf g (by simp[hg])) ?_;have e:cs.take (acc++lf).length=cs.take acc.length++(cs.drop f.offset).take (P.cellsOf f.type):=by
   rw[yaX,List.take_add,ho,hlen]
  rw[e];exact hp.app h1
theorem b73:∀(n:Nat) {t:Nat} {l:List Nat},b0v P n t=some l→∀fuel cs x,TR enc P w fuel t cs=some x→b0l enc P w l cs:=by
 intro n
 induction n with
 |zero=>intro t l h;cases h
 |succ n ih=>
  intro t l h fuel cs x hx;cases fuel with
  |zero=>cases hx
  |succ fuel=>
   have one:∀{v:Value},cs=[v]→l=[t]→b0l enc P w l cs:=by
    intro v hc hl;subst hc hl;refine ⟨rfl,fun j u v' h1 h2=>?_⟩;cases j with
    |zero=>simp only[yaq,yal]at h1 h2;subst h1 h2;exact ⟨_,_,hx⟩
    |succ j=>simp at h1
   unfold b0v at h;unfold TR DataW.trod at hx;split at h
   ·rename_i fs hu;simp only[hu]at hx;split at h
    rotate_left
    ·cases h
    rename_i l' hl';rw[d9]at h;split at h
    rotate_left
    ·cases h
    rename_i hlen;rw[ya2]at hlen;cases h
    split at hx
    rotate_left
    ·cases hx
    rename_i hcl;rw[yaV]at hx;obtain ⟨xs,hm,-⟩:=hx;have:=e2b (enc:=enc) (w:=w) (cs:=cs) (fun t l h=>ih h) hl' (fun f hf=>let ⟨y,hy⟩:=b4o hm f hf;⟨fuel,y,hy⟩) ⟨by simp,fun j u v h=>by simp at h⟩
    rwa [yb3 (by rw[hcl,hlen];exact yaF _)]at this
   ·rename_i m e hu;simp only[hu]at hx;split at h
    rotate_left
    ·cases h
    rename_i le hle;rw[d9]at h;split at h
    rotate_left
    ·cases h
    rename_i hlen;rw[yad,ya2,ya2]at hlen;cases h
    split at hx
    rotate_left
    ·cases hx
    rename_i hcl;rw[yaV]at hx;obtain ⟨xs,hm,-⟩:=hx;have hel:∀i,i<m→b0l enc P w le ((cs.drop (i*le.length)).take le.length):=by
     intro i hi;obtain ⟨y,hy⟩:=b4o hm i (yb2.2 hi);rw[hlen.1];exact ih hle fuel _ y hy
    have key:∀(m' k:Nat),k+m'=m→∀ds,ds=cs.drop (k*le.length)→ds.length=(f3a le m').length→b0l enc P w (f3a le m') ds:=by
     intro m'
     induction m' with
     |zero=>intro k hk ds hd hl;simp only[f3a,ybP]at hl;rw[yaJ hl];exact ⟨rfl,fun j u v h=>by simp[f3a]at h⟩
     |succ m' ihm=>
      intro k hk ds hd hl;have e1:ds=ds.take le.length++ds.drop le.length:=(ybT _ _).symm;rw[e1];refine b0l.app (l:=le) (m:=f3a le m') (by rw[hd];exact hel k (by omega)) (ihm (k+1) (by omega) _ ?_ ?_)
      ·rw[hd,List.drop_drop,ya0,yb8]
      ·rw[ya5,hl];simp[f3a]
    exact key m 0 (by omega) cs (by simp) (by rw[hcl,hlen.2])
   all_goals (first|(cases h;done)|skip)
   all_goals
    rename_i hu;simp only[yal]at h;simp only[hu]at hx;split at hx<;>first|exact one rfl h.symm|(cases hx;done)|skip
   all_goals (first|exact one rfl h.symm|simp_all)
end
section
variable {κ:Type} {El:κ→Type} {S:Sg κ El} {P:Program} {α β:Type}
def a66 (w:World) (b o:Nat):Prop:=∃v,w.cell? ⟨b,o,none⟩=some v
def j6 (P:Program) (S:Sg κ El) (u:Nat) (c:Cod κ El α) (R:α→Prop):Prop:=
 ∀(H:Type) (enc:TypeId×Value→H) (w:World) fuel v x,TR enc P w fuel u [v]=some x→∃a,R a∧DR S w (a66 w) (a66 w) v (c.enc a)
def e8 (P:Program) (S:Sg κ El) (ts:List Nat) (c:CC κ El α) (R:α→Prop):Prop:=
 ∀(H:Type) (enc:TypeId×Value→H) (w:World) cs,b0l enc P w ts cs→∃a,R a∧cs.length=(c.enc a).length∧∀(i:Nat) v d,cs[i]?=some v→(c.enc a)[i]?=some d→DR S w (a66 w) (a66 w) v d
theorem e8.nil:e8 P S [] (CC.nil:CC κ El Unit) (fun _=>True):=by
 intro H enc w cs h;have:cs=[]:=yaJ (by simpa using h.1);subst this;exact ⟨(),trivial,rfl,fun i v d h=>by simp at h⟩
theorem e8.cons {u:Nat} {ts:List Nat} {c:Cod κ El α} {r:CC κ El β} {R:α→Prop} {R':β→Prop} (h:j6 P S u c R) (h':e8 P S ts r R'):e8 P S (u::ts) (CC.cons c r) (fun p=>R p.1∧R' p.2):=by
 intro H enc w cs hp;cases cs with
 |nil=>exact absurd hp.1 (by simp)
 |cons v cs=>
  obtain ⟨fuel,x,hx⟩:=hp.2 0 u v rfl rfl;obtain ⟨a,ha,hd⟩:=h H enc w fuel v x hx;obtain ⟨b,hb,hl,hall⟩:=h' H enc w cs ⟨by simpa using hp.1,fun j u v h1 h2=>hp.2 (j+1) u v (by simpa using h1) (by simpa using h2)⟩;refine ⟨(a,b),⟨ha,hb⟩,by simp[CC.cons,hl],fun i v' d h1 h2=>?_⟩;cases i with
  |zero=>simp only[CC.cons,yaq,yal]at h1 h2;subst h1 h2;exact hd
  |succ i=>exact hall i v' d (by simpa using h1) (by simpa[CC.cons]using h2)
theorem e8.iso {ts:List Nat} {c:CC κ El β} {enc0:α→List (D κ El)} {to:β→α} {R:β→Prop} {R':α→Prop} (h:e8 P S ts c R) (h0:∀b,enc0 (to b)=c.enc b) (hR:∀b,R b→R' (to b)):e8 P S ts (c.iso enc0 to) R':=by
 intro H enc w cs hp;obtain ⟨b,hb,hl,hall⟩:=h H enc w cs hp;exact ⟨to b,hR b hb,by simp only[CC.iso,h0];exact hl,fun i v d h1 h2=>hall i v d h1 (by simpa only[CC.iso,h0]using h2)⟩
def inK (k:IntKind) (n:Int):Prop:=(Lit.int k n).wf=true
theorem j6.int {u:Nat} {k:IntKind} (hu:P.underlying u=some (.int k)):j6 P S u (Cod.int k) (inK k):=by
 intro H enc w fuel v x hx;cases fuel with
 |zero=>cases hx
 |succ fuel=>
  unfold TR DataW.trod at hx;simp only[hu]at hx;split at hx<;>try (cases hx;done)
  all_goals first
   |(
    rename_i k1 k2 n h1 h2;split at hx
    ·rename_i hk;cases h1;cases h2
     rw[hk.1];exact ⟨n,hk.2,.int _ _⟩
    ·cases hx)
   |simp_all
theorem j6.bool {u:Nat} (hu:P.underlying u=some .bool):j6 P S u (Cod.bool) (fun _=>True):=by
 intro H enc w fuel v x hx;cases fuel with
 |zero=>cases hx
 |succ fuel=>
  unfold TR DataW.trod at hx;simp only[hu]at hx;split at hx<;>try (cases hx;done)
  all_goals first
   |(rename_i b h1 h2;cases h2;exact ⟨b,trivial,.bool _⟩)
   |simp_all
theorem j6.str {u:Nat} (hu:P.underlying u=some .string):j6 P S u (Cod.str) (fun s=>s.length≤maxLen):=by
 intro H enc w fuel v x hx;cases fuel with
 |zero=>cases hx
 |succ fuel=>
  unfold TR DataW.trod at hx;simp only[hu]at hx;split at hx<;>try (cases hx;done)
  all_goals first
   |(
    rename_i s h1 h2;split at hx
    ·rename_i hs;cases h2
     exact ⟨s.data.toList,by simpa using hs,.str _⟩
    ·cases hx)
   |simp_all
theorem j6.lst {u e n:Nat} {k:κ} {ts:List Nat} {cc:CC κ El (El k)} {R:El k→Prop} [KdEq κ] (hu:P.underlying u=some (.slice e)) (hts:b0v P n e=some ts) (he:e8 P S ts cc R) (hcc:S.enc k=cc.enc) (hsz:S.sz k=P.cellsOf e) (hpos:0<P.cellsOf e) (hlen:∀x,(cc.enc x).length=S.sz k) :
 j6 P S u (Cod.lst k) (fun xs=>xs.length≤maxLen∧∀x∈xs,R x):=by
 intro H enc w fuel v x hx;show ∃a:List (El k),(a.length≤maxLen∧∀x∈a,R x)∧DR S w (a66 w) (a66 w) v (.lst k a)
 cases fuel with
 |zero=>cases hx
 |succ fuel=>
  have main:∀(a:Addr) (len cap:Nat),v=.slice (some a) len cap→(len≤cap∧cap≤maxLen)→(∀i,i<len→∃z,(w.cells? 0 (a.add (i*P.cellsOf e)) (P.cellsOf e)).bind (DataW.trod enc P w 0 (fun _=>true) true fuel e)=some z)→
   ∃a:List (El k),(a.length≤maxLen∧∀x∈a,R x)∧DR S w (a66 w) (a66 w) v (.lst k a):=by
   intro a len cap hv hb hm;subst hv;have hel:∀i,i<len→∃y:El k,R y∧∀j d,(S.enc k y)[j]?=some d→∃v,w.cell? ((a.add (i*P.cellsOf e)).add j)=some v∧DR S w (a66 w) (a66 w) v d:=by
    intro i hi;obtain ⟨z,hz⟩:=hm i hi;rw[ybm]at hz;obtain ⟨cs,hcs,htr⟩:=hz;obtain ⟨y,hy,hl,hall⟩:=he H enc w cs (b73 n hts fuel cs z htr);refine ⟨y,hy,fun j d hd=>?_⟩;rw[hcc]at hd;have hj:j<cs.length:=by rw[hl];exact (zL hd)
    obtain ⟨_,hn,hget⟩:=World.cells?_some hcs;refine ⟨cs[j],?_,hall j _ d (yac hj) hd⟩;rw[hget j (by omega)];exact yac hj
   cases len with
   |zero=>exact ⟨[],⟨by simp,fun x hx=>by cases hx⟩,.lst0 _ _ _ (fun h=>by cases h)⟩
   |succ len=>
    have hspot:a.spot=none:=by
     obtain ⟨y,hy,hc⟩:=hel 0 (by omega);have hl0:0<(S.enc k y).length:=by rw[hcc,hlen,hsz];exact hpos
     obtain ⟨v,hv,-⟩:=hc 0 _ (yac hl0);simp only[Nat.zero_mul,Addr.add,yby]at hv;cases hs:a.spot with
     |none=>rfl
     |some q=>unfold World.cell? at hv;simp[hs]at hv;split at hv<;>cases hv
    obtain ⟨b,off,spot⟩:=a;simp only at hspot;subst hspot;have hch:∃xs:List (El k),xs.length=len+1∧(∀x∈xs,R x)∧∀i (hi:i<xs.length) j d,(S.enc k xs[i])[j]?=some d→∃v,w.cell? ⟨b,off+(i*S.sz k+j),none⟩=some v∧DR S w (a66 w) (a66 w) v d:=by
     have:∀m,m≤len+1→∃xs:List (El k),xs.length=m∧(∀x∈xs,R x)∧∀i (hi:i<xs.length) j d,(S.enc k xs[i])[j]?=some d→∃v,w.cell? ⟨b,off+(i*S.sz k+j),none⟩=some v∧DR S w (a66 w) (a66 w) v d:=by
      intro m
      induction m with
      |zero=>intro _;exact ⟨[],rfl,fun x hx=>(by cases hx),fun i hi=>(by simp at hi)⟩
      |succ m ihm=>
       intro hm';obtain ⟨xs,h1,h2,h3⟩:=ihm (by omega);obtain ⟨y,hy,hc⟩:=hel m (by omega);refine ⟨xs++[y],by simp[h1],fun x hx=>?_,fun i hi j d hd=>?_⟩
       ·rcases yas.1 hx with hx|hx
        ·exact h2 x hx
        ·simp at hx;subst hx;exact hy
       ·by_cases hlt:i<xs.length
        ·rw[ybN hlt]at hd;exact h3 i hlt j d hd
        ·have hi':i=m:=by simp at hi;omega
         subst hi';rw[ybJ (by omega)]at hd;simp only[h1,Nat.sub_self,List.getElem_cons_zero]at hd;obtain ⟨v,hv,hdr⟩:=hc j d hd;refine ⟨v,?_,hdr⟩;rw[a0y,a0y]at hv;rw[hsz,←yca];exact hv
     exact this (len+1) (yaF _)
    obtain ⟨xs,h1,h2,h3⟩:=hch;refine ⟨xs,⟨by rw[h1];omega,h2⟩,?_⟩;have key:=DR.lst (S:=S) (w:=w) (I:=a66 w) (J:=a66 w) b off cap k xs (fun i j=>(w.cell? ⟨b,off+(i*S.sz k+j),none⟩).getD undef) (by rw[h1];exact hb.1) (fun i j hi hj=>?_) (fun i hi j d hd=>?_)
    ·rw[h1]at key;exact key
    ·have hl0:j<(S.enc k xs[i]).length:=by rw[hcc,hlen];exact hj
     obtain ⟨v,hv,-⟩:=h3 i hi j _ (yac hl0);rw[hv];exact ⟨rfl,v,hv⟩
    ·obtain ⟨v,hv,hdr⟩:=h3 i hi j d hd;rw[hv];exact hdr
  unfold TR DataW.trod at hx;simp only[hu]at hx;split at hx<;>try (cases hx;done)
  all_goals first
   |(rename_i e' h1 h2;cases h2;exact ⟨[],⟨by simp,fun x hx=>by cases hx⟩,.lst0 _ _ _ (fun _=>rfl)⟩)
   |(
    rename_i e' a len cap h1 h2;cases h1
    split at hx
    ·rename_i hb;rw[ybm]at hx;obtain ⟨elems,hm,-⟩:=hx;exact main a len cap (by cases h2;rfl) hb.2 (fun i hi=>b4o hm i (yb2.2 hi))
    ·cases hx)
   |simp_all
theorem e8.agg {t n:Nat} {ts:List Nat} {cc:CC κ El α} {R:α→Prop} (hts:b0v P n t=some ts) (h:e8 P S ts cc R) {H:Type} {enc:TypeId×Value→H} {w:World} {v:Value} {d:DataW H} {ps:List MemPlace}
 (hv:∃cs,v=.agg cs) (hx:DataW.Trod enc P w 0 (fun _=>true) true t v d ps):∃a,R a∧DR S w (a66 w) (a66 w) v ((Cod.agg cc).enc a):=by
 obtain ⟨cs,rfl⟩:=hv;obtain ⟨fuel,hx⟩:=hx;obtain ⟨a,hR,hl,hall⟩:=h H enc w _ (b73 n hts fuel _ _ hx);refine ⟨a,hR,.agg cs _ (by simpa[Value.cells]using hl) (fun i v d h1 h2=>hall i v d ?_ h2)⟩;simpa[Value.cells]using h1
end
end
section
section
variable {κ:Type} {El:κ→Type} {S:Sg κ El} {P:Program}
theorem d7m {w:World} {b o:Nat} (h:a66 w b o):b<w.heap.size:=by
 obtain ⟨v,hv⟩:=h;unfold World.cell? at hv;split at hv
 ·rename_i hb;exact (yak.1 hb).1
 ·cases hv
theorem e1h {f:Nat} {fn:Func} {code:Code} (fok:FnOk P f fn code) (hmd:S.md f=.data) {ds:List (D κ El)} (hcon:Con P S f ds [] (.bool true) []) {W:World} {args:Array Value} (hgl:b88 S W (a66 W)) (ha:c1l S W (a66 W) (a66 W) args ds) :
 Calls P f args W fun e W'=>e=.returned (.bool true)∧RowKit.Below W.heap.size W W':=by
 unfold Con at hcon;rw[hmd]at hcon;have h:=hcon rfl W (a66 W) (a66 W) args ⟨hgl,fun b o h=>d7m h,fun b o h=>h,fun b o h=>⟨d7m h,by simp⟩⟩ ha;unfold a2y at h;rw[MuLone.run_callFunc_enter fok.at_ fok.name fok.body args W]at h;simp only at h;refine Calls.mono h (fun e W' he=>?_);cases e with
 |returned v=>
  obtain ⟨I',hg,hd⟩:=he;exact ⟨by rw[hd.bool_inv],⟨hg.os,hg.tape,hg.out,hg.size,fun b hb=>hg.keep b hb⟩⟩
 |_=>exact he.elim
theorem e8n {w:World}:c1l S w (a66 w) (a66 w) #[] ([]:List (D κ El)):=⟨rfl,fun i v d h=>by simp at h⟩
theorem c1v {w:World} {v:Value} {vs:Array Value} {d:D κ El} {ds:List (D κ El)} (h:DR S w (a66 w) (a66 w) v d) (h':c1l S w (a66 w) (a66 w) vs ds):c1l S w (a66 w) (a66 w) (#[v]++vs) (d::ds):=by
 refine ⟨by simp[h'.1];omega,fun i v' d' h1 h2=>?_⟩;cases i with
 |zero=>
  simp only[yaq,yal]at h2;subst h2;rw[ybG (by simp)]at h1;simp at h1;subst h1;exact h
 |succ i=>
  rw[ybQ (by simp)]at h1;exact h'.2 i v' d' (by simpa using h1) (by simpa using h2)
theorem f0t {W:World} (h:∀n k xs,S.glob n=some ⟨k,xs⟩→∀i (hi:i<xs.length) j d,(S.enc k xs[i])[j]?=some d→∃v,W.cell? ⟨n,i*S.sz k+j,none⟩=some v∧DR S W (a66 W) (a66 W) v d):b88 S W (a66 W):=
 fun n k xs hg i hi j d hd=>let ⟨v,h1,h2⟩:=h n k xs hg i hi j d hd;⟨v,h1,⟨v,h1⟩,h2⟩
theorem j6.dr {α:Type} {u:Nat} {c:Cod κ El α} {R:α→Prop} (h:j6 P S u c R) {H:Type} {enc:TypeId×Value→H} {w:World} {v:Value} {d:DataW H} {ps:List MemPlace} (hv:v.cells.toList=[v])
 (hx:DataW.Trod enc P w 0 (fun _=>true) true u v d ps):∃a,R a∧DR S w (a66 w) (a66 w) v (c.enc a):=by
 obtain ⟨fuel,hx⟩:=hx;rw[hv]at hx;exact h H enc w fuel v _ hx
end
end
section
section
variable {κ:Type} {El:κ→Type} {α β γ ρ:Type}
class CodC (c:Cod κ El α):Prop where ok:i5 c
class CCC (c:CC κ El α):Prop where ok:m6 c
class FCC (c:FC κ El α):Prop where ok:a77 c
instance (k:IntKind):CodC (Cod.int k:Cod κ El Int):=⟨i5.int k⟩
instance:CodC (Cod.bool:Cod κ El Bool):=⟨i5.bool⟩
instance:CodC (Cod.str:Cod κ El (List UInt8)):=⟨i5.str⟩
instance:CodC (Cod.unit:Cod κ El Unit):=⟨i5.unit⟩
instance (n:Nat):CodC (Cod.ptrc n:Cod κ El Unit):=⟨i5.ptrc n⟩
instance [KdEq κ] (k:κ):CodC (Cod.lst k:Cod κ El (List (El k))):=⟨i5.lst k⟩
instance (c:CC κ El α) [CCC c]:CodC (Cod.agg c):=⟨i5.agg CCC.ok⟩
instance (c:CC κ El α) [CCC c]:CodC (Cod.cptr c):=⟨i5.cptr CCC.ok⟩
instance (c:CC κ El (α×β×Unit)) [CCC c]:CodC (Cod.tup2 c):=⟨i5.tup2 CCC.ok⟩
instance (c:CC κ El (α×β×γ×Unit)) [CCC c]:CodC (Cod.tup3 c):=⟨i5.tup3 CCC.ok⟩
instance (f:Nat) (p:CC κ El α) (c:CC κ El β) [CCC p] [CCC c]:CodC (Cod.fnc f p c):=⟨i5.fnc f CCC.ok CCC.ok⟩
def Cod.clo (f:Nat) (c:CC κ El β):Cod κ El β:=(Cod.fnc f CC.nil c).iso (fun g=>g.2) (fun g=>((),g))
instance (f:Nat) (c:CC κ El β) [CCC c]:CodC (Cod.clo f c):=⟨i5.iso (i5.fnc f m6.nil CCC.ok) (fun _=>rfl)⟩
instance:CCC (CC.nil:CC κ El Unit):=⟨m6.nil⟩
instance (c:Cod κ El α) (r:CC κ El β) [CodC c] [CCC r]:CCC (CC.cons c r):=⟨m6.cons CodC.ok CCC.ok⟩
instance (c:Cod κ El α) [CodC c]:CCC (CC.one c):=⟨m6.one CodC.ok⟩
instance:FCC (FC.nil:FC κ El Unit):=⟨a77.nil⟩
instance (s:Nat) (c:Cod κ El α) (r:FC κ El β) [CodC c] [FCC r]:FCC (FC.slot s c r):=⟨a77.slot s CodC.ok FCC.ok⟩
instance (s b:Nat) (r:FC κ El β) [FCC r]:FCC (FC.ptr s b r):=⟨a77.ptr s b FCC.ok⟩
instance (s b:Nat) (r:FC κ El β) [FCC r]:FCC (FC.arr s b r):=⟨a77.arr s b FCC.ok⟩
instance (s:Nat) (r:FC κ El β) [FCC r]:FCC (FC.nilS s r):=⟨a77.nilS s FCC.ok⟩
instance (s f:Nat) (pre caps:List Nat) (r:FC κ El β) [FCC r]:FCC (FC.clo s f pre caps r):=⟨a77.clo s f pre caps FCC.ok⟩
instance (b:Nat) (c:CC κ El α) (r:FC κ El β) [CCC c] [FCC r]:FCC (FC.box b c r):=⟨a77.box b CCC.ok FCC.ok⟩
instance [KdEq κ] (n:Nat) (k:κ) (s:Bool) (r:FC κ El β) [FCC r]:FCC (FC.own n k s r):=⟨a77.own n k s FCC.ok⟩
end
section
variable {κ:Type} {El:κ→Type} {S:Sg κ El} {P:Program}
variable {R:Type} {f:Nat} {α β ρ:Type}
def cl (n:Nat) (s:a5y κ El R) (r:Nat→a5y κ El R):Nat→a5y κ El R:=fun f ds bs k=>bif Nat.beq f n then s ds bs k else r f ds bs k
def c0:Nat→a5y κ El R:=fun _ _ _ _=>none
def si (ac:CC κ El α) (s1 s2:a5y κ El R):a5y κ El R:=fun ds bs k=>d5h (ac.dec ds) (s1 ds bs k) (s2 ds bs k)
def s0:a5y κ El R:=fun _ _ _=>none
structure CG (P:Program) (S:Sg κ El) (call:{R:Type}→Nat→a5y κ El R):Prop where
 nat:∀{R:Type},y9 (R:=R) call
 ok:∀{R:Type},a01 (R:=R) P S call
structure SG (P:Program) (S:Sg κ El) (f:Nat) (sem:{R:Type}→a5y κ El R):Prop where
 nat:∀{R:Type},a9i (R:=R) sem
 ok:∀{R:Type},b9b (R:=R) P S f sem
theorem cg0:CG P S (fun {R}=>(c0:Nat→a5y κ El R)):=⟨c6u,d3j⟩
theorem cgc {n:Nat} {s:{R:Type}→a5y κ El R} {r:{R:Type}→Nat→a5y κ El R} (h:SG P S n @s) (hr:CG P S @r):CG P S (fun {R}=>cl n (s (R:=R)) (r (R:=R))):=⟨c2b h.nat hr.nat,c6v h.ok hr.ok⟩
theorem sg0:SG P S f (fun {R}=>(s0:a5y κ El R)):=⟨f3d,g6u⟩
theorem sgi {ac:CC κ El α} {s1 s2:{R:Type}→a5y κ El R} (h1:SG P S f @s1) (h2:SG P S f @s2):SG P S f (fun {R}=>si ac (s1 (R:=R)) (s2 (R:=R))):=⟨e4r ac h1.nat h2.nat,f3e ac h1.ok h2.ok⟩
theorem sgP {ac:CC κ El α} {rc:Cod κ El ρ} {F:α→Option ρ} (h:∀ds a r,ac.dec ds=some a→F a=some r→Con P S f ds [] (rc.enc r) []):SG P S f (fun {R}=>(n5 ac rc F:a5y κ El R)):=⟨f3h,g6y h⟩
theorem sgM {ac:CC κ El α} {bc:BC κ El β} {rc:Cod κ El ρ} {F:α→β→Option (ρ×β)} (h:∀ds bs a b r b',ac.dec ds=some a→bc.dec bs=some b→F a b=some (r,b')→Con P S f ds bs (rc.enc r) (bc.enc b')):SG P S f (fun {R}=>(b5z ac bc rc F:a5y κ El R)):=⟨f3f,g6w h⟩
theorem sgN {ac:CC κ El α} {cc:CC κ El ρ} {F:α→Option ρ} (h:∀ds a r,ac.dec ds=some a→F a=some r→Con P S f ds [] (.tup []) [cc.enc r]):SG P S f (fun {R}=>(f8x ac cc F:a5y κ El R)):=⟨f3g,g6x h⟩
theorem SG.con {ac:CC κ El α} {rc:Cod κ El ρ} {F:α→Option ρ} (h:SG P S f (fun {R}=>(n5 ac rc F:a5y κ El R))) {ds:List (D κ El)} {a:α} {r:ρ} (hd:ac.dec ds=some a) (hf:F a=some r):Con P S f ds [] (rc.enc r) []:=by
 obtain ⟨d,bs',h1,h2⟩:=h.ok ds [] (fun d bs=>some (d,bs)) (rc.enc r,[]) (by unfold n5;simp[hd,hf]);cases h1
 exact h2
abbrev Lp (κ:Type) (El:κ→Type) (R:Type):=Nat→St κ El→(Ex→St κ El→Option R)→Option R
def lp (n:Nat) (s:St κ El→(Ex→St κ El→Option R)→Option R) (r:Lp κ El R):Lp κ El R:=fun i st k=>bif Nat.beq i n then s st k else r i st k
def l0:Lp κ El R:=fun _ _ _=>none
variable [KdEq κ] {m:Nat} {fn:Func} {loops:{R:Type}→Lp κ El R} {call:{R:Type}→Nat→a5y κ El R}
theorem ptC {ta:List (Nat×Nat×κ)} {se ss bs as:List Nat} {fc:FC κ El α} [FCC fc] (sgk:SgOk S) (hh:b6s m ta bs as fc.bs fc.as=true):g96 P S m (f2z ta se ss bs as) fc:=g6g sgk FCC.ok hh
theorem prC {rs ps bs:List Nat} {fc:FC κ El α} [FCC fc] (sgk:SgOk S) (hh:b6s (κ:=κ) m [] bs [] fc.bs fc.as=true):g96 P S m (c05 rs ps bs) fc:=d5o sgk FCC.ok hh
theorem a1w {ac:CC κ El α} {rc:Cod κ El ρ} {F:α→Option ρ} [CCC ac] [CodC rc] (G:GoodP P S) (hat:P.funcs[f]?=some fn) {ids:List Nat} (fb:fnB P f fn ids=true) (hmd:S.md f=.data) (cc:CG P S @call)
 (hl:∀i∈ids,e9 P S 0 fn @loops i) (e:∀a,g6s P S call (loops (R:=ρ)) fn (ac.enc a) [] (c6i rc)=F a):SG P S f (fun {R}=>(n5 ac rc F:a5y κ El R)):=by
 obtain ⟨code,fok,hn,hids⟩:=a0p hat fb;exact sgP (e98 G G.ok.mixed fok cc.nat cc.ok CCC.ok CodC.ok hmd (d4l fok hids hn hl) e)
theorem c6h {ac:CC κ El α} {cb:CC κ El β} {rc:Cod κ El ρ} {F:α→β→Option (ρ×β)} [CCC ac] [CCC cb] [CodC rc] (G:GoodP P S) (hat:P.funcs[f]?=some fn) {ids:List Nat} (fb:fnB P f fn ids=true) (hmd:S.md f=.mut) (cc:CG P S @call)
 (hl:∀i∈ids,e9 P S 1 fn @loops i) (e:∀a b,g6s P S call (loops (R:=ρ×β)) fn (ac.enc a) ((BC.one cb).enc b) (h7r rc (BC.one cb))=F a b):SG P S f (fun {R}=>(b5z ac (BC.one cb) rc F:a5y κ El R)):=by
 obtain ⟨code,fok,hn,hids⟩:=a0p hat fb;exact sgM (g0r G G.ok.mixed fok cc.nat cc.ok CCC.ok (e76.one CCC.ok) CodC.ok (m:=1) (fun _=>rfl) (by show 1<99999;decide) hmd (d4l fok hids hn hl) e)
theorem h79 {ac:CC κ El α} {rc:CC κ El ρ} {F:α→Option ρ} [CCC ac] [CCC rc] (G:GoodP P S) (hat:P.funcs[f]?=some fn) {ids:List Nat} (fb:fnB P f fn ids=true) (hmd:S.md f=.newb) (cc:CG P S @call)
 (hl:∀i∈ids,e9 P S 0 fn @loops i) (e:∀a,c8y P S call (loops (R:=ρ)) fn (ac.enc a) (h76 rc)=F a):SG P S f (fun {R}=>(f8x ac rc F:a5y κ El R)):=by
 obtain ⟨code,fok,hn,hids⟩:=a0p hat fb;exact sgN (f0a G G.ok.mixed fok cc.nat cc.ok CCC.ok CCC.ok hmd (d4l fok hids hn hl) e)
theorem h2g {k0 kr:κ} {F:List (El k0)×Unit→Option (List (El kr))} (G:GoodP P S) (hat:P.funcs[f]?=some fn) {ids:List Nat} (fb:fnB P f fn ids=true) (hmd:S.md f=.fresh) (cc:CG P S @call)
 (hl:∀i∈ids,e9 P S 0 fn @loops i) (e:∀a,a4k P S call (loops (R:=List (El kr))) fn [.lsn k0 a] (c6i (Cod.lst kr))=F (a,()))
 (e0:a4k P S call (loops (R:=List (El kr))) fn [.nil] (c6i (Cod.lst kr))=F ([],())):SG P S f (fun {R}=>(n5 (CC.cons (Cod.lst k0) CC.nil) (Cod.lst kr) F:a5y κ El R)):=by
 obtain ⟨code,fok,hn,hids⟩:=a0p hat fb;exact sgP (e0c G fok cc.nat cc.ok hmd (d4l fok hids hn hl) e e0)
theorem h69 {ac:CC κ El α} {kr:κ} {F:List (El kr)×α→Option (List (El kr))} [CCC ac] (G:GoodP P S) (hat:P.funcs[f]?=some fn) {ids:List Nat} (fb:fnB P f fn ids=true) (hmd:S.md f=.inpl) (cc:CG P S @call)
 (hl:∀i∈ids,e9 P S MA fn @loops i) (e:∀a,c8x P S call (loops (R:=List (El kr))) fn kr a.1 (ac.enc a.2) (c6i (Cod.lst kr))=F a):SG P S f (fun {R}=>(n5 (CC.cons (Cod.lst kr) ac) (Cod.lst kr) F:a5y κ El R)):=by
 obtain ⟨code,fok,hn,hids⟩:=a0p hat fb;exact sgP (e99 G G.ok.mixed fok cc.nat cc.ok CCC.ok hmd (d4l fok hids hn hl) e)
end
end
section
section
variable {κ:Type} {El:κ→Type}
inductive OC (κ:Type) (El:κ→Type):Type→Type 1
 |x {α:Type} (i:Nat) (ss bs as:List Nat) (fo:FC κ El α) [h:FCC fo]:OC κ El α
 |r {α:Type} (rs ps bs:List Nat) (fo:FC κ El α) [h:FCC fo]:OC κ El α
 |xs {α β:Type} (i:Nat) (ss bs as:List Nat) (fo:FC κ El α) [h:FCC fo] (rest:OC κ El β):OC κ El (α⊕β)
def OC.outs {β γ:Type}:OC κ El β→(β→γ)→Ex→St κ El→Option γ
 |.x i ss bs as fo (h:=_),f,e,st=>(match e with | .exit j=>bif Nat.beq j i then b4r (f2z [] [] ss bs as) fo st f else none|_=>none)
 |.r rs ps bs fo (h:=_),f,e,st=>(match e with | .ret=>b4r (c05 rs ps bs) fo st f|_=>none)
 |.xs i ss bs as fo rest (h:=_),f,e,st=>(match e with
  |.exit j=>bif Nat.beq j i then b4r (f2z [] [] ss bs as) fo st (fun a=>f (.inl a)) else rest.outs (fun y=>f (.inr y)) (.exit j) st
  |.ret=>rest.outs (fun y=>f (.inr y)) .ret st
  |.normal=>none)
def OC.outk {β R:Type}:OC κ El β→β→(Ex→St κ El→Option R)→Option R
 |.x i _ _ _ fo (h:=_),b,k=>k (.exit i) (fo.enc b)
 |.r _ _ _ fo (h:=_),b,k=>k .ret (fo.enc b)
 |.xs i _ _ _ fo rest (h:=_),b,k=>(match b with | .inl a=>k (.exit i) (fo.enc a) | .inr y=>rest.outk y k)
def OC.out {β:Type}:OC κ El β→β→Ex×St κ El
 |.x i _ _ _ fo (h:=_),b=>(.exit i,fo.enc b)
 |.r _ _ _ fo (h:=_),b=>(.ret,fo.enc b)
 |.xs i _ _ _ fo rest (h:=_),b=>(match b with | .inl a=>(.exit i,fo.enc a) | .inr y=>rest.out y)
def OC.good {β:Type} (m:Nat):OC κ El β→Bool
 |.x _ _ bs as fo (h:=_)=>b6s (κ:=κ) m [] bs as fo.bs fo.as
 |.r _ _ bs fo (h:=_)=>b6s (κ:=κ) m [] bs [] fo.bs fo.as
 |.xs _ _ bs as fo rest (h:=_)=>b6s (κ:=κ) m [] bs as fo.bs fo.as&&rest.good m
theorem OC.outk_out {β R:Type} (k:Ex→St κ El→Option R):∀(o:OC κ El β) (b:β),o.outk b k=k (o.out b).1 (o.out b).2:=by
 intro o
 induction o with
 |x=>intro b;simp only[OC.outk,OC.out]
 |r=>intro b;simp only[OC.outk,OC.out]
 |xs i ss bs as fo rest ih=>
  intro b;cases b with
  |inl x=>simp only[OC.outk,OC.out]
  |inr y=>simp only[OC.outk,OC.out];exact ih y
end
section
variable {κ:Type} {El:κ→Type} {S:Sg κ El} {P:Program} {m:Nat} [KdEq κ]
theorem OC.ok {β:Type} (sgk:SgOk S):∀(o:OC κ El β),o.good m=true→∀{γ:Type} (f:β→γ) (e:Ex) (st:St κ El) (c:γ),o.outs f e st=some c→∃b,c=f b∧(o.out b).1=e∧d25 P S m st (o.out b).2:=by
 intro o
 induction o with
 |x i ss bs as fo=>
  intro hg γ f e st c h;simp only[OC.good]at hg;cases e with
  |exit j=>
   simp only[OC.outs,d9]at h;split at h
   ·rename_i e;rw[ya2]at e;subst e;obtain ⟨x,rfl,hto⟩:=a7s (P:=P) (S:=S) (m:=m) (ptC sgk hg) h;refine ⟨x,rfl,?_⟩;simp only[OC.out];exact ⟨trivial,hto⟩
   ·cases h
  |ret=>simp only[OC.outs]at h;cases h
  |normal=>simp only[OC.outs]at h;cases h
 |r rs ps bs fo=>
  intro hg γ f e st c h;simp only[OC.good]at hg;cases e with
  |exit j=>simp only[OC.outs]at h;cases h
  |normal=>simp only[OC.outs]at h;cases h
  |ret=>
   simp only[OC.outs]at h;obtain ⟨x,rfl,hto⟩:=a7s (P:=P) (S:=S) (m:=m) (prC sgk hg) h;refine ⟨x,rfl,?_⟩;simp only[OC.out];exact ⟨trivial,hto⟩
 |xs i ss bs as fo rest ih=>
  intro hg γ f e st c h;simp only[OC.good,yad]at hg;cases e with
  |normal=>simp only[OC.outs]at h;cases h
  |ret=>
   simp only[OC.outs]at h;obtain ⟨b,h1,h2,h3⟩:=ih hg.2 _ _ _ _ h;refine ⟨.inr b,h1,?_⟩;simp only[OC.out];exact ⟨h2,h3⟩
  |exit j=>
   simp only[OC.outs,d9]at h;split at h
   ·rename_i e;rw[ya2]at e;subst e;obtain ⟨x,rfl,hto⟩:=a7s (P:=P) (S:=S) (m:=m) (ptC sgk hg.1) h;refine ⟨.inl x,rfl,?_⟩;simp only[OC.out];exact ⟨trivial,hto⟩
   ·obtain ⟨b,h1,h2,h3⟩:=ih hg.2 _ _ _ _ h;refine ⟨.inr b,h1,?_⟩;simp only[OC.out];exact ⟨h2,h3⟩
structure LD (κ:Type) (El:κ→Type) (α β:Type) where
 ta:List (Nat×Nat×κ)
 se:List Nat
 ss:List Nat
 bs:List Nat
 as:List Nat
 fc:FC κ El α
 [ok:FCC fc]
 step:α→Option (α⊕β)
 oc:OC κ El β
abbrev LD.pr {α β:Type} (L:LD κ El α β):St κ El→Option (St κ El):=f2z L.ta L.se L.ss L.bs L.as
abbrev LD.sem {α β R:Type} (L:LD κ El α β):St κ El→(Ex→St κ El→Option R)→Option R:=h56 L.pr L.fc L.step (fun b k=>L.oc.outk b k)
abbrev LD.leaf {α β:Type} (L:LD κ El α β):Ex→St κ El→Option (α⊕β):=d4u L.pr L.fc (L.oc.outs (fun b=>b))
def LD.good {α β:Type} (L:LD κ El α β) (m:Nat) (fn:Func) (n:Nat) (ids inn:List Nat):Bool:=
 ids.any (Nat.beq n)&&(fnB.beqL ((i7 (a1e fn n)).map m8) inn&&(b6s m L.ta L.bs L.as L.fc.bs L.fc.as&&L.oc.good m))
variable {f:Nat} {α β ρ:Type} {fn:Func} {loops:{R:Type}→Lp κ El R} {call:{R:Type}→Nat→a5y κ El R}
theorem p8 {n:Nat} (L:LD κ El α β) (G:GoodP P S) (hat:P.funcs[f]?=some fn) {ids:List Nat} (fb:fnB P f fn ids=true) (cc:CG P S @call) {inn:List Nat} (hl:∀i∈inn,e9 P S m fn @loops i)
 (el:∀a,evc P S call (loops (R:=α⊕β)) (a1e fn n) (L.fc.enc a) L.leaf=L.step a) (hb:L.good m fn n ids inn=true)
 (heq:∀{R:Type} (st:St κ El) (k:Ex→St κ El→Option R),loops n st k=L.sem st k):e9 P S m fn @loops n:=by
 obtain ⟨code,fok,hn,hids⟩:=a0p hat fb;unfold LD.good at hb;simp only[yad]at hb;obtain ⟨h1,h2,h3,h4⟩:=hb;have:=L.ok;refine e2w L.oc.out G fok hids hn (a4p.1 h1) cc.nat cc.ok (d7y h2) hl el (ptC G.sgk h3) ?_ (fun b k=>L.oc.outk_out k b) heq;intro e st b h;obtain ⟨b',e1,e2,e3⟩:=L.oc.ok (P:=P) G.sgk h4 _ _ _ _ h;rw[e1];exact ⟨e2,e3⟩
theorem u7 {ac:CC κ El α} {rc:Cod κ El ρ} {F:α→Option ρ} [CCC ac] [CodC rc] (G:GoodP P S) (hat:P.funcs[f]?=some fn) (fb:fnB P f fn []=true) (hmd:S.md f=.data) (cc:CG P S @call)
 (e:∀a,g6s P S call l0 fn (ac.enc a) [] (c6i rc)=F a):SG P S f (fun {R}=>(n5 ac rc F:a5y κ El R)):=a1w (loops:=l0) G hat fb hmd cc c9 e
end
end
section
def a7o {α:Type} (s:List α) (i:Int) (v:List α):Option (List α):=
 match v with
 | [y]=>bif decide (0≤i)&&decide (i≤(s.length:Int))&&decide (s.length+1≤1073741824) then some (s.take i.toNat++y::s.drop i.toNat) else none
 |_=>none
def a7g {α:Type} (s:List α) (i j:Int):Option (List α):=
 bif decide (0≤i)&&decide (i≤j)&&decide (j≤(s.length:Int))&&decide (s.length≤1073741824) then some (s.take i.toNat++s.drop j.toNat) else none
def dcd:List UInt8→Nat×Nat
 | []=>(0,0)
 |a::r=>
  if 32≤a.toNat∧a.toNat<127 then (a.toNat,1)
  else if 194≤a.toNat∧a.toNat<224 then
   (match r with
   |b::_=>if (128≤b.toNat∧b.toNat<192)∧160≤(a.toNat-192)*64+b.toNat-128 then ((a.toNat-192)*64+b.toNat-128,2) else (0,0)
   | []=>(0,0))
  else if 224≤a.toNat∧a.toNat<240 then
   (match r with
   |b::c::_=>
    if ((128≤b.toNat∧b.toNat<192)∧(128≤c.toNat∧c.toNat<192))∧2048≤(a.toNat-224)*4096+(b.toNat-128)*64+c.toNat-128∧
     ((a.toNat-224)*4096+(b.toNat-128)*64+c.toNat-128<55296∨57343<(a.toNat-224)*4096+(b.toNat-128)*64+c.toNat-128) then
     ((a.toNat-224)*4096+(b.toNat-128)*64+c.toNat-128,3) else (0,0)
   |_=>(0,0))
  else (0,0)
def d6y:Nat→List UInt8→Bool
 |0,_=>true
 |n+1,l=>if l=[] then true else if (dcd l).2=0 then false else d6y n (l.drop (dcd l).2)
def vld (s:List UInt8):Bool:=d6y s.length s
def wid (l:List UInt8):Nat:=if (dcd l).2<1 then 1 else (dcd l).2
def blk (c:Nat):Bool:=c==32||c==160
def c1j:Nat→List UInt8→List UInt8→Bool→List UInt8
 |0,_,out,_=>out
 |n+1,l,out,gap=>if l=[] then out else
  if blk (dcd l).1 then c1j n (l.drop (wid l)) out true
  else c1j n (l.drop (wid l)) ((if gap&&!(out==[]) then out++[32] else out)++l.take (wid l)) false
def cln (s:List UInt8):List UInt8:=c1j s.length s [] false
end
end Go.Proofs.YtdahfgialanmpabGreatDoor.Ev
namespace Go.Proofs.YtdahfgialanmpabGreatDoor
open Ev
open Go (IntKind)
section
set_option maxRecDepth 100000
structure V4 (α:Type) where
 x0:α
 x1:α
 x2:α
 x3:α
structure V7 (α:Type) where
 x0:α
 x1:α
 x2:α
 x3:α
 x4:α
 x5:α
 x6:α
structure Custody where
 State:Int
 Branch:Int
 Who:Int
 To:Int
structure Item where
 ID:Int
 Record:Int
 Branch:Int
 Kind:Int
 Price:Int
 Call:List UInt8
 Custody:Custody
structure Patron where
 ID:Int
 Kind:Int
 Branch:Int
 Until:Int
 Stopped:Bool
 Name:List UInt8
structure Loan where
 Item:Int
 Patron:Int
 Out:Int
 Due:Int
 Renewals:Int
 Recalled:Bool
structure Hold where
 ID:Int
 Patron:Int
 Record:Int
 Item:Int
 Pickup:Int
 Placed:Int
 State:Int
 Got:Int
 Until:Int
 Asleep:Int
 Rank:Int
structure Charge where
 ID:Int
 Patron:Int
 Item:Int
 Day:Int
 Kind:Int
 Amount:Int
 Paid:Int
structure Rule where
 Patron:Int
 Item:Int
 Branch:Int
 Days:Int
 Renewals:Int
 Fine:Int
 Grace:Int
 MaxFine:Int
 Loans:Int
 Shelf:Int
 Recall:Int
 Fixed:Int
 Rank:Int
structure Calendar where
 Week:Int
 Closed:List Int
structure Move where
 Day:Int
 Item:Int
 Kind:Int
 Branch:Int
 Who:Int
structure Circ where
 Today:Int
 Items:List Item
 Patrons:List Patron
 Loans:List Loan
 Holds:List Hold
 Charges:List Charge
 Rules:List Rule
 Cals:V4 Calendar
 Moves:List Move
 NextHold:Int
 NextCharge:Int
 Local:Bool
structure Librarylaw33_Deed where
 Kind:Int
 A:Int
 B:Int
 C:Int
 D:Int
structure Circ_desk where
 c:Circ
 err:Int
structure Utf8_acceptRange where
 lo:Int
 hi:Int
inductive Kd where
 |kItem
 |kPatron
 |kLoan
 |kHold
 |kCharge
 |kRule
 |ki64
 |kMove
 |kLibrarylaw33_Deed
 |kbool
 |ku16
 |ku8
 |kUtf8_acceptRange
abbrev El:Kd→Type
 |.kItem=>Item
 |.kPatron=>Patron
 |.kLoan=>Loan
 |.kHold=>Hold
 |.kCharge=>Charge
 |.kRule=>Rule
 |.ki64=>Int
 |.kMove=>Move
 |.kLibrarylaw33_Deed=>Librarylaw33_Deed
 |.kbool=>Bool
 |.ku16=>Int
 |.ku8=>Int
 |.kUtf8_acceptRange=>Utf8_acceptRange
abbrev DD:=D Kd El
abbrev Sm (R:Type):=a5y Kd El R
abbrev a0f {α β:Type} (ta:List (Nat×Nat×Kd)) (se ss bs as:List Nat) (fc:FC Kd El α) [FCC fc] (step:α→Option (α⊕β)) (oc:OC Kd El β):LD Kd El α β:=⟨ta,se,ss,bs,as,fc,step,oc⟩
instance:KdEq Kd where
 dec:=fun a b=>match a,b with
  |.kItem,.kItem=>some ⟨rfl⟩
  |.kPatron,.kPatron=>some ⟨rfl⟩
  |.kLoan,.kLoan=>some ⟨rfl⟩
  |.kHold,.kHold=>some ⟨rfl⟩
  |.kCharge,.kCharge=>some ⟨rfl⟩
  |.kRule,.kRule=>some ⟨rfl⟩
  |.ki64,.ki64=>some ⟨rfl⟩
  |.kMove,.kMove=>some ⟨rfl⟩
  |.kLibrarylaw33_Deed,.kLibrarylaw33_Deed=>some ⟨rfl⟩
  |.kbool,.kbool=>some ⟨rfl⟩
  |.ku16,.ku16=>some ⟨rfl⟩
  |.ku8,.ku8=>some ⟨rfl⟩
  |.kUtf8_acceptRange,.kUtf8_acceptRange=>some ⟨rfl⟩
  |_,_=>none
abbrev wr (k:IntKind) (n:Int):Int:=IntKind.wrap k n
def c7k (x:Custody):List DD:=[.int .i64 x.State,.int .i64 x.Branch,.int .i64 x.Who,.int .i64 x.To]
def w8:CC Kd El Custody:=(CC.cons (Cod.int .i64) (CC.cons (Cod.int .i64) (CC.cons (Cod.int .i64) (CC.cons (Cod.int .i64) CC.nil)))).iso c7k (fun p=>⟨p.1,p.2.1,p.2.2.1,p.2.2.2.1⟩)
def f0h (x:Item):List DD:=[.int .i64 x.ID,.int .i64 x.Record,.int .i64 x.Branch,.int .i64 x.Kind,.int .i64 x.Price,.str x.Call,.int .i64 x.Custody.State,.int .i64 x.Custody.Branch,.int .i64 x.Custody.Who,.int .i64 x.Custody.To]
def u4:CC Kd El Item:=(CC.cons (Cod.int .i64) (CC.cons (Cod.int .i64) (CC.cons (Cod.int .i64) (CC.cons (Cod.int .i64) (CC.cons (Cod.int .i64) (CC.cons Cod.str (CC.cons (Cod.int .i64) (CC.cons (Cod.int .i64) (CC.cons (Cod.int .i64) (CC.cons (Cod.int .i64) CC.nil)))))))))).iso f0h (fun p=>⟨p.1,p.2.1,p.2.2.1,p.2.2.2.1,p.2.2.2.2.1,p.2.2.2.2.2.1,⟨p.2.2.2.2.2.2.1,p.2.2.2.2.2.2.2.1,p.2.2.2.2.2.2.2.2.1,p.2.2.2.2.2.2.2.2.2.1⟩⟩)
def d4e (x:Patron):List DD:=[.int .i64 x.ID,.int .i64 x.Kind,.int .i64 x.Branch,.int .i64 x.Until,.bool x.Stopped,.str x.Name]
def a0c:CC Kd El Patron:=(CC.cons (Cod.int .i64) (CC.cons (Cod.int .i64) (CC.cons (Cod.int .i64) (CC.cons (Cod.int .i64) (CC.cons Cod.bool (CC.cons Cod.str CC.nil)))))).iso d4e (fun p=>⟨p.1,p.2.1,p.2.2.1,p.2.2.2.1,p.2.2.2.2.1,p.2.2.2.2.2.1⟩)
def f0i (x:Loan):List DD:=[.int .i64 x.Item,.int .i64 x.Patron,.int .i64 x.Out,.int .i64 x.Due,.int .i64 x.Renewals,.bool x.Recalled]
def a1u:CC Kd El Loan:=(CC.cons (Cod.int .i64) (CC.cons (Cod.int .i64) (CC.cons (Cod.int .i64) (CC.cons (Cod.int .i64) (CC.cons (Cod.int .i64) (CC.cons Cod.bool CC.nil)))))).iso f0i (fun p=>⟨p.1,p.2.1,p.2.2.1,p.2.2.2.1,p.2.2.2.2.1,p.2.2.2.2.2.1⟩)
def f0g (x:Hold):List DD:=[.int .i64 x.ID,.int .i64 x.Patron,.int .i64 x.Record,.int .i64 x.Item,.int .i64 x.Pickup,.int .i64 x.Placed,.int .i64 x.State,.int .i64 x.Got,.int .i64 x.Until,.int .i64 x.Asleep,.int .i64 x.Rank]
def y3:CC Kd El Hold:=(CC.cons (Cod.int .i64) (CC.cons (Cod.int .i64) (CC.cons (Cod.int .i64) (CC.cons (Cod.int .i64) (CC.cons (Cod.int .i64) (CC.cons (Cod.int .i64) (CC.cons (Cod.int .i64) (CC.cons (Cod.int .i64) (CC.cons (Cod.int .i64) (CC.cons (Cod.int .i64) (CC.cons (Cod.int .i64) CC.nil))))))))))).iso f0g (fun p=>⟨p.1,p.2.1,p.2.2.1,p.2.2.2.1,p.2.2.2.2.1,p.2.2.2.2.2.1,p.2.2.2.2.2.2.1,p.2.2.2.2.2.2.2.1,p.2.2.2.2.2.2.2.2.1,p.2.2.2.2.2.2.2.2.2.1,p.2.2.2.2.2.2.2.2.2.2.1⟩)
def d4d (x:Charge):List DD:=[.int .i64 x.ID,.int .i64 x.Patron,.int .i64 x.Item,.int .i64 x.Day,.int .i64 x.Kind,.int .i64 x.Amount,.int .i64 x.Paid]
def a4r:CC Kd El Charge:=(CC.cons (Cod.int .i64) (CC.cons (Cod.int .i64) (CC.cons (Cod.int .i64) (CC.cons (Cod.int .i64) (CC.cons (Cod.int .i64) (CC.cons (Cod.int .i64) (CC.cons (Cod.int .i64) CC.nil))))))).iso d4d (fun p=>⟨p.1,p.2.1,p.2.2.1,p.2.2.2.1,p.2.2.2.2.1,p.2.2.2.2.2.1,p.2.2.2.2.2.2.1⟩)
def f0k (x:Rule):List DD:=[.int .i64 x.Patron,.int .i64 x.Item,.int .i64 x.Branch,.int .i64 x.Days,.int .i64 x.Renewals,.int .i64 x.Fine,.int .i64 x.Grace,.int .i64 x.MaxFine,.int .i64 x.Loans,.int .i64 x.Shelf,.int .i64 x.Recall,.int .i64 x.Fixed,.int .i64 x.Rank]
def a3h:CC Kd El Rule:=(CC.cons (Cod.int .i64) (CC.cons (Cod.int .i64) (CC.cons (Cod.int .i64) (CC.cons (Cod.int .i64) (CC.cons (Cod.int .i64) (CC.cons (Cod.int .i64) (CC.cons (Cod.int .i64) (CC.cons (Cod.int .i64) (CC.cons (Cod.int .i64) (CC.cons (Cod.int .i64) (CC.cons (Cod.int .i64) (CC.cons (Cod.int .i64) (CC.cons (Cod.int .i64) CC.nil))))))))))))).iso f0k (fun p=>⟨p.1,p.2.1,p.2.2.1,p.2.2.2.1,p.2.2.2.2.1,p.2.2.2.2.2.1,p.2.2.2.2.2.2.1,p.2.2.2.2.2.2.2.1,p.2.2.2.2.2.2.2.2.1,p.2.2.2.2.2.2.2.2.2.1,p.2.2.2.2.2.2.2.2.2.2.1,p.2.2.2.2.2.2.2.2.2.2.2.1,p.2.2.2.2.2.2.2.2.2.2.2.2.1⟩)
def c2w (x:Calendar):List DD:=[.int .i64 x.Week,.lst .ki64 x.Closed]
def u0:CC Kd El Calendar:=(CC.cons (Cod.int .i64) (CC.cons (Cod.lst Kd.ki64) CC.nil)).iso c2w (fun p=>⟨p.1,p.2.1⟩)
def f0j (x:Move):List DD:=[.int .i64 x.Day,.int .i64 x.Item,.int .i64 x.Kind,.int .i64 x.Branch,.int .i64 x.Who]
def b0n:CC Kd El Move:=(CC.cons (Cod.int .i64) (CC.cons (Cod.int .i64) (CC.cons (Cod.int .i64) (CC.cons (Cod.int .i64) (CC.cons (Cod.int .i64) CC.nil))))).iso f0j (fun p=>⟨p.1,p.2.1,p.2.2.1,p.2.2.2.1,p.2.2.2.2.1⟩)
def f0f (x:Circ):List DD:=[.int .i64 x.Today,.lst .kItem x.Items,.lst .kPatron x.Patrons,.lst .kLoan x.Loans,.lst .kHold x.Holds,.lst .kCharge x.Charges,.lst .kRule x.Rules,.int .i64 x.Cals.x0.Week,.lst .ki64 x.Cals.x0.Closed,.int .i64 x.Cals.x1.Week,.lst .ki64 x.Cals.x1.Closed,.int .i64 x.Cals.x2.Week,.lst .ki64 x.Cals.x2.Closed,.int .i64 x.Cals.x3.Week,.lst .ki64 x.Cals.x3.Closed,.lst .kMove x.Moves,.int .i64 x.NextHold,.int .i64 x.NextCharge,.bool x.Local]
def j5:CC Kd El Circ:=(CC.cons (Cod.int .i64) (CC.cons (Cod.lst Kd.kItem) (CC.cons (Cod.lst Kd.kPatron) (CC.cons (Cod.lst Kd.kLoan) (CC.cons (Cod.lst Kd.kHold) (CC.cons (Cod.lst Kd.kCharge) (CC.cons (Cod.lst Kd.kRule) (CC.cons (Cod.int .i64) (CC.cons (Cod.lst Kd.ki64) (CC.cons (Cod.int .i64) (CC.cons (Cod.lst Kd.ki64) (CC.cons (Cod.int .i64) (CC.cons (Cod.lst Kd.ki64) (CC.cons (Cod.int .i64) (CC.cons (Cod.lst Kd.ki64) (CC.cons (Cod.lst Kd.kMove) (CC.cons (Cod.int .i64) (CC.cons (Cod.int .i64) (CC.cons Cod.bool CC.nil))))))))))))))))))).iso f0f (fun p=>⟨p.1,p.2.1,p.2.2.1,p.2.2.2.1,p.2.2.2.2.1,p.2.2.2.2.2.1,p.2.2.2.2.2.2.1,⟨⟨p.2.2.2.2.2.2.2.1,p.2.2.2.2.2.2.2.2.1⟩,⟨p.2.2.2.2.2.2.2.2.2.1,p.2.2.2.2.2.2.2.2.2.2.1⟩,⟨p.2.2.2.2.2.2.2.2.2.2.2.1,p.2.2.2.2.2.2.2.2.2.2.2.2.1⟩,⟨p.2.2.2.2.2.2.2.2.2.2.2.2.2.1,p.2.2.2.2.2.2.2.2.2.2.2.2.2.2.1⟩⟩,p.2.2.2.2.2.2.2.2.2.2.2.2.2.2.2.1,p.2.2.2.2.2.2.2.2.2.2.2.2.2.2.2.2.1,p.2.2.2.2.2.2.2.2.2.2.2.2.2.2.2.2.2.1,p.2.2.2.2.2.2.2.2.2.2.2.2.2.2.2.2.2.2.1⟩)
def a7k (x:Librarylaw33_Deed):List DD:=[.int .i64 x.Kind,.int .i64 x.A,.int .i64 x.B,.int .i64 x.C,.int .i64 x.D]
def a0b:CC Kd El Librarylaw33_Deed:=(CC.cons (Cod.int .i64) (CC.cons (Cod.int .i64) (CC.cons (Cod.int .i64) (CC.cons (Cod.int .i64) (CC.cons (Cod.int .i64) CC.nil))))).iso a7k (fun p=>⟨p.1,p.2.1,p.2.2.1,p.2.2.2.1,p.2.2.2.2.1⟩)
def c0c (x:Circ_desk):List DD:=[.int .i64 x.c.Today,.lst .kItem x.c.Items,.lst .kPatron x.c.Patrons,.lst .kLoan x.c.Loans,.lst .kHold x.c.Holds,.lst .kCharge x.c.Charges,.lst .kRule x.c.Rules,.int .i64 x.c.Cals.x0.Week,.lst .ki64 x.c.Cals.x0.Closed,.int .i64 x.c.Cals.x1.Week,.lst .ki64 x.c.Cals.x1.Closed,.int .i64 x.c.Cals.x2.Week,.lst .ki64 x.c.Cals.x2.Closed,.int .i64 x.c.Cals.x3.Week,.lst .ki64 x.c.Cals.x3.Closed,.lst .kMove x.c.Moves,.int .i64 x.c.NextHold,.int .i64 x.c.NextCharge,.bool x.c.Local,.int .i64 x.err]
def m9:CC Kd El Circ_desk:=(CC.cons (Cod.int .i64) (CC.cons (Cod.lst Kd.kItem) (CC.cons (Cod.lst Kd.kPatron) (CC.cons (Cod.lst Kd.kLoan) (CC.cons (Cod.lst Kd.kHold) (CC.cons (Cod.lst Kd.kCharge) (CC.cons (Cod.lst Kd.kRule) (CC.cons (Cod.int .i64) (CC.cons (Cod.lst Kd.ki64) (CC.cons (Cod.int .i64) (CC.cons (Cod.lst Kd.ki64) (CC.cons (Cod.int .i64) (CC.cons (Cod.lst Kd.ki64) (CC.cons (Cod.int .i64) (CC.cons (Cod.lst Kd.ki64) (CC.cons (Cod.lst Kd.kMove) (CC.cons (Cod.int .i64) (CC.cons (Cod.int .i64) (CC.cons Cod.bool (CC.cons (Cod.int .i64) CC.nil)))))))))))))))))))).iso c0c (fun p=>⟨⟨p.1,p.2.1,p.2.2.1,p.2.2.2.1,p.2.2.2.2.1,p.2.2.2.2.2.1,p.2.2.2.2.2.2.1,⟨⟨p.2.2.2.2.2.2.2.1,p.2.2.2.2.2.2.2.2.1⟩,⟨p.2.2.2.2.2.2.2.2.2.1,p.2.2.2.2.2.2.2.2.2.2.1⟩,⟨p.2.2.2.2.2.2.2.2.2.2.2.1,p.2.2.2.2.2.2.2.2.2.2.2.2.1⟩,⟨p.2.2.2.2.2.2.2.2.2.2.2.2.2.1,p.2.2.2.2.2.2.2.2.2.2.2.2.2.2.1⟩⟩,p.2.2.2.2.2.2.2.2.2.2.2.2.2.2.2.1,p.2.2.2.2.2.2.2.2.2.2.2.2.2.2.2.2.1,p.2.2.2.2.2.2.2.2.2.2.2.2.2.2.2.2.2.1,p.2.2.2.2.2.2.2.2.2.2.2.2.2.2.2.2.2.2.1⟩,p.2.2.2.2.2.2.2.2.2.2.2.2.2.2.2.2.2.2.2.1⟩)
def a8n (x:Utf8_acceptRange):List DD:=[.int .u8 x.lo,.int .u8 x.hi]
def a2l:CC Kd El Utf8_acceptRange:=(CC.cons (Cod.int .u8) (CC.cons (Cod.int .u8) CC.nil)).iso a8n (fun p=>⟨p.1,p.2.1⟩)
def b3q (x:V4 Calendar):List DD:=[.int .i64 x.x0.Week,.lst .ki64 x.x0.Closed,.int .i64 x.x1.Week,.lst .ki64 x.x1.Closed,.int .i64 x.x2.Week,.lst .ki64 x.x2.Closed,.int .i64 x.x3.Week,.lst .ki64 x.x3.Closed]
def a5p:CC Kd El (V4 Calendar):=(CC.cons (Cod.int .i64) (CC.cons (Cod.lst Kd.ki64) (CC.cons (Cod.int .i64) (CC.cons (Cod.lst Kd.ki64) (CC.cons (Cod.int .i64) (CC.cons (Cod.lst Kd.ki64) (CC.cons (Cod.int .i64) (CC.cons (Cod.lst Kd.ki64) CC.nil)))))))).iso b3q (fun p=>⟨⟨p.1,p.2.1⟩,⟨p.2.2.1,p.2.2.2.1⟩,⟨p.2.2.2.2.1,p.2.2.2.2.2.1⟩,⟨p.2.2.2.2.2.2.1,p.2.2.2.2.2.2.2.1⟩⟩)
def c7l (x:V7 Bool):List DD:=[.bool x.x0,.bool x.x1,.bool x.x2,.bool x.x3,.bool x.x4,.bool x.x5,.bool x.x6]
def a02:CC Kd El (V7 Bool):=(CC.cons Cod.bool (CC.cons Cod.bool (CC.cons Cod.bool (CC.cons Cod.bool (CC.cons Cod.bool (CC.cons Cod.bool (CC.cons Cod.bool CC.nil))))))).iso c7l (fun p=>⟨p.1,p.2.1,p.2.2.1,p.2.2.2.1,p.2.2.2.2.1,p.2.2.2.2.2.1,p.2.2.2.2.2.2.1⟩)
def ccK:(k:Kd)→CC Kd El (El k)
 |.kItem=>u4
 |.kPatron=>a0c
 |.kLoan=>a1u
 |.kHold=>y3
 |.kCharge=>a4r
 |.kRule=>a3h
 |.ki64=>CC.one (Cod.int .i64)
 |.kMove=>b0n
 |.kLibrarylaw33_Deed=>a0b
 |.kbool=>CC.one Cod.bool
 |.ku16=>CC.one (Cod.int .u16)
 |.ku8=>CC.one (Cod.int .u8)
 |.kUtf8_acceptRange=>a2l
def h8e:Kd→Nat
 |.kItem=>10
 |.kPatron=>6
 |.kLoan=>6
 |.kHold=>11
 |.kCharge=>7
 |.kRule=>13
 |.ki64=>1
 |.kMove=>5
 |.kLibrarylaw33_Deed=>5
 |.kbool=>1
 |.ku16=>1
 |.ku8=>1
 |.kUtf8_acceptRange=>2
def h8d (t:Nat):Option Kd:=bif Nat.beq t 291 then some .ku8 else bif Nat.beq t 290 then some .ku8 else bif Nat.beq t 253 then some .kUtf8_acceptRange else bif Nat.beq t 235 then some .ki64 else bif Nat.beq t 223 then some .ku16 else bif Nat.beq t 142 then some .kMove else bif Nat.beq t 84 then some .kRule else bif Nat.beq t 74 then some .kCharge else bif Nat.beq t 64 then some .kPatron else bif Nat.beq t 59 then some .kHold else bif Nat.beq t 56 then some .kLoan else bif Nat.beq t 47 then some .kItem else bif Nat.beq t 41 then some .kLibrarylaw33_Deed else bif Nat.beq t 38 then some .ki64 else bif Nat.beq t 6 then some .ku8 else bif Nat.beq t 5 then some .ku8 else bif Nat.beq t 4 then some .kbool else bif Nat.beq t 3 then some .ki64 else bif Nat.beq t 2 then some .ki64 else none
def a1x:List Int:=[0,32770,41316,42344,6160,8268,8320,8704,16,4112,32784,49152,0]
def w9:List Int:=(List.range 256).map fun c=>(Go.Lib.firstT c:Int)
def j7:List Utf8_acceptRange:=(List.range 16).map fun i=>⟨(Go.Lib.accLo i:Int),(Go.Lib.accHi i:Int)⟩
def e0z (t:Nat):Option ((k:Kd)×List (El k)):=bif Nat.beq t 2 then some ⟨.kUtf8_acceptRange,j7⟩ else bif Nat.beq t 1 then some ⟨.ku8,w9⟩ else bif Nat.beq t 0 then some ⟨.ku16,a1x⟩ else none
def h8g (f:Nat):Md:=bif Nat.beq f 219 then .inpl else bif Nat.beq f 218 then .inpl else bif Nat.beq f 210 then .cons else bif Nat.beq f 189 then .cons else bif Nat.beq f 180 then .fresh else bif Nat.beq f 179 then .cons else bif Nat.beq f 166 then .inpl else bif Nat.beq f 156 then .cons else bif Nat.beq f 155 then .inpl else bif Nat.beq f 129 then .fresh else bif Nat.beq f 123 then .fresh else bif Nat.beq f 122 then .cons else bif Nat.beq f 113 then .cons else bif Nat.beq f 108 then .fresh else bif Nat.beq f 107 then .fresh else bif Nat.beq f 104 then .inpl else bif Nat.beq f 85 then .mut else bif Nat.beq f 84 then .mut else bif Nat.beq f 83 then .mut else bif Nat.beq f 76 then .mut else bif Nat.beq f 75 then .mut else bif Nat.beq f 73 then .mut else bif Nat.beq f 62 then .mut else bif Nat.beq f 60 then .mut else bif Nat.beq f 54 then .mut else bif Nat.beq f 53 then .mut else bif Nat.beq f 50 then .mut else bif Nat.beq f 48 then .mut else bif Nat.beq f 43 then .mut else bif Nat.beq f 42 then .mut else bif Nat.beq f 41 then .mut else bif Nat.beq f 40 then .mut else bif Nat.beq f 39 then .newb else .data
def h24 (t:Nat):Bool:=Nat.beq t 45||(false)
def sg:Sg Kd El:=⟨fun k=>(ccK k).enc,fun k=>(ccK k).dec,h8e,h8d,e0z,h8g,h24⟩
def a1j (x y:Custody):Bool:=(x.State==y.State&&(x.Branch==y.Branch&&(x.Who==y.Who&&(x.To==y.To&&true))))
abbrev ZC:=CC Kd El
abbrev ZF:=FC Kd El
abbrev ZD:=Cod Kd El
abbrev Zi:ZD Int:=Cod.int .i64
abbrev Zb:ZD Bool:=Cod.bool
abbrev Zl (k:Kd):ZD (List (El k)):=Cod.lst k
abbrev Zn:ZC Unit:=CC.nil
abbrev Zz:ZF Unit:=FC.nil
section
variable {α β:Type}
abbrev Zc:ZD α→ZC β→ZC (α×β):=CC.cons
abbrev Zs:Nat→ZD α→ZF β→ZF (α×β):=FC.slot
abbrev Zp:Nat→Nat→ZF β→ZF β:=FC.ptr
abbrev Zx:Nat→ZC α→ZF β→ZF (α×β):=FC.box
end
abbrev ZN:Circ:=⟨0,[],[],[],[],[],[],⟨⟨0,[]⟩,⟨0,[]⟩,⟨0,[]⟩,⟨0,[]⟩⟩,[],0,0,false⟩
end
section
def qd6 (s:List Item) (i:Int) (v:List Item):Option (List Item):=a7o s i v
def qd3 (s:List Patron) (i:Int) (v:List Patron):Option (List Patron):=a7o s i v
def qd5 (s:List Loan) (i:Int) (v:List Loan):Option (List Loan):=a7o s i v
def qd8 (s:List Hold) (i j:Int):Option (List Hold):=a7g s i j
def qd7 (s:List Loan) (i j:Int):Option (List Loan):=a7g s i j
def qc3 (s:List Int):Option (List Int):=bif decide (s.length≤LIM) then some (s.mergeSort fun x y=>decide (x≤y)) else none
def qdk (s:List Int):Option (List Int):=bif decide (s.length≤LIM) then some (Go.Lib.compact s) else none
def qc1 {γ0:Type} (p:γ0→Hold→Hold→Option Int) (s:List Hold) (a m b:Int) (g:γ0):Option (List Hold):=none
def qdg (s:List UInt8):Option Bool:=bif decide (s.length≤LIM) then some (vld s) else none
def qej (s:List UInt8):Option (List UInt8):=bif decide (s.length≤LIM)&&vld s then some (cln s) else none
end
section
set_option maxRecDepth 100000
def d5v:(Int×Circ×Unit)→Option ((Int×Circ×Unit)⊕((Circ×Unit)⊕(Bool×Unit))):=fun (i,c,_)=>
 bif decide (i<(c.Items.length:Int)) then match m7 c.Items i with|some x =>bif decide (300<(x.Call.length:Int)) then some (.inr (.inr (false,()))) else some (.inl (wr .i64 (i+1),c,()))|none =>none else some (.inr (.inl (c,())))
def d5w:(Int×Circ×Unit)→Option ((Int×Circ×Unit)⊕((Circ×Unit)⊕(Bool×Unit))):=fun (i,c,_)=>
 bif decide (i<(c.Patrons.length:Int)) then match m7 c.Patrons i with|some x =>bif decide (300<(x.Name.length:Int)) then some (.inr (.inr (false,()))) else some (.inl (wr .i64 (i+1),c,()))|none =>none else some (.inr (.inl (c,())))
def b1j:(Int×Circ×Unit)→Option ((Int×Circ×Unit)⊕((Unit)⊕(Bool×Unit))):=fun (i,c,_)=>
 bif decide (i<4) then let k (v:Int) (v8:List Int):Option ((Int×Circ×Unit)⊕((Unit)⊕(Bool×Unit))):=bif decide (20<(v8.length:Int)) then some (.inr (.inr (false,()))) else some (.inl (wr .i64 (i+1),c,()));bif i==0 then k c.Cals.x0.Week c.Cals.x0.Closed else bif i==1 then k c.Cals.x1.Week c.Cals.x1.Closed else bif i==2 then k c.Cals.x2.Week c.Cals.x2.Closed else bif i==3 then k c.Cals.x3.Week c.Cals.x3.Closed else none else some (.inr (.inl (())))
def qb (c:Circ):Option Bool:=
 let k16 (v:Bool):Option Bool:=let k15 (v1:Bool):Option Bool:=let k14 (v2:Bool):Option Bool:=let k13 (v3:Bool):Option Bool:=let k12 (v4:Bool):Option Bool:=let k (v5:Bool):Option Bool:=bif v5 then some false else match b8 d5v (0,c,()) with|some (.inl (c6,_)) =>(match b8 d5w (0,c6,()) with|some (.inl (c7,_)) =>(match b8 b1j (0,c7,()) with|some (.inl (_)) =>some true|some (.inr (v9,_)) =>some v9|none =>none)|some (.inr (v10,_)) =>some v10|none =>none)|some (.inr (v11,_)) =>some v11|none =>none;bif v4 then k true else k (decide (200<(c.Moves.length:Int)));bif v3 then k12 true else k12 (decide (10<(c.Rules.length:Int)));bif v2 then k13 true else k13 (decide (30<(c.Charges.length:Int)));bif v1 then k14 true else k14 (decide (12<(c.Loans.length:Int)));bif v then k15 true else k15 (decide (12<(c.Holds.length:Int)));bif decide (10<(c.Items.length:Int)) then k16 true else k16 (decide (8<(c.Patrons.length:Int)))
def qbq (s:List UInt8) (i:Int):Option (Int×Int):=
 match m7 s i with|some b =>let k35 (v:Bool):Option (Int×Int):=bif v then some (wr .i64 (b.toNat:Int),1) else let k34 (v1:Bool):Option (Int×Int):=let k33 (v2:Bool):Option (Int×Int):=let k32 (v4:Bool):Option (Int×Int):=let k31 (v6:Bool):Option (Int×Int):=let k (v8:Int) (v9:Int):Option (Int×Int):=some (v8,v9);bif v6 then match m7 s (wr .i64 (i+1)) with|some b7 =>bif decide (160≤wr .i64 ((wr .i64 ((wr .i64 ((wr .i64 ((wr .i64 (b.toNat:Int))-192))*64))+(wr .i64 (b7.toNat:Int))))-128)) then k (wr .i64 ((wr .i64 ((wr .i64 ((wr .i64 ((wr .i64 (b.toNat:Int))-192))*64))+(wr .i64 (b7.toNat:Int))))-128)) 2 else k 0 0|none =>none else let k30 (v10:Bool):Option (Int×Int):=let k29 (v11:Bool):Option (Int×Int):=let k28 (v13:Bool):Option (Int×Int):=let k27 (v15:Bool):Option (Int×Int):=let k26 (v17:Bool):Option (Int×Int):=let k25 (v19:Bool):Option (Int×Int):=bif v19 then match m7 s (wr .i64 (i+1)) with|some b20 =>(match m7 s (wr .i64 (i+2)) with|some b21 =>let k24 (v23:Bool):Option (Int×Int):=bif v23 then some (wr .i64 ((wr .i64 ((wr .i64 ((wr .i64 ((wr .i64 ((wr .i64 (b.toNat:Int))-224))*4096))+(wr .i64 ((wr .i64 ((wr .i64 (b20.toNat:Int))-128))*64))))+(wr .i64 (b21.toNat:Int))))-128),3) else some (0,0);bif decide (2048≤wr .i64 ((wr .i64 ((wr .i64 ((wr .i64 ((wr .i64 ((wr .i64 (b.toNat:Int))-224))*4096))+(wr .i64 ((wr .i64 ((wr .i64 (b20.toNat:Int))-128))*64))))+(wr .i64 (b21.toNat:Int))))-128)) then bif decide (wr .i64 ((wr .i64 ((wr .i64 ((wr .i64 ((wr .i64 ((wr .i64 (b.toNat:Int))-224))*4096))+(wr .i64 ((wr .i64 ((wr .i64 (b20.toNat:Int))-128))*64))))+(wr .i64 (b21.toNat:Int))))-128)<55296) then k24 true else k24 (decide (57343<wr .i64 ((wr .i64 ((wr .i64 ((wr .i64 ((wr .i64 ((wr .i64 (b.toNat:Int))-224))*4096))+(wr .i64 ((wr .i64 ((wr .i64 (b20.toNat:Int))-128))*64))))+(wr .i64 (b21.toNat:Int))))-128))) else k24 false|none =>none)|none =>none else some (0,0);bif v17 then match m7 s (wr .i64 (i+2)) with|some b18 =>k25 (decide ((b18.toNat:Int)<192))|none =>none else k25 false;bif v15 then match m7 s (wr .i64 (i+2)) with|some b16 =>k26 (decide (128≤(b16.toNat:Int)))|none =>none else k26 false;bif v13 then match m7 s (wr .i64 (i+1)) with|some b14 =>k27 (decide ((b14.toNat:Int)<192))|none =>none else k27 false;bif v11 then match m7 s (wr .i64 (i+1)) with|some b12 =>k28 (decide (128≤(b12.toNat:Int)))|none =>none else k28 false;bif v10 then k29 (decide (wr .i64 (i+2)<(s.length:Int))) else k29 false;bif decide (224≤wr .i64 (b.toNat:Int)) then k30 (decide (wr .i64 (b.toNat:Int)<240)) else k30 false;bif v4 then match m7 s (wr .i64 (i+1)) with|some b5 =>k31 (decide ((b5.toNat:Int)<192))|none =>none else k31 false;bif v2 then match m7 s (wr .i64 (i+1)) with|some b3 =>k32 (decide (128≤(b3.toNat:Int)))|none =>none else k32 false;bif v1 then k33 (decide (wr .i64 (i+1)<(s.length:Int))) else k33 false;bif decide (194≤wr .i64 (b.toNat:Int)) then k34 (decide (wr .i64 (b.toNat:Int)<224)) else k34 false;bif decide (32≤wr .i64 (b.toNat:Int)) then k35 (decide (wr .i64 (b.toNat:Int)<127)) else k35 false|none =>none
def b8e:((List UInt8)×Int×Unit)→Option (((List UInt8)×Int×Unit)⊕((Unit)⊕(Bool×Unit))):=fun (s,i,_)=>
 bif decide (i<(s.length:Int)) then match qbq s i with|some (r1,r2) =>bif r2==0 then some (.inr (.inr (false,()))) else some (.inl (s,wr .i64 (i+r2),()))|none =>none else some (.inr (.inl (())))
def qai (s:List UInt8):Option Bool:=
 match b8 b8e (s,0,()) with|some (.inl (_)) =>some true|some (.inr (v,_)) =>some v|none =>none
def qe (s:List UInt8) (i:Int):Option Int:=
 match qbq s i with|some (r1,r2) =>some (if r2<1 then 1 else r2)|none =>none
def qaj (c:Int):Option Bool:=
 let k (v:Bool):Option Bool:=some v;bif c==32 then k true else k (c==160)
def b8a:((List UInt8)×(List UInt8)×Bool×Int×Unit)→Option (((List UInt8)×(List UInt8)×Bool×Int×Unit)⊕(((List UInt8)×Unit))):=fun (s,vout,gap,i,_)=>
 bif decide (i<(s.length:Int)) then match qbq s i with|some (r1,r2) =>(match qe s i with|some r4 =>(match qaj r1 with|some r6 =>let k11 (vout9:List UInt8) (gap10:Bool):Option (((List UInt8)×(List UInt8)×Bool×Int×Unit)⊕(((List UInt8)×Unit))):=some (.inl (s,vout9,gap10,wr .i64 (i+r4),()));bif r6 then k11 vout true else let k8 (v:Bool):Option (((List UInt8)×(List UInt8)×Bool×Int×Unit)⊕(((List UInt8)×Unit))):=let k (vout7:List UInt8):Option (((List UInt8)×(List UInt8)×Bool×Int×Unit)⊕(((List UInt8)×Unit))):=bif decide (0≤(i:Int))&&(decide ((i:Int)≤wr .i64 (i+r4))&&decide (wr .i64 (i+r4)≤(s.length:Int))) then bif decide (vout7.length+((s.take (wr .i64 (i+r4)).toNat).drop (i:Int).toNat).length≤LIM) then k11 (vout7++((s.take (wr .i64 (i+r4)).toNat).drop (i:Int).toNat)) false else none else none;bif v then bif decide (vout.length+([32]).length≤LIM) then k (vout++([32])) else none else k vout;bif gap then k8 (!(vout==([]))) else k8 false|none =>none)|none =>none)|none =>none else some (.inr ((vout,())))
def qa4 (s:List UInt8):Option (List UInt8):=
 match b8 b8a (s,[],false,0,()) with|some ((vout,_)) =>some vout|none =>none
def b45:((List Patron)×Int×Unit)→Option (((List Patron)×Int×Unit)⊕((Unit)⊕(Int×Unit))):=fun (l,i,_)=>
 bif decide (i<(l.length:Int)) then match m7 l i with|some x =>let k18 (v:Bool):Option (((List Patron)×Int×Unit)⊕((Unit)⊕(Int×Unit))):=bif v then some (.inr (.inr (2,()))) else let k17 (v2:Bool):Option (((List Patron)×Int×Unit)⊕((Unit)⊕(Int×Unit))):=bif v2 then some (.inr (.inr (7,()))) else let k16 (v3:Bool):Option (((List Patron)×Int×Unit)⊕((Unit)⊕(Int×Unit))):=let k15 (v4:Bool):Option (((List Patron)×Int×Unit)⊕((Unit)⊕(Int×Unit))):=let k14 (v5:Bool):Option (((List Patron)×Int×Unit)⊕((Unit)⊕(Int×Unit))):=bif v5 then some (.inr (.inr (1,()))) else let k13 (v6:Bool):Option (((List Patron)×Int×Unit)⊕((Unit)⊕(Int×Unit))):=bif v6 then some (.inr (.inr (2,()))) else let k12 (v8:Bool):Option (((List Patron)×Int×Unit)⊕((Unit)⊕(Int×Unit))):=let k (v11:Bool):Option (((List Patron)×Int×Unit)⊕((Unit)⊕(Int×Unit))):=bif v11 then some (.inr (.inr (3,()))) else bif decide (200<(x.Name.length:Int)) then some (.inr (.inr (4,()))) else some (.inl (l,wr .i64 (i+1),()));bif v8 then k true else match qa4 x.Name with|some r10 =>k (!(r10==x.Name))|none =>none;bif x.Name==([]) then k12 true else match qai x.Name with|some r7 =>k12 (!r7)|none =>none;bif decide (x.Until<0) then k13 true else k13 (decide (109572<x.Until));bif v4 then k14 true else k14 (decide (4<x.Branch));bif v3 then k15 true else k15 (decide (x.Branch<1));bif decide (x.Kind<1) then k16 true else k16 (decide (9<x.Kind));bif decide (0<i) then match m7 l (wr .i64 (i-1)) with|some x1 =>k17 (decide (x.ID≤x1.ID))|none =>none else k17 false;bif decide (x.ID<1) then k18 true else k18 (decide (9999<x.ID))|none =>none else some (.inr (.inl (())))
def qar (l:List Patron):Option Int:=
 bif decide (32<(l.length:Int)) then some 13 else match b8 b45 (l,0,()) with|some (.inl (_)) =>some 0|some (.inr (v,_)) =>some v|none =>none
def b44:((List Loan)×Int×Unit)→Option (((List Loan)×Int×Unit)⊕((Unit)⊕(Int×Unit))):=fun (l,i,_)=>
 bif decide (i<(l.length:Int)) then match m7 l i with|some x =>let k21 (v:Bool):Option (((List Loan)×Int×Unit)⊕((Unit)⊕(Int×Unit))):=bif v then some (.inr (.inr (7,()))) else let k20 (v2:Bool):Option (((List Loan)×Int×Unit)⊕((Unit)⊕(Int×Unit))):=let k19 (v3:Bool):Option (((List Loan)×Int×Unit)⊕((Unit)⊕(Int×Unit))):=let k18 (v4:Bool):Option (((List Loan)×Int×Unit)⊕((Unit)⊕(Int×Unit))):=let k17 (v5:Bool):Option (((List Loan)×Int×Unit)⊕((Unit)⊕(Int×Unit))):=let k16 (v6:Bool):Option (((List Loan)×Int×Unit)⊕((Unit)⊕(Int×Unit))):=let k15 (v7:Bool):Option (((List Loan)×Int×Unit)⊕((Unit)⊕(Int×Unit))):=let k14 (v8:Bool):Option (((List Loan)×Int×Unit)⊕((Unit)⊕(Int×Unit))):=let k13 (v9:Bool):Option (((List Loan)×Int×Unit)⊕((Unit)⊕(Int×Unit))):=let k12 (v10:Bool):Option (((List Loan)×Int×Unit)⊕((Unit)⊕(Int×Unit))):=let k (v11:Bool):Option (((List Loan)×Int×Unit)⊕((Unit)⊕(Int×Unit))):=bif v11 then some (.inr (.inr (2,()))) else some (.inl (l,wr .i64 (i+1),()));bif v10 then k true else k (decide (10<x.Renewals));bif v9 then k12 true else k12 (decide (x.Renewals<0));bif v8 then k13 true else k13 (decide (x.Due<x.Out));bif v7 then k14 true else k14 (decide (109572<x.Due));bif v6 then k15 true else k15 (decide (x.Due<0));bif v5 then k16 true else k16 (decide (109572<x.Out));bif v4 then k17 true else k17 (decide (x.Out<0));bif v3 then k18 true else k18 (decide (9999<x.Patron));bif v2 then k19 true else k19 (decide (x.Patron<1));bif decide (x.Item<1) then k20 true else k20 (decide (9999<x.Item));bif decide (0<i) then match m7 l (wr .i64 (i-1)) with|some x1 =>k21 (decide (x.Item≤x1.Item))|none =>none else k21 false|none =>none else some (.inr (.inl (())))
def qaq (l:List Loan):Option Int:=
 bif decide (64<(l.length:Int)) then some 13 else match b8 b44 (l,0,()) with|some (.inl (_)) =>some 0|some (.inr (v,_)) =>some v|none =>none
def qen (n:Int):Option Bool:=
 let k (v:Bool):Option Bool:=some v;bif decide (1≤n) then k (decide (n≤9999)) else k false
def qe3 (n:Int):Option Bool:=
 let k (v:Bool):Option Bool:=some v;bif decide (0≤n) then k (decide (n≤109572)) else k false
def qdu (h:Hold):Option Int:=
 let k41 (v:Bool):Option Int:=let k40 (v2:Bool):Option Int:=let k39 (v5:Bool):Option Int:=let k38 (v9:Bool):Option Int:=let k37 (v10:Bool):Option Int:=let k36 (v11:Bool):Option Int:=let k35 (v14:Bool):Option Int:=let k34 (v18:Bool):Option Int:=let k33 (v21:Bool):Option Int:=let k32 (v24:Bool):Option Int:=let k31 (v25:Bool):Option Int:=let k30 (v26:Bool):Option Int:=bif v26 then some 2 else let k29 (v27:Bool):Option Int:=bif v27 then some 1 else let k (v28:Bool):Option Int:=bif v28 then some 12 else some 0;bif !((decide (0<h.Got))==(!(h.State==1))) then k true else k (!((decide (0<h.Until))==(h.State==3)));bif decide (h.State<1) then k29 true else k29 (decide (3<h.State));bif v25 then k30 true else k30 (decide (9<h.Rank));bif v24 then k31 true else k31 (decide (h.Rank<0));bif v21 then k32 true else match qe3 h.Asleep with|some r23 =>k32 (!r23)|none =>none;bif v18 then k33 true else match qe3 h.Until with|some r20 =>k33 (!r20)|none =>none;bif v14 then k34 true else bif !(h.Got==0) then match qen h.Got with|some r16 =>k34 (!r16)|none =>none else k34 false;bif v11 then k35 true else match qe3 h.Placed with|some r13 =>k35 (!r13)|none =>none;bif v10 then k36 true else k36 (decide (4<h.Pickup));bif v9 then k37 true else k37 (decide (h.Pickup<1));bif v5 then k38 true else bif !(h.Item==0) then match qen h.Item with|some r7 =>k38 (!r7)|none =>none else k38 false;bif v2 then k39 true else match qen h.Record with|some r4 =>k39 (!r4)|none =>none;bif v then k40 true else match qen h.Patron with|some r1 =>k40 (!r1)|none =>none;bif decide (h.ID<1) then k41 true else k41 (decide (99999<h.ID))
def c8k:((List Hold)×Int×Unit)→Option (((List Hold)×Int×Unit)⊕(((List Hold)×Unit)⊕(Int×Unit))):=fun (l,i,_)=>
 bif decide (i<(l.length:Int)) then let k (v:Bool):Option (((List Hold)×Int×Unit)⊕(((List Hold)×Unit)⊕(Int×Unit))):=bif v then some (.inr (.inr (7,()))) else match m7 l i with|some x2 =>(match qdu x2 with|some r3 =>bif !(r3==0) then some (.inr (.inr (r3,()))) else some (.inl (l,wr .i64 (i+1),()))|none =>none)|none =>none;bif decide (0<i) then match m7 l i with|some x =>(match m7 l (wr .i64 (i-1)) with|some x1 =>k (decide (x.ID≤x1.ID))|none =>none)|none =>none else k false else some (.inr (.inl (l,())))
def b5l:((List Hold)×Int×Int×Unit)→Option (((List Hold)×Int×Int×Unit)⊕(((List Hold)×Int×Unit)⊕(Int×Unit))):=fun (l,i,k,_)=>
 bif decide (k<i) then match m7 l i with|some x =>(match m7 l k with|some x5 =>let k14 (v:Bool):Option (((List Hold)×Int×Int×Unit)⊕(((List Hold)×Int×Unit)⊕(Int×Unit))):=let k13 (v12:Bool):Option (((List Hold)×Int×Int×Unit)⊕(((List Hold)×Int×Unit)⊕(Int×Unit))):=bif v12 then some (.inr (.inr (7,()))) else some (.inl (l,i,wr .i64 (k+1),()));bif v then k13 true else match m7 l i with|some x8 =>bif decide (0<x8.Got) then match m7 l i with|some x9 =>(match m7 l k with|some x10 =>k13 (x9.Got==x10.Got)|none =>none)|none =>none else k13 false|none =>none;bif x.Patron==x5.Patron then match m7 l i with|some x6 =>(match m7 l k with|some x7 =>k14 (x6.Record==x7.Record)|none =>none)|none =>none else k14 false|none =>none)|none =>none else some (.inr (.inl (l,i,())))
def b80:((List Hold)×Int×Unit)→Option (((List Hold)×Int×Unit)⊕((Unit)⊕(Int×Unit))):=fun (l,i,_)=>
 bif decide (i<(l.length:Int)) then match b8 b5l (l,i,0,()) with|some (.inl (l15,i16,_)) =>some (.inl (l15,wr .i64 (i16+1),()))|some (.inr (v,_)) =>some (.inr (.inr (v,())))|none =>none else some (.inr (.inl (())))
def qk (l:List Hold):Option Int:=
 bif decide (64<(l.length:Int)) then some 13 else match b8 c8k (l,0,()) with|some (.inl (l4,_)) =>(match b8 b80 (l4,0,()) with|some (.inl (_)) =>some 0|some (.inr (v,_)) =>some v|none =>none)|some (.inr (v17,_)) =>some v17|none =>none
def qfd (n:Int):Option Bool:=
 let k (v:Bool):Option Bool:=some v;bif decide (0≤n) then k (decide (n≤109572)) else k false
def b4z:((List Charge)×Int×Unit)→Option (((List Charge)×Int×Unit)⊕((Unit)⊕(Int×Unit))):=fun (l,i,_)=>
 bif decide (i<(l.length:Int)) then match m7 l i with|some x =>let k22 (v:Bool):Option (((List Charge)×Int×Unit)⊕((Unit)⊕(Int×Unit))):=bif v then some (.inr (.inr (7,()))) else let k21 (v2:Bool):Option (((List Charge)×Int×Unit)⊕((Unit)⊕(Int×Unit))):=let k20 (v3:Bool):Option (((List Charge)×Int×Unit)⊕((Unit)⊕(Int×Unit))):=let k19 (v4:Bool):Option (((List Charge)×Int×Unit)⊕((Unit)⊕(Int×Unit))):=let k18 (v5:Bool):Option (((List Charge)×Int×Unit)⊕((Unit)⊕(Int×Unit))):=let k17 (v6:Bool):Option (((List Charge)×Int×Unit)⊕((Unit)⊕(Int×Unit))):=let k16 (v8:Bool):Option (((List Charge)×Int×Unit)⊕((Unit)⊕(Int×Unit))):=bif v8 then some (.inr (.inr (2,()))) else let k15 (v9:Bool):Option (((List Charge)×Int×Unit)⊕((Unit)⊕(Int×Unit))):=bif v9 then some (.inr (.inr (1,()))) else let k14 (v10:Bool):Option (((List Charge)×Int×Unit)⊕((Unit)⊕(Int×Unit))):=let k13 (v11:Bool):Option (((List Charge)×Int×Unit)⊕((Unit)⊕(Int×Unit))):=let k (v12:Bool):Option (((List Charge)×Int×Unit)⊕((Unit)⊕(Int×Unit))):=bif v12 then some (.inr (.inr (2,()))) else some (.inl (l,wr .i64 (i+1),()));bif v11 then k true else k (decide (x.Amount≤x.Paid));bif v10 then k13 true else k13 (decide (x.Paid<0));bif decide (x.Amount<1) then k14 true else k14 (decide (100000000<x.Amount));bif decide (x.Kind<1) then k15 true else k15 (decide (3<x.Kind));bif v6 then k16 true else match qfd x.Day with|some r7 =>k16 (!r7)|none =>none;bif v5 then k17 true else k17 (decide (9999<x.Item));bif v4 then k18 true else k18 (decide (x.Item<1));bif v3 then k19 true else k19 (decide (9999<x.Patron));bif v2 then k20 true else k20 (decide (x.Patron<1));bif decide (x.ID<1) then k21 true else k21 (decide (99999<x.ID));bif decide (0<i) then match m7 l (wr .i64 (i-1)) with|some x1 =>k22 (decide (x.ID≤x1.ID))|none =>none else k22 false|none =>none else some (.inr (.inl (())))
def qa3 (l:List Charge):Option Int:=
 bif decide (128<(l.length:Int)) then some 13 else match b8 b4z (l,0,()) with|some (.inl (_)) =>some 0|some (.inr (v,_)) =>some v|none =>none
def qbi (n:Int) (low:Int) (high:Int):Option Bool:=
 let k (v:Bool):Option Bool:=some v;bif decide (low≤n) then k (decide (n≤high)) else k false
def qc8 (r:Rule):Option Bool:=
 match qbi r.Patron 0 9 with|some r2 =>let k48 (v:Bool):Option Bool:=let k47 (v7:Bool):Option Bool:=match qbi r.Days 0 365 with|some r9 =>let k46 (v12:Bool):Option Bool:=let k45 (v15:Bool):Option Bool:=match qbi r.Fine 0 1000 with|some r17 =>let k44 (v20:Bool):Option Bool:=let k43 (v23:Bool):Option Bool:=let k42 (v24:Bool):Option Bool:=let k41 (v25:Bool):Option Bool:=let k40 (v28:Bool):Option Bool:=let k39 (v31:Bool):Option Bool:=let k38 (v34:Bool):Option Bool:=let k (v37:Bool):Option Bool:=some v37;bif v34 then match qbi r.Rank 0 9 with|some r36 =>k r36|none =>none else k false;bif v31 then match qbi r.Fixed 0 109572 with|some r33 =>k38 r33|none =>none else k38 false;bif v28 then match qbi r.Recall 1 60 with|some r30 =>k39 r30|none =>none else k39 false;bif v25 then match qbi r.Shelf 1 60 with|some r27 =>k40 r27|none =>none else k40 false;bif v24 then k41 v23 else k41 false;bif v7 then k42 v15 else k42 false;bif v20 then match qbi r.MaxFine 0 100000000 with|some r22 =>k43 r22|none =>none else k43 false;bif r17 then match qbi r.Grace 0 30 with|some r19 =>k44 r19|none =>none else k44 false|none =>none;bif v12 then match qbi r.Loans 0 99 with|some r14 =>k45 r14|none =>none else k45 false;bif r9 then match qbi r.Renewals 0 10 with|some r11 =>k46 r11|none =>none else k46 false|none =>none;bif v then match qbi r.Branch 0 4 with|some r6 =>k47 r6|none =>none else k47 false;bif r2 then match qbi r.Item 0 9 with|some r4 =>k48 r4|none =>none else k48 false|none =>none
def c8j:((List Rule)×Int×Int×Unit)→Option (((List Rule)×Int×Int×Unit)⊕(((List Rule)×Int×Unit)⊕(Int×Unit))):=fun (l,i,k,_)=>
 bif decide (k<i) then match m7 l k with|some x =>(match m7 l i with|some x2 =>let k9 (v:Bool):Option (((List Rule)×Int×Int×Unit)⊕(((List Rule)×Int×Unit)⊕(Int×Unit))):=let k8 (v7:Bool):Option (((List Rule)×Int×Int×Unit)⊕(((List Rule)×Int×Unit)⊕(Int×Unit))):=bif v7 then some (.inr (.inr (7,()))) else some (.inl (l,i,wr .i64 (k+1),()));bif v then match m7 l k with|some x5 =>(match m7 l i with|some x6 =>k8 (x5.Branch==x6.Branch)|none =>none)|none =>none else k8 false;bif x.Patron==x2.Patron then match m7 l k with|some x3 =>(match m7 l i with|some x4 =>k9 (x3.Item==x4.Item)|none =>none)|none =>none else k9 false|none =>none)|none =>none else some (.inr (.inl (l,i,())))
def d53:((List Rule)×Int×Unit)→Option (((List Rule)×Int×Unit)⊕((Unit)⊕(Int×Unit))):=fun (l,i,_)=>
 bif decide (i<(l.length:Int)) then match m7 l i with|some x =>(match qc8 x with|some r1 =>(bif !r1 then some (.inr (.inr (2,()))) else match b8 c8j (l,i,0,()) with|some (.inl (l10,i11,_)) =>some (.inl (l10,wr .i64 (i11+1),()))|some (.inr (v,_)) =>some (.inr (.inr (v,())))|none =>none)|none =>none)|none =>none else some (.inr (.inl (())))
def qj (l:List Rule):Option Int:=
 bif decide (32<(l.length:Int)) then some 13 else match b8 d53 (l,0,()) with|some (.inl (_)) =>some 0|some (.inr (v,_)) =>some v|none =>none
def c8p:(Int×Calendar×Unit)→Option ((Int×Calendar×Unit)⊕((Calendar×Unit)⊕(Int×Unit))):=fun (i,c,_)=>
 bif decide (i<(c.Closed.length:Int)) then match m7 c.Closed i with|some x =>(let k (v:Bool):Option ((Int×Calendar×Unit)⊕((Calendar×Unit)⊕(Int×Unit))):=bif v then some (.inr (.inr (2,()))) else some (.inl (wr .i64 (i+1),c,()));bif decide (x<0) then k true else match m7 c.Closed i with|some x1 =>k (decide (109572<x1))|none =>none)|none =>none else some (.inr (.inl (c,())))
def b5n:(Int×Calendar×Unit)→Option ((Int×Calendar×Unit)⊕((Unit)⊕(Int×Unit))):=fun (i,c,_)=>
 bif decide (i<(c.Closed.length:Int)) then match m7 c.Closed i with|some x =>(match m7 c.Closed (wr .i64 (i-1)) with|some x3 =>bif decide (x≤x3) then some (.inr (.inr (7,()))) else some (.inl (wr .i64 (i+1),c,()))|none =>none)|none =>none else some (.inr (.inl (())))
def qw (c:Calendar):Option Int:=
 let k (v:Bool):Option Int:=bif v then some 1 else bif decide (64<(c.Closed.length:Int)) then some 13 else match b8 c8p (0,c,()) with|some (.inl (c2,_)) =>(match b8 b5n (1,c2,()) with|some (.inl (_)) =>some 0|some (.inr (v4,_)) =>some v4|none =>none)|some (.inr (v5,_)) =>some v5|none =>none;bif decide (c.Week<0) then k true else k (decide (126<c.Week))
def b8m:((List Patron)×Int×Int×Unit)→Option (((List Patron)×Int×Int×Unit)⊕((Unit)⊕(Int×Unit))):=fun (l,vid,i,_)=>
 bif decide (i<(l.length:Int)) then match m7 l i with|some x =>bif x.ID==vid then some (.inr (.inr (i,()))) else some (.inl (l,vid,wr .i64 (i+1),()))|none =>none else some (.inr (.inl (())))
def qay (l:List Patron) (vid:Int):Option Int:=
 match b8 b8m (l,vid,0,()) with|some (.inl (_)) =>some (-1)|some (.inr (v,_)) =>some v|none =>none
def qcf (l:List Patron) (vid:Int):Option (Patron×Bool):=
 match qay l vid with|some r1 =>(bif decide (r1<0) then some ((⟨0,0,0,0,false,[]⟩:Patron),false) else match m7 l r1 with|some x =>some (x,true)|none =>none)|none =>none
def qdv (branch:Int):Option Custody:=
 some (⟨1,branch,0,0⟩:Custody)
def qfk (state:Int):Option Bool:=
 let k6 (v:Bool):Option Bool:=let k5 (v1:Bool):Option Bool:=let k4 (v2:Bool):Option Bool:=let k (v3:Bool):Option Bool:=some v3;bif v2 then k true else k (state==10);bif v1 then k4 true else k4 (state==9);bif v then k5 true else k5 (state==8);bif state==4 then k6 true else k6 (state==5)
def qdw (c:Custody):Option Bool:=
 let k17 (v:Bool):Option Bool:=let k16 (v1:Bool):Option Bool:=let k15 (v2:Bool):Option Bool:=bif v2 then some false else let k10 (v9:Bool):Option Bool:=some v9;bif c.State==6 then let k8 (v3:Bool):Option Bool:=let k7 (v4:Bool):Option Bool:=let k (v5:Bool):Option Bool:=bif v5 then k10 (!(c.To==c.Branch)) else k10 false;bif v4 then k (decide (c.To≤4)) else k false;bif v3 then k7 (decide (1≤c.To)) else k7 false;bif decide (0≤c.Who) then k8 (decide (c.Who≤9999)) else k8 false else bif !(c.To==0) then some false else match qfk c.State with|some r11 =>let k14 (v13:Bool):Option Bool:=some v13;bif r11 then bif decide (1≤c.Who) then k14 (decide (c.Who≤9999)) else k14 false else some (c.Who==0)|none =>none;bif v1 then k15 true else k15 (decide (4<c.Branch));bif v then k16 true else k16 (decide (c.Branch<1));bif decide (c.State<1) then k17 true else k17 (decide (12<c.State))
def qez (m:Move):Option Bool:=
 let k16 (v:Bool):Option Bool:=let k15 (v1:Bool):Option Bool:=let k14 (v2:Bool):Option Bool:=let k13 (v3:Bool):Option Bool:=let k12 (v4:Bool):Option Bool:=let k11 (v5:Bool):Option Bool:=let k10 (v6:Bool):Option Bool:=let k9 (v7:Bool):Option Bool:=let k (v8:Bool):Option Bool:=some v8;bif v7 then k (decide (m.Who≤9999)) else k false;bif v6 then k9 (decide (0≤m.Who)) else k9 false;bif v5 then k10 (decide (m.Branch≤4)) else k10 false;bif v4 then k11 (decide (1≤m.Branch)) else k11 false;bif v3 then k12 (decide (m.Kind≤15)) else k12 false;bif v2 then k13 (decide (1≤m.Kind)) else k13 false;bif v1 then k14 (decide (m.Item≤9999)) else k14 false;bif v then k15 (decide (1≤m.Item)) else k15 false;bif decide (0≤m.Day) then k16 (decide (m.Day≤109572)) else k16 false
def qcu (kind:Int):Option (List Int):=
 bif kind==1 then some ([1]) else bif kind==2 then some ([2,5]) else bif kind==3 then some ([3,5]) else bif kind==4 then some ([4,8,9,10]) else let k (v:Bool):Option (List Int):=bif v then some ([2,3]) else bif kind==6 then some ([2,3,5]) else bif kind==7 then some ([6]) else bif kind==9 then some ([7]) else bif kind==10 then some ([3]) else bif kind==11 then some ([4]) else bif kind==12 then some ([4,9]) else bif kind==13 then some ([2,3,5,6,7]) else bif kind==14 then some ([11]) else bif kind==15 then some ([1,2,3,11,10]) else some ([]);bif kind==5 then k (kind==5) else k (kind==8)
def b8h:(Int×(List Int)×Int×Unit)→Option ((Int×(List Int)×Int×Unit)⊕((Unit)⊕(Bool×Unit))):=fun (state,l,i,_)=>
 bif decide (i<(l.length:Int)) then match m7 l i with|some x =>bif x==state then some (.inr (.inr (true,()))) else some (.inl (state,l,wr .i64 (i+1),()))|none =>none else some (.inr (.inl (())))
def qan (state:Int) (kind:Int):Option Bool:=
 match qcu kind with|some r1 =>(match b8 b8h (state,r1,0,()) with|some (.inl (_)) =>some false|some (.inr (v,_)) =>some v|none =>none)|none =>none
def qdi (c:Custody) (m:Move):Option Bool:=
 let k14 (v2:Bool):Option Bool:=let k11 (v10:Bool):Option Bool:=some v10;bif v2 then k11 (m.Who==0) else bif m.Kind==7 then bif m.Who==0 then k11 (m.Branch==c.To) else k11 false else bif m.Kind==6 then k11 (!(m.Branch==c.Branch)) else let k (v5:Bool):Option Bool:=bif v5 then bif m.Branch==c.Branch then k11 (decide (1≤m.Who)) else k11 false else let k13 (v12:Bool):Option Bool:=some v12;bif m.Branch==c.Branch then k13 (m.Who==0) else k13 false;bif m.Kind==3 then k (m.Kind==3) else bif m.Kind==5 then k (m.Kind==5) else k (m.Kind==10);bif m.Kind==1 then k14 (m.Kind==1) else bif m.Kind==4 then k14 (m.Kind==4) else bif m.Kind==9 then k14 (m.Kind==9) else k14 (m.Kind==14)
def qfr (kind:Int):Option Int:=
 let k13 (v3:Bool):Option Int:=let k (v12:Int):Option Int:=some v12;bif v3 then k 2 else bif kind==2 then k 3 else bif kind==3 then k 4 else bif kind==5 then k 5 else bif kind==6 then k 6 else bif kind==8 then k 7 else bif kind==10 then k 8 else bif kind==11 then k 9 else bif kind==12 then k 10 else bif kind==13 then k 11 else some 12;bif kind==1 then k13 (kind==1) else bif kind==4 then k13 (kind==4) else bif kind==7 then k13 (kind==7) else bif kind==9 then k13 (kind==9) else k13 (kind==14)
def qc0 (c:Custody) (m:Move):Option (Custody×Int):=
 match qdw c with|some r1 =>(let k26 (v:Bool):Option (Custody×Int):=bif v then some ((⟨0,0,0,0⟩:Custody),1) else match qan c.State m.Kind with|some r5 =>bif !r5 then some ((⟨0,0,0,0⟩:Custody),12) else let k25 (v6:Bool):Option (Custody×Int):=let k24 (v7:Bool):Option (Custody×Int):=bif v7 then some ((⟨0,0,0,0⟩:Custody),16) else match qdi c m with|some r9 =>(bif !r9 then some ((⟨0,0,0,0⟩:Custody),1) else match qfr m.Kind with|some r11 =>let k23 (vout20:Int) (vout21:Int) (vout22:Int):Option (Custody×Int):=some ((⟨r11,vout20,vout21,vout22⟩:Custody),0);bif r11==2 then k23 m.Branch 0 0 else let k19 (v13:Bool):Option (Custody×Int):=bif v13 then k23 c.Branch m.Who 0 else bif r11==6 then k23 c.Branch m.Who m.Branch else let k (v14:Bool):Option (Custody×Int):=bif v14 then k23 c.Branch c.Who 0 else k23 c.Branch 0 0;bif r11==9 then k (r11==9) else k (r11==10);bif r11==4 then k19 (r11==4) else bif r11==5 then k19 (r11==5) else k19 (r11==8)|none =>none)|none =>none;bif v6 then k24 (!(m.Who==c.Who)) else k24 false;bif m.Kind==3 then k25 (c.State==5) else k25 false|none =>none;bif !r1 then k26 true else match qez m with|some r3 =>k26 (!r3)|none =>none)|none =>none
def b8f:((List Move)×Int×Int×Custody×Custody×Unit)→Option (((List Move)×Int×Int×Custody×Custody×Unit)⊕((Custody×Custody×Unit)⊕(Int×Int×Custody×Unit))):=fun (l,item,i,v,c,_)=>
 bif decide (i<(l.length:Int)) then match m7 l i with|some x =>(bif !(x.Item==item) then some (.inl (l,item,wr .i64 (i+1),v,c,())) else match m7 l i with|some x2 =>(match qc0 c x2 with|some (r3,r4) =>bif !(r4==0) then some (.inr (.inr (i,r4,(⟨0,0,0,0⟩:Custody),()))) else some (.inl (l,item,wr .i64 (i+1),v,r3,()))|none =>none)|none =>none)|none =>none else some (.inr (.inl (v,c,())))
def qak (branch:Int) (l:List Move) (item:Int):Option (Custody×Int×Int):=
 let k (v:Bool):Option (Custody×Int×Int):=bif v then some ((⟨0,0,0,0⟩:Custody),(-1),1) else match qdv branch with|some r1 =>(match b8 b8f (l,item,0,(⟨0,0,0,0⟩:Custody),r1,()) with|some (.inl (v5,c,_)) =>some (c,(-1),0)|some (.inr (v6,v7,v8,_)) =>some (v8,v6,v7)|none =>none)|none =>none;bif decide (branch<1) then k true else k (decide (4<branch))
def d58:(Int×Int×Circ×Unit)→Option ((Int×Int×Circ×Unit)⊕((Unit)⊕(Int×Unit))):=fun (item,i,c,_)=>
 bif decide (i<(c.Items.length:Int)) then match m7 c.Items i with|some x =>bif x.ID==item then some (.inr (.inr (i,()))) else some (.inl (item,wr .i64 (i+1),c,()))|none =>none else some (.inr (.inl (())))
def qs (c:Circ) (item:Int):Option Int:=
 match b8 d58 (item,0,c,()) with|some (.inl (_)) =>some (-1)|some (.inr (v,_)) =>some v|none =>none
def b41:(Int×Circ×Unit)→Option ((Int×Circ×Unit)⊕((Circ×Unit)⊕(Bool×Unit))):=fun (i,c,_)=>
 bif decide (i<(c.Items.length:Int)) then match m7 c.Items i with|some x =>let k29 (v:Bool):Option ((Int×Circ×Unit)⊕((Circ×Unit)⊕(Bool×Unit))):=let k28 (v3:Bool):Option ((Int×Circ×Unit)⊕((Circ×Unit)⊕(Bool×Unit))):=let k27 (v4:Bool):Option ((Int×Circ×Unit)⊕((Circ×Unit)⊕(Bool×Unit))):=let k26 (v5:Bool):Option ((Int×Circ×Unit)⊕((Circ×Unit)⊕(Bool×Unit))):=let k25 (v6:Bool):Option ((Int×Circ×Unit)⊕((Circ×Unit)⊕(Bool×Unit))):=let k24 (v7:Bool):Option ((Int×Circ×Unit)⊕((Circ×Unit)⊕(Bool×Unit))):=bif v7 then some (.inr (.inr (false,()))) else let k23 (v8:Bool):Option ((Int×Circ×Unit)⊕((Circ×Unit)⊕(Bool×Unit))):=let k22 (v9:Bool):Option ((Int×Circ×Unit)⊕((Circ×Unit)⊕(Bool×Unit))):=let k21 (v10:Bool):Option ((Int×Circ×Unit)⊕((Circ×Unit)⊕(Bool×Unit))):=let k20 (v11:Bool):Option ((Int×Circ×Unit)⊕((Circ×Unit)⊕(Bool×Unit))):=let k19 (v13:Bool):Option ((Int×Circ×Unit)⊕((Circ×Unit)⊕(Bool×Unit))):=bif v13 then some (.inr (.inr (false,()))) else match qak x.Branch c.Moves x.ID with|some (r15,r16,r17) =>let k (v18:Bool):Option ((Int×Circ×Unit)⊕((Circ×Unit)⊕(Bool×Unit))):=bif v18 then some (.inr (.inr (false,()))) else some (.inl (wr .i64 (i+1),c,()));bif !(r17==0) then k true else k (!(a1j r15 x.Custody))|none =>none;bif v11 then k19 true else match qai x.Call with|some r12 =>k19 (!r12)|none =>none;bif v10 then k20 true else k20 (decide (200<(x.Call.length:Int)));bif v9 then k21 true else k21 (decide (100000000<x.Price));bif v8 then k22 true else k22 (decide (x.Price<0));bif decide (x.Kind<1) then k23 true else k23 (decide (9<x.Kind));bif v6 then k24 true else k24 (decide (4<x.Branch));bif v5 then k25 true else k25 (decide (x.Branch<1));bif v4 then k26 true else k26 (decide (9999<x.Record));bif v3 then k27 true else k27 (decide (x.Record<1));bif v then k28 true else bif decide (0<i) then match m7 c.Items (wr .i64 (i-1)) with|some x1 =>k28 (decide (x.ID≤x1.ID))|none =>none else k28 false;bif decide (x.ID<1) then k29 true else k29 (decide (9999<x.ID))|none =>none else some (.inr (.inl (c,())))
def a89:(Int×Circ×Unit)→Option ((Int×Circ×Unit)⊕((Unit)⊕(Bool×Unit))):=fun (i,c,_)=>
 bif decide (i<(c.Moves.length:Int)) then match m7 c.Moves i with|some x =>(match qs c x.Item with|some r31 =>bif decide (r31<0) then some (.inr (.inr (false,()))) else some (.inl (wr .i64 (i+1),c,()))|none =>none)|none =>none else some (.inr (.inl (())))
def qaa (c:Circ):Option Bool:=
 let k (v:Bool):Option Bool:=bif v then some false else match b8 b41 (0,c,()) with|some (.inl (c30,_)) =>(match b8 a89 (0,c30,()) with|some (.inl (_)) =>some true|some (.inr (v32,_)) =>some v32|none =>none)|some (.inr (v33,_)) =>some v33|none =>none;bif decide (64<(c.Items.length:Int)) then k true else k (decide (2000<(c.Moves.length:Int)))
def qer (u:Custody):Option Bool:=
 let k2 (v:Bool):Option Bool:=let k (v1:Bool):Option Bool:=some v1;bif v then k true else k (u.State==10);bif u.State==4 then k2 true else k2 (u.State==9)
def b8g:((List Loan)×Int×Int×Unit)→Option (((List Loan)×Int×Int×Unit)⊕((Unit)⊕(Int×Unit))):=fun (l,item,i,_)=>
 bif decide (i<(l.length:Int)) then match m7 l i with|some x =>bif x.Item==item then some (.inr (.inr (i,()))) else some (.inl (l,item,wr .i64 (i+1),()))|none =>none else some (.inr (.inl (())))
def qal (l:List Loan) (item:Int):Option Int:=
 match b8 b8g (l,item,0,()) with|some (.inl (_)) =>some (-1)|some (.inr (v,_)) =>some v|none =>none
def qdz (l:List Loan) (item:Int):Option (Loan×Bool):=
 match qal l item with|some r1 =>(bif decide (r1<0) then some ((⟨0,0,0,0,0,false⟩:Loan),false) else match m7 l r1 with|some x =>some (x,true)|none =>none)|none =>none
def c77:(Int×Circ×Unit)→Option ((Int×Circ×Unit)⊕((Circ×Unit)⊕(Bool×Unit))):=fun (i,c,_)=>
 bif decide (i<(c.Loans.length:Int)) then match m7 c.Loans i with|some x =>(match qs c x.Item with|some r1 =>(match qcf c.Patrons x.Patron with|some (r3,r4) =>let k12 (v:Bool):Option ((Int×Circ×Unit)⊕((Circ×Unit)⊕(Bool×Unit))):=let k11 (v8:Bool):Option ((Int×Circ×Unit)⊕((Circ×Unit)⊕(Bool×Unit))):=let k (v10:Bool):Option ((Int×Circ×Unit)⊕((Circ×Unit)⊕(Bool×Unit))):=bif v10 then some (.inr (.inr (false,()))) else some (.inl (wr .i64 (i+1),c,()));bif v8 then k true else match m7 c.Items r1 with|some x9 =>k (!(x9.Custody.Who==x.Patron))|none =>none;bif v then k11 true else match m7 c.Items r1 with|some x5 =>(match qer x5.Custody with|some r7 =>k11 (!r7)|none =>none)|none =>none;bif decide (r1<0) then k12 true else k12 (!r4)|none =>none)|none =>none)|none =>none else some (.inr (.inl (c,())))
def b79:(Int×Circ×Unit)→Option ((Int×Circ×Unit)⊕((Unit)⊕(Bool×Unit))):=fun (i,c,_)=>
 bif decide (i<(c.Items.length:Int)) then match m7 c.Items i with|some x =>(match qdz c.Loans x.ID with|some (r14,r15) =>(match m7 c.Items i with|some x16 =>(match qer x16.Custody with|some r18 =>bif !(r15==r18) then some (.inr (.inr (false,()))) else some (.inl (wr .i64 (i+1),c,()))|none =>none)|none =>none)|none =>none)|none =>none else some (.inr (.inl (())))
def q9 (c:Circ):Option Bool:=
 match b8 c77 (0,c,()) with|some (.inl (c13,_)) =>(match b8 b79 (0,c13,()) with|some (.inl (_)) =>some true|some (.inr (v,_)) =>some v|none =>none)|some (.inr (v19,_)) =>some v19|none =>none
def b8j:(Int×Int×Circ×Hold×Unit)→Option ((Int×Int×Circ×Hold×Unit)⊕((Hold×Unit)⊕(Bool×Hold×Unit))):=fun (item,i,c,v,_)=>
 bif decide (i<(c.Holds.length:Int)) then match m7 c.Holds i with|some x =>bif x.Got==item then match m7 c.Holds i with|some x1 =>some (.inr (.inr (true,x1,())))|none =>none else some (.inl (item,wr .i64 (i+1),c,v,()))|none =>none else some (.inr (.inl (v,())))
def qav (c:Circ) (item:Int):Option (Hold×Bool):=
 match b8 b8j (item,0,c,(⟨0,0,0,0,0,0,0,0,0,0,0⟩:Hold),()) with|some (.inl (v,_)) =>some ((⟨0,0,0,0,0,0,0,0,0,0,0⟩:Hold),false)|some (.inr (v2,v3,_)) =>some (v3,v2)|none =>none
def b42:(Int×Circ×Unit)→Option ((Int×Circ×Unit)⊕((Circ×Unit)⊕(Bool×Unit))):=fun (i,c,_)=>
 bif decide (i<(c.Holds.length:Int)) then match m7 c.Holds i with|some x =>(match qcf c.Patrons x.Patron with|some (r1,r2) =>let k18 (v:Bool):Option ((Int×Circ×Unit)⊕((Circ×Unit)⊕(Bool×Unit))):=bif v then some (.inr (.inr (false,()))) else bif x.State==1 then some (.inl (wr .i64 (i+1),c,())) else match qs c x.Got with|some r4 =>(let k17 (v6:Bool):Option ((Int×Circ×Unit)⊕((Circ×Unit)⊕(Bool×Unit))):=bif v6 then some (.inr (.inr (false,()))) else match m7 c.Items r4 with|some x7 =>let k16 (v10:Bool):Option ((Int×Circ×Unit)⊕((Circ×Unit)⊕(Bool×Unit))):=bif v10 then some (.inr (.inr (false,()))) else let k15 (v14:Bool):Option ((Int×Circ×Unit)⊕((Circ×Unit)⊕(Bool×Unit))):=bif v14 then some (.inr (.inr (false,()))) else some (.inl (wr .i64 (i+1),c,()));bif x.State==2 then let k13 (v11:Bool):Option ((Int×Circ×Unit)⊕((Circ×Unit)⊕(Bool×Unit))):=bif v11 then k15 true else k15 (!(x7.Custody.Who==x.Patron));bif !(x7.Custody.State==6) then k13 true else k13 (!(x7.Custody.To==x.Pickup)) else k15 false;bif x.State==3 then let k (v8:Bool):Option ((Int×Circ×Unit)⊕((Circ×Unit)⊕(Bool×Unit))):=bif v8 then k16 true else k16 (!(x7.Custody.Who==x.Patron));bif !(x7.Custody.State==5) then k true else k (!(x7.Custody.Branch==x.Pickup)) else k16 false|none =>none;bif decide (r4<0) then k17 true else match m7 c.Items r4 with|some x5 =>k17 (!(x5.Record==x.Record))|none =>none)|none =>none;bif !r2 then k18 true else k18 (decide (c.NextHold≤x.ID))|none =>none)|none =>none else some (.inr (.inl (c,())))
def b0z:(Int×Circ×Unit)→Option ((Int×Circ×Unit)⊕((Unit)⊕(Bool×Unit))):=fun (i,c,_)=>
 bif decide (i<(c.Items.length:Int)) then match m7 c.Items i with|some x =>(bif !(x.Custody.State==5) then some (.inl (wr .i64 (i+1),c,())) else match m7 c.Items i with|some x20 =>(match qav c x20.ID with|some (r21,r22) =>let k (v:Bool):Option ((Int×Circ×Unit)⊕((Unit)⊕(Bool×Unit))):=bif v then some (.inr (.inr (false,()))) else some (.inl (wr .i64 (i+1),c,()));bif !r22 then k true else k (!(r21.State==3))|none =>none)|none =>none)|none =>none else some (.inr (.inl (())))
def qab (c:Circ):Option Bool:=
 match b8 b42 (0,c,()) with|some (.inl (c19,_)) =>(match b8 b0z (0,c19,()) with|some (.inl (_)) =>some true|some (.inr (v,_)) =>some v|none =>none)|some (.inr (v23,_)) =>some v23|none =>none
def b1i:(Int×Circ×Unit)→Option ((Int×Circ×Unit)⊕((Circ×Unit)⊕(Bool×Unit))):=fun (i,c,_)=>
 bif decide (i<4) then let k (v:Int) (v18:List Int):Option ((Int×Circ×Unit)⊕((Circ×Unit)⊕(Bool×Unit))):=match qw (⟨v,v18⟩:Calendar) with|some r19 =>bif !(r19==0) then some (.inr (.inr (false,()))) else some (.inl (wr .i64 (i+1),c,()))|none =>none;bif i==0 then k c.Cals.x0.Week c.Cals.x0.Closed else bif i==1 then k c.Cals.x1.Week c.Cals.x1.Closed else bif i==2 then k c.Cals.x2.Week c.Cals.x2.Closed else bif i==3 then k c.Cals.x3.Week c.Cals.x3.Closed else none else some (.inr (.inl (c,())))
def a9a:(Int×Circ×Unit)→Option ((Int×Circ×Unit)⊕((Circ×Unit)⊕(Bool×Unit))):=fun (i,c,_)=>
 bif decide (i<(c.Charges.length:Int)) then match m7 c.Charges i with|some x =>(match qcf c.Patrons x.Patron with|some (r21,r22) =>(let k (v:Bool):Option ((Int×Circ×Unit)⊕((Circ×Unit)⊕(Bool×Unit))):=bif v then some (.inr (.inr (false,()))) else some (.inl (wr .i64 (i+1),c,()));bif !r22 then k true else match m7 c.Charges i with|some x23 =>k (decide (c.NextCharge≤x23.ID))|none =>none)|none =>none)|none =>none else some (.inr (.inl (c,())))
def qag (c:Circ):Option Bool:=
 let k44 (v:Bool):Option Bool:=let k43 (v1:Bool):Option Bool:=let k42 (v2:Bool):Option Bool:=let k41 (v3:Bool):Option Bool:=let k40 (v4:Bool):Option Bool:=bif v4 then some false else match qar c.Patrons with|some r5 =>(let k39 (v8:Bool):Option Bool:=let k38 (v11:Bool):Option Bool:=let k37 (v14:Bool):Option Bool:=let k36 (v17:Bool):Option Bool:=bif v17 then some false else match b8 b1i (0,c,()) with|some (.inl (c20,_)) =>(match b8 a9a (0,c20,()) with|some (.inl (c24,_)) =>(match qaa c24 with|some r26 =>let k33 (v29:Bool):Option Bool:=let k (v32:Bool):Option Bool:=some v32;bif v29 then match qab c24 with|some r31 =>k r31|none =>none else k false;bif r26 then match q9 c24 with|some r28 =>k33 r28|none =>none else k33 false|none =>none)|some (.inr (v34,_)) =>some v34|none =>none)|some (.inr (v35,_)) =>some v35|none =>none;bif v14 then k36 true else match qj c.Rules with|some r16 =>k36 (!(r16==0))|none =>none;bif v11 then k37 true else match qa3 c.Charges with|some r13 =>k37 (!(r13==0))|none =>none;bif v8 then k38 true else match qk c.Holds with|some r10 =>k38 (!(r10==0))|none =>none;bif !(r5==0) then k39 true else match qaq c.Loans with|some r7 =>k39 (!(r7==0))|none =>none)|none =>none;bif v3 then k40 true else k40 (decide (100000<c.NextCharge));bif v2 then k41 true else k41 (decide (c.NextCharge<1));bif v1 then k42 true else k42 (decide (100000<c.NextHold));bif v then k43 true else k43 (decide (c.NextHold<1));bif decide (c.Today<0) then k44 true else k44 (decide (109572<c.Today))
def qfc (c:Circ):Option Bool:=
 match qb c with|some r1 =>let k (v:Bool):Option Bool:=some v;bif r1 then match qag c with|some r3 =>k r3|none =>none else k false|none =>none
def qbn (a:Hold) (b:Hold):Option Int:=
 some (wr .i64 (b.Rank-a.Rank))
def d57 {γ0:Type} (p:γ0→Hold→Hold→Option Int):(Int×Int×γ0×Int×Int×(List Hold)×Unit)→Option ((Int×Int×γ0×Int×Int×(List Hold)×Unit)⊕((Int×Int×γ0×Int×(List Hold)×Unit))):=fun (a,b,g,i,j,l,_)=>
 let k (v:Bool):Option ((Int×Int×γ0×Int×Int×(List Hold)×Unit)⊕((Int×Int×γ0×Int×(List Hold)×Unit))):=bif v then match m7 l (wr .i64 (j-1)) with|some _ =>(match l[(wr .i64 (j-1)).toNat]? with|some x2 =>(match m7 l j with|some _ =>(match l[j.toNat]? with|some x3 =>(match m7 l j with|some _ =>(match l[j.toNat]? with|some x4 =>(match m7 (l.set j.toNat x2) (wr .i64 (j-1)) with|some _ =>(match (l.set j.toNat x2)[(wr .i64 (j-1)).toNat]? with|some x5 =>some (.inl (a,b,g,i,wr .i64 (j-1),(l.set j.toNat x2).set (wr .i64 (j-1)).toNat x3,()))|none =>none)|none =>none)|none =>none)|none =>none)|none =>none)|none =>none)|none =>none)|none =>none else some (.inr ((a,b,g,i,l,())));bif decide (a<j) then match m7 l j with|some _ =>(match l[j.toNat]? with|some x =>(match m7 l (wr .i64 (j-1)) with|some _ =>(match l[(wr .i64 (j-1)).toNat]? with|some x1 =>(match p g x x1 with|some r =>k (decide (r<0))|none =>none)|none =>none)|none =>none)|none =>none)|none =>none else k false
def d56 {γ0:Type} (p:γ0→Hold→Hold→Option Int):(Int×Int×γ0×Int×(List Hold)×Unit)→Option ((Int×Int×γ0×Int×(List Hold)×Unit)⊕(((List Hold)×Unit))):=fun (a,b,g,i,l,_)=>
 bif decide (i<b) then match b8 (d57 p) (a,b,g,i,i,l,()) with|some ((a6,b7,g8,i9,l10,_)) =>some (.inl (a6,b7,g8,wr .i64 (i9+1),l10,()))|none =>none else some (.inr ((l,())))
def qp {γ0:Type} (p:γ0→Hold→Hold→Option Int) (data:List Hold) (a:Int) (b:Int) (g:γ0):Option (List Hold):=
 match b8 (d56 p) (a,b,g,wr .i64 (a+1),data,()) with|some ((l,_)) =>some l|none =>none
def f21 {γ0:Type} (p:γ0→Hold→Hold→Option Int):(Int×γ0×Int×Int×Int×(List Hold)×Unit)→Option ((Int×γ0×Int×Int×Int×(List Hold)×Unit)⊕((Int×γ0×Int×Int×(List Hold)×Unit))):=fun (n,g,blockSize,a,b,l,_)=>
 bif decide (b≤n) then match qp p l a b g with|some l1 =>some (.inl (n,g,blockSize,b,wr .i64 (b+blockSize),l1,()))|none =>none else some (.inr ((n,g,blockSize,a,l,())))
def h5q {γ0:Type} (p:γ0→Hold→Hold→Option Int):(Int×γ0×Int×Int×Int×(List Hold)×Unit)→Option ((Int×γ0×Int×Int×Int×(List Hold)×Unit)⊕((Int×γ0×Int×Int×(List Hold)×Unit))):=fun (n,g,blockSize,a,b,l,_)=>
 bif decide (b≤n) then match qc1 p l a (wr .i64 (a+blockSize)) b g with|some l5 =>some (.inl (n,g,blockSize,b,wr .i64 (b+(wr .i64 (2*blockSize))),l5,()))|none =>none else some (.inr ((n,g,blockSize,a,l,())))
def f22 {γ0:Type} (p:γ0→Hold→Hold→Option Int):(Int×γ0×Int×(List Hold)×Unit)→Option ((Int×γ0×Int×(List Hold)×Unit)⊕(((List Hold)×Unit))):=fun (n,g,blockSize,l,_)=>
 bif decide (blockSize<n) then match b8 (h5q p) (n,g,blockSize,0,wr .i64 (2*blockSize),l,()) with|some ((n6,g7,blockSize8,a,l9,_)) =>let k (l11:List Hold):Option ((Int×γ0×Int×(List Hold)×Unit)⊕(((List Hold)×Unit))):=some (.inl (n6,g7,wr .i64 (blockSize8*2),l11,()));bif decide (wr .i64 (a+blockSize8)<n6) then match qc1 p l9 a (wr .i64 (a+blockSize8)) n6 g7 with|some l10 =>k l10|none =>none else k l9|none =>none else some (.inr ((l,())))
def qn {γ0:Type} (p:γ0→Hold→Hold→Option Int) (data:List Hold) (n:Int) (g:γ0):Option (List Hold):=
 match b8 (f21 p) (n,g,20,0,20,data,()) with|some ((n2,g3,blockSize,a,l,_)) =>(match qp p l a n2 g3 with|some l4 =>(match b8 (f22 p) (n2,g3,blockSize,l4,()) with|some ((l12,_)) =>some l12|none =>none)|none =>none)|none =>none
def qd2 {γ0:Type} (p:γ0→Hold→Hold→Option Int) (x:List Hold) (g:γ0):Option (List Hold):=
 match qn p x (x.length:Int) g with|some l =>some l|none =>none
def d5z:(Int×Int×(List Hold)×Int×Int×(List Hold)×Unit)→Option ((Int×Int×(List Hold)×Int×Int×(List Hold)×Unit)⊕(((List Hold)×Unit))):=fun (record,day,v,v1,v2,l,_)=>
 bif decide (v2<v1) then match m7 v v2 with|some x =>let k5 (v3:Bool):Option ((Int×Int×(List Hold)×Int×Int×(List Hold)×Unit)⊕(((List Hold)×Unit))):=let k (v4:Bool):Option ((Int×Int×(List Hold)×Int×Int×(List Hold)×Unit)⊕(((List Hold)×Unit))):=bif v4 then bif decide (l.length+([x]:List Hold).length≤LIM) then some (.inl (record,day,v,v1,wr .i64 (v2+1),l++([x]:List Hold),())) else none else some (.inl (record,day,v,v1,wr .i64 (v2+1),l,()));bif v3 then k (decide (x.Asleep≤day)) else k false;bif x.Record==record then k5 (x.State==1) else k5 false|none =>none else some (.inr ((l,())))
def qf (l:List Hold) (record:Int) (day:Int):Option (List Hold):=
 match b8 d5z (record,day,l,(l.length:Int),0,([]:List Hold),()) with|some ((l6,_)) =>(match qd2 (fun g x0 x1=>qbn x0 x1) l6 ((),()) with|some l7 =>some l7|none =>none)|none =>none
def b8l:(Int×Bool×Int×(List Hold)×Int×Int×Item×Unit)→Option ((Int×Bool×Int×(List Hold)×Int×Int×Item×Unit)⊕((Int×Unit)⊕(Int×Unit))):=fun (branch,vlocal,first,v,v2,v3,x,_)=>
 bif decide (v3<v2) then match m7 v v3 with|some x4 =>let k9 (v5:Bool):Option ((Int×Bool×Int×(List Hold)×Int×Int×Item×Unit)⊕((Int×Unit)⊕(Int×Unit))):=bif v5 then some (.inl (branch,vlocal,first,v,v2,wr .i64 (v3+1),x,())) else let k8 (v6:Bool):Option ((Int×Bool×Int×(List Hold)×Int×Int×Item×Unit)⊕((Int×Unit)⊕(Int×Unit))):=bif v6 then some (.inr (.inr (x4.ID,()))) else let k (first7:Int):Option ((Int×Bool×Int×(List Hold)×Int×Int×Item×Unit)⊕((Int×Unit)⊕(Int×Unit))):=some (.inl (branch,vlocal,first7,v,v2,wr .i64 (v3+1),x,()));bif first==0 then k x4.ID else k first;bif !vlocal then k8 true else k8 (x4.Pickup==branch);bif !(x4.Item==0) then k9 (!(x4.Item==x.ID)) else k9 false|none =>none else some (.inr (.inl (first,())))
def qax (l:List Hold) (x:Item) (branch:Int) (day:Int) (vlocal:Bool):Option Int:=
 match qf l x.Record day with|some r1 =>(match b8 b8l (branch,vlocal,0,r1,(r1.length:Int),0,x,()) with|some (.inl (first,_)) =>some first|some (.inr (v,_)) =>some v|none =>none)|none =>none
def b8o:(Int×Circ×Unit)→Option ((Int×Circ×Unit)⊕((Unit)⊕(Bool×Unit))):=fun (i,c,_)=>
 bif decide (i<(c.Items.length:Int)) then match m7 c.Items i with|some x =>let k (v:Bool):Option ((Int×Circ×Unit)⊕((Unit)⊕(Bool×Unit))):=bif v then some (.inr (.inr (false,()))) else some (.inl (wr .i64 (i+1),c,()));bif x.Custody.State==3 then match qax c.Holds x x.Custody.Branch c.Today c.Local with|some r1 =>k (!(r1==0))|none =>none else k false|none =>none else some (.inr (.inl (())))
def qbj (c:Circ):Option Bool:=
 match b8 b8o (0,c,()) with|some (.inl (_)) =>some true|some (.inr (v,_)) =>some v|none =>none
def qem (today:Int):Option Circ:=
 some (⟨(if 109572<(if today<0 then 0 else today) then 109572 else (if today<0 then 0 else today)),[],[],[],[],[],[],⟨⟨0,[]⟩,⟨0,[]⟩,⟨0,[]⟩,⟨0,[]⟩⟩,[],1,1,false⟩:Circ)
def qde (x:Item) (v:Int):Option Bool:=
 some (x.ID==v)
def c06 {γ0:Type} (p:γ0→Item→Option Bool):((List Item)×γ0×Int×Int×Unit)→Option (((List Item)×γ0×Int×Int×Unit)⊕((Unit)⊕(Int×Unit))):=fun (s,g,v,v1,_)=>
 bif decide (v1<v) then match m7 s v1 with|some x =>(match p g x with|some r =>bif r then some (.inr (.inr (v1,()))) else some (.inl (s,g,v,wr .i64 (v1+1),()))|none =>none)|none =>none else some (.inr (.inl (())))
def qc {γ0:Type} (p:γ0→Item→Option Bool) (s:List Item) (g:γ0):Option Int:=
 match b8 (c06 p) (s,g,(s.length:Int),0,()) with|some (.inl (_)) =>some (-1)|some (.inr (v,_)) =>some v|none =>none
def qz (c:Circ) (item:Int):Option Int:=
 match qc (fun g x0=>qde x0 g.2.1) c.Items ((),(item,())) with|some r1 =>some r1|none =>none
def qec (branch:Int):Option Custody:=
 some (⟨1,branch,0,0⟩:Custody)
def qcy (z:Item) (v:Item):Option Bool:=
 some (decide (v.ID<z.ID))
def qcm (s:List Item):Option (List Item):=
 bif decide (([]:List Item).length+s.length≤LIM) then some (([])++s) else none
def qb6 (n:Int) (low:Int) (high:Int):Option Bool:=
 let k (v:Bool):Option Bool:=some v;bif decide (low≤n) then k (decide (n≤high)) else k false
def qea (x:Item):Option Bool:=
 match qb6 x.ID 1 9999 with|some r1 =>let k21 (v:Bool):Option Bool:=let k20 (v6:Bool):Option Bool:=let k19 (v9:Bool):Option Bool:=let k18 (v12:Bool):Option Bool:=let k17 (v13:Bool):Option Bool:=let k (v16:Bool):Option Bool:=some v16;bif v13 then match qdg x.Call with|some r15 =>k r15|none =>none else k false;bif v12 then k17 (decide ((x.Call.length:Int)≤200)) else k17 false;bif v9 then match qb6 x.Price 0 100000000 with|some r11 =>k18 r11|none =>none else k18 false;bif v6 then match qb6 x.Kind 1 9 with|some r8 =>k19 r8|none =>none else k19 false;bif v then match qb6 x.Branch 1 4 with|some r5 =>k20 r5|none =>none else k20 false;bif r1 then match qb6 x.Record 1 9999 with|some r3 =>k21 r3|none =>none else k21 false|none =>none
def qbt (n:Int) (least:Int) (most:Int):Option Bool:=
 let k (v:Bool):Option Bool:=some v;bif decide (least≤n) then k (decide (n≤most)) else k false
def qfi (c:Custody):Option Bool:=
 match qbt c.State 1 12 with|some r1 =>(let k23 (v:Bool):Option Bool:=bif v then some false else let k22 (v7:Bool):Option Bool:=let k19 (v18:Bool):Option Bool:=some v18;bif v7 then match qbt c.Who 1 9999 with|some r9 =>bif r9 then k19 (c.To==0) else k19 false|none =>none else bif c.State==6 then match qbt c.Who 0 9999 with|some r12 =>let k (v15:Bool):Option Bool:=bif v15 then k19 (!(c.To==c.Branch)) else k19 false;bif r12 then match qbt c.To 1 4 with|some r14 =>k r14|none =>none else k false|none =>none else let k21 (v20:Bool):Option Bool:=some v20;bif c.Who==0 then k21 (c.To==0) else k21 false;bif c.State==4 then k22 (c.State==4) else bif c.State==5 then k22 (c.State==5) else bif c.State==8 then k22 (c.State==8) else bif c.State==9 then k22 (c.State==9) else k22 (c.State==10);bif !r1 then k23 true else match qbt c.Branch 1 4 with|some r3 =>k23 (!r3)|none =>none)|none =>none
def qfh (state:Int) (kind:Int):Option Bool:=
 match qbt state 1 12 with|some r1 =>let k5 (v:Bool):Option Bool:=let k (v4:Bool):Option Bool:=some v4;bif v then match m7 a1x state with|some x =>bif decide (kind<0) then none else k ((wr .u16 (BitVec.ofInt 16 (x.fdiv (2 ^ (min kind.toNat 16))) &&& BitVec.ofInt 16 1).toNat)==1)|none =>none else k false;bif r1 then match qbt kind 1 15 with|some r3 =>k5 r3|none =>none else k5 false|none =>none
def qcx (c:Custody) (ok:Bool):Option (Custody×Int):=
 bif !ok then some ((⟨0,0,0,0⟩:Custody),1) else some (c,0)
def qfl (c:Custody) (m:Move):Option (Custody×Int):=
 match qcx (⟨6,c.Branch,m.Who,m.Branch⟩:Custody) (!(m.Branch==c.Branch)) with|some (r1,r2) =>some (r1,r2)|none =>none
def qed (c:Custody) (m:Move):Option (Custody×Int):=
 match qfi c with|some r1 =>(let k95 (v:Bool):Option (Custody×Int):=let k94 (v6:Bool):Option (Custody×Int):=let k93 (v9:Bool):Option (Custody×Int):=let k92 (v12:Bool):Option (Custody×Int):=let k91 (v15:Bool):Option (Custody×Int):=bif v15 then some ((⟨0,0,0,0⟩:Custody),1) else match qfh c.State m.Kind with|some r17 =>bif !r17 then some ((⟨0,0,0,0⟩:Custody),12) else let k90 (v18:Bool):Option (Custody×Int):=let k89 (v19:Bool):Option (Custody×Int):=bif v19 then some ((⟨0,0,0,0⟩:Custody),16) else let k88 (v22:Bool):Option (Custody×Int):=let k84 (state79:Int) (ok80:Bool):Option (Custody×Int):=match qcx (⟨state79,m.Branch,m.Who,0⟩:Custody) ok80 with|some (r82,r83) =>some (r82,r83)|none =>none;let k87 (v85:Int) (v86:Custody):Option (Custody×Int):=some (v86,v85);bif v22 then k84 2 (m.Who==0) else bif m.Kind==7 then bif m.Who==0 then k84 2 (m.Branch==c.To) else k84 2 false else bif m.Kind==6 then match qfl c m with|some (r25,r26) =>k87 r26 r25|none =>none else bif m.Kind==3 then bif m.Branch==c.Branch then k84 4 (!(m.Who==0)) else k84 4 false else bif m.Kind==5 then bif m.Branch==c.Branch then k84 5 (!(m.Who==0)) else k84 5 false else bif m.Kind==10 then bif m.Branch==c.Branch then k84 8 (!(m.Who==0)) else k84 8 false else bif m.Kind==2 then bif m.Branch==c.Branch then k84 3 (m.Who==0) else k84 3 false else bif m.Kind==8 then bif m.Branch==c.Branch then k84 7 (m.Who==0) else k84 7 false else bif m.Kind==11 then let k (v32:Bool):Option (Custody×Int):=match qcx (⟨9,c.Branch,c.Who,0⟩:Custody) v32 with|some (r34,r35) =>k87 r35 r34|none =>none;bif m.Branch==c.Branch then k (m.Who==0) else k false else bif m.Kind==12 then let k40 (v36:Bool):Option (Custody×Int):=match qcx (⟨10,c.Branch,c.Who,0⟩:Custody) v36 with|some (r38,r39) =>k87 r39 r38|none =>none;bif m.Branch==c.Branch then k40 (m.Who==0) else k40 false else bif m.Kind==13 then bif m.Branch==c.Branch then k84 11 (m.Who==0) else k84 11 false else bif m.Kind==15 then bif m.Branch==c.Branch then k84 12 (m.Who==0) else k84 12 false else k84 0 false;bif m.Kind==1 then k88 (m.Kind==1) else bif m.Kind==4 then k88 (m.Kind==4) else bif m.Kind==9 then k88 (m.Kind==9) else k88 (m.Kind==14);bif v18 then k89 (!(m.Who==c.Who)) else k89 false;bif m.Kind==3 then k90 (c.State==5) else k90 false|none =>none;bif v12 then k91 true else match qbt m.Who 0 9999 with|some r14 =>k91 (!r14)|none =>none;bif v9 then k92 true else match qbt m.Branch 1 4 with|some r11 =>k92 (!r11)|none =>none;bif v6 then k93 true else match qbt m.Kind 1 15 with|some r8 =>k93 (!r8)|none =>none;bif v then k94 true else match qbt m.Item 1 9999 with|some r5 =>k94 (!r5)|none =>none;bif !r1 then k95 true else match qbt m.Day 0 109572 with|some r3 =>k95 (!r3)|none =>none)|none =>none
def f7b:(Int×(List Move)×Int×Int×Custody×Custody×Unit)→Option ((Int×(List Move)×Int×Int×Custody×Custody×Unit)⊕((Custody×Custody×Unit)⊕(Int×Int×Custody×Unit))):=fun (item,v,v4,v5,v6,c,_)=>
 bif decide (v5<v4) then match m7 v v5 with|some x =>(bif !(x.Item==item) then some (.inl (item,v,v4,wr .i64 (v5+1),v6,c,())) else match qed c x with|some (r7,r8) =>bif !(r8==0) then some (.inr (.inr (v5,r8,(⟨0,0,0,0⟩:Custody),()))) else some (.inl (item,v,v4,wr .i64 (v5+1),v6,r7,()))|none =>none)|none =>none else some (.inr (.inl (v6,c,())))
def qbm (branch:Int) (l:List Move) (item:Int):Option (Custody×Int×Int):=
 match qbt branch 1 4 with|some r1 =>(bif !r1 then some ((⟨0,0,0,0⟩:Custody),(-1),1) else match qec branch with|some r3 =>(match b8 f7b (item,l,(l.length:Int),0,(⟨0,0,0,0⟩:Custody),r3,()) with|some (.inl (v,c,_)) =>some (c,(-1),0)|some (.inr (v9,v10,v11,_)) =>some (v11,v9,v10)|none =>none)|none =>none)|none =>none
def h5s:((List Item)×Int×Int×Circ×Unit)→Option (((List Item)×Int×Int×Circ×Unit)⊕((Circ×Unit)⊕(Bool×Unit))):=fun (v,v1,v2,c,_)=>
 bif decide (v2<v1) then match m7 v v2 with|some x =>(match qea x with|some r3 =>let k (v6:Bool):Option (((List Item)×Int×Int×Circ×Unit)⊕((Circ×Unit)⊕(Bool×Unit))):=bif v6 then some (.inr (.inr (false,()))) else some (.inl (v,v1,wr .i64 (v2+1),c,()));bif !r3 then k true else bif decide (0<v2) then match m7 c.Items (wr .i64 (v2-1)) with|some x4 =>k (decide (x.ID≤x4.ID))|none =>none else k false|none =>none)|none =>none else some (.inr (.inl (c,())))
def f76:((List Move)×Int×Int×Circ×Unit)→Option (((List Move)×Int×Int×Circ×Unit)⊕((Circ×Unit)⊕(Bool×Unit))):=fun (v,v8,v9,c,_)=>
 bif decide (v9<v8) then match m7 v v9 with|some x =>(match qz c x.Item with|some r10 =>bif decide (r10<0) then some (.inr (.inr (false,()))) else some (.inl (v,v8,wr .i64 (v9+1),c,()))|none =>none)|none =>none else some (.inr (.inl (c,())))
def f77:((List Item)×Int×Int×Circ×Unit)→Option (((List Item)×Int×Int×Circ×Unit)⊕((Unit)⊕(Bool×Unit))):=fun (v,v12,v13,c,_)=>
 bif decide (v13<v12) then match m7 v v13 with|some x =>(match qbm x.Branch c.Moves x.ID with|some (r14,r15,r16) =>let k (v17:Bool):Option (((List Item)×Int×Int×Circ×Unit)⊕((Unit)⊕(Bool×Unit))):=bif v17 then some (.inr (.inr (false,()))) else some (.inl (v,v12,wr .i64 (v13+1),c,()));bif !(r16==0) then k true else k (!(a1j r14 x.Custody))|none =>none)|none =>none else some (.inr (.inl (())))
def qr (c:Circ):Option Bool:=
 let k (v:Bool):Option Bool:=bif v then some false else match b8 h5s (c.Items,(c.Items.length:Int),0,c,()) with|some (.inl (c7,_)) =>(match b8 f76 (c7.Moves,(c7.Moves.length:Int),0,c7,()) with|some (.inl (c11,_)) =>(match b8 f77 (c11.Items,(c11.Items.length:Int),0,c11,()) with|some (.inl (_)) =>some true|some (.inr (v18,_)) =>some v18|none =>none)|some (.inr (v19,_)) =>some v19|none =>none)|some (.inr (v20,_)) =>some v20|none =>none;bif decide (64<(c.Items.length:Int)) then k true else k (decide (2000<(c.Moves.length:Int)))
def qb2 (p:Patron):Option Int:=
 let k17 (v:Bool):Option Int:=let k16 (v1:Bool):Option Int:=let k15 (v2:Bool):Option Int:=let k14 (v13:Int):Option Int:=some v13;bif v2 then k14 1 else let k12 (v3:Bool):Option Int:=bif v3 then k14 2 else let k10 (v5:Bool):Option Int:=let k (v8:Bool):Option Int:=bif v8 then k14 3 else bif decide (200<(p.Name.length:Int)) then k14 4 else some 0;bif v5 then k true else match qej p.Name with|some r7 =>k (!(r7==p.Name))|none =>none;bif p.Name==([]) then k10 true else match qdg p.Name with|some r4 =>k10 (!r4)|none =>none;bif decide (p.Until<0) then k12 true else k12 (decide (109572<p.Until));bif v1 then k15 true else k15 (decide (4<p.Branch));bif v then k16 true else k16 (decide (p.Branch<1));bif decide (p.Kind<1) then k17 true else k17 (decide (9<p.Kind))
def f69:(Int×(List Patron)×Int×Int×Unit)→Option ((Int×(List Patron)×Int×Int×Unit)⊕((Unit)⊕(Int×Unit))):=fun (last,v,v1,v2,_)=>
 bif decide (v2<v1) then match m7 v v2 with|some x =>let k6 (v3:Bool):Option ((Int×(List Patron)×Int×Int×Unit)⊕((Unit)⊕(Int×Unit))):=let k (v4:Int):Option ((Int×(List Patron)×Int×Int×Unit)⊕((Unit)⊕(Int×Unit))):=some (.inr (.inr (v4,())));bif v3 then k 2 else bif decide (x.ID≤last) then k 7 else match qb2 x with|some r5 =>bif !(r5==0) then some (.inr (.inr (r5,()))) else some (.inl (x.ID,v,v1,wr .i64 (v2+1),()))|none =>none;bif decide (x.ID<1) then k6 true else k6 (decide (9999<x.ID))|none =>none else some (.inr (.inl (())))
def qba (l:List Patron):Option Int:=
 bif decide (32<(l.length:Int)) then some 13 else match b8 f69 (0,l,(l.length:Int),0,()) with|some (.inl (_)) =>some 0|some (.inr (v,_)) =>some v|none =>none
def qe4 (n:Int):Option Bool:=
 let k (v:Bool):Option Bool:=some v;bif decide (1≤n) then k (decide (n≤9999)) else k false
def qd0 (n:Int):Option Bool:=
 let k (v:Bool):Option Bool:=some v;bif decide (0≤n) then k (decide (n≤109572)) else k false
def b47:((List Loan)×(List Loan)×Int×Int×Unit)→Option (((List Loan)×(List Loan)×Int×Int×Unit)⊕((Unit)⊕(Int×Unit))):=fun (l,v,v1,v2,_)=>
 bif decide (v2<v1) then match m7 v v2 with|some x =>let k25 (v4:Bool):Option (((List Loan)×(List Loan)×Int×Int×Unit)⊕((Unit)⊕(Int×Unit))):=let k24 (v23:Int):Option (((List Loan)×(List Loan)×Int×Int×Unit)⊕((Unit)⊕(Int×Unit))):=some (.inr (.inr (v23,())));bif v4 then k24 7 else match qe4 x.Item with|some r5 =>(let k22 (v8:Bool):Option (((List Loan)×(List Loan)×Int×Int×Unit)⊕((Unit)⊕(Int×Unit))):=let k21 (v11:Bool):Option (((List Loan)×(List Loan)×Int×Int×Unit)⊕((Unit)⊕(Int×Unit))):=let k20 (v14:Bool):Option (((List Loan)×(List Loan)×Int×Int×Unit)⊕((Unit)⊕(Int×Unit))):=let k19 (v15:Bool):Option (((List Loan)×(List Loan)×Int×Int×Unit)⊕((Unit)⊕(Int×Unit))):=let k18 (v16:Bool):Option (((List Loan)×(List Loan)×Int×Int×Unit)⊕((Unit)⊕(Int×Unit))):=let k (v17:Bool):Option (((List Loan)×(List Loan)×Int×Int×Unit)⊕((Unit)⊕(Int×Unit))):=bif v17 then k24 2 else some (.inl (l,v,v1,wr .i64 (v2+1),()));bif v16 then k true else k (decide (10<x.Renewals));bif v15 then k18 true else k18 (decide (x.Renewals<0));bif v14 then k19 true else k19 (decide (x.Due<x.Out));bif v11 then k20 true else match qd0 x.Due with|some r13 =>k20 (!r13)|none =>none;bif v8 then k21 true else match qd0 x.Out with|some r10 =>k21 (!r10)|none =>none;bif !r5 then k22 true else match qe4 x.Patron with|some r7 =>k22 (!r7)|none =>none)|none =>none;bif decide (0<v2) then match m7 l (wr .i64 (v2-1)) with|some x3 =>k25 (decide (x.Item≤x3.Item))|none =>none else k25 false|none =>none else some (.inr (.inl (())))
def qbc (l:List Loan):Option Int:=
 bif decide (64<(l.length:Int)) then some 13 else match b8 b47 (l,l,(l.length:Int),0,()) with|some (.inl (_)) =>some 0|some (.inr (v,_)) =>some v|none =>none
def qb5 (n:Int) (low:Int) (high:Int):Option Bool:=
 let k (v:Bool):Option Bool:=some v;bif decide (low≤n) then k (decide (n≤high)) else k false
def qe0 (n:Int):Option Bool:=
 match qb5 n 0 109572 with|some r1 =>some r1|none =>none
def qfb (h:Hold):Option Int:=
 match qb5 h.ID 1 99999 with|some r1 =>(let k41 (v:Bool):Option Int:=let k40 (v6:Bool):Option Int:=let k39 (v9:Bool):Option Int:=let k38 (v37:Int):Option Int:=some v37;bif v9 then k38 2 else match qb5 h.Pickup 1 4 with|some r11 =>(let k36 (v14:Bool):Option Int:=let k35 (v17:Bool):Option Int:=let k34 (v20:Bool):Option Int:=let k33 (v23:Bool):Option Int:=let k32 (v26:Bool):Option Int:=bif v26 then k38 2 else match qb5 h.State 1 3 with|some r28 =>bif !r28 then k38 1 else let k (v29:Bool):Option Int:=bif v29 then k38 12 else some 0;bif !((decide (0<h.Got))==(!(h.State==1))) then k true else k (!((decide (0<h.Until))==(h.State==3)))|none =>none;bif v23 then k32 true else match qb5 h.Rank 0 9 with|some r25 =>k32 (!r25)|none =>none;bif v20 then k33 true else match qe0 h.Asleep with|some r22 =>k33 (!r22)|none =>none;bif v17 then k34 true else match qe0 h.Until with|some r19 =>k34 (!r19)|none =>none;bif v14 then k35 true else match qb5 h.Got 0 9999 with|some r16 =>k35 (!r16)|none =>none;bif !r11 then k36 true else match qe0 h.Placed with|some r13 =>k36 (!r13)|none =>none)|none =>none;bif v6 then k39 true else match qb5 h.Item 0 9999 with|some r8 =>k39 (!r8)|none =>none;bif v then k40 true else match qb5 h.Record 1 9999 with|some r5 =>k40 (!r5)|none =>none;bif !r1 then k41 true else match qb5 h.Patron 1 9999 with|some r3 =>k41 (!r3)|none =>none)|none =>none
def qdt (a:Hold) (b:Hold):Option Bool:=
 let k (v:Bool):Option Bool:=some v;bif a.Patron==b.Patron then k (a.Record==b.Record) else k false
def c45 {γ0:Type} (p:γ0→Hold→Hold→Option Bool):((List Hold)×γ0×Int×Int×Int×Int×Int×Unit)→Option (((List Hold)×γ0×Int×Int×Int×Int×Int×Unit)⊕(((List Hold)×γ0×Int×Int×Unit)⊕(Bool×Unit))):=fun (l,g,i,v,v2,v3,v4,_)=>
 bif decide (v4<v3) then match m7 l v4 with|some x =>(match m7 l i with|some x5 =>(match p g x x5 with|some r =>bif r then some (.inr (.inr (true,()))) else some (.inl (l,g,i,v,v2,v3,wr .i64 (v4+1),()))|none =>none)|none =>none)|none =>none else some (.inr (.inl (l,g,v,v2,())))
def c8e {γ0:Type} (p:γ0→Hold→Hold→Option Bool):((List Hold)×γ0×Int×Int×Unit)→Option (((List Hold)×γ0×Int×Int×Unit)⊕((Unit)⊕(Bool×Unit))):=fun (l,g,v,v1,_)=>
 bif decide (v1<v) then match b8 (c45 p) (l,g,v1,v,v1,v1,0,()) with|some (.inl (l6,g7,v8,v9,_)) =>some (.inl (l6,g7,v8,wr .i64 (v9+1),()))|some (.inr (v10,_)) =>some (.inr (.inr (v10,())))|none =>none else some (.inr (.inl (())))
def qd {γ0:Type} (p:γ0→Hold→Hold→Option Bool) (l:List Hold) (g:γ0):Option Bool:=
 match b8 (c8e p) (l,g,(l.length:Int),0,()) with|some (.inl (_)) =>some false|some (.inr (v,_)) =>some v|none =>none
def qds (a:Hold) (b:Hold):Option Bool:=
 let k (v:Bool):Option Bool:=some v;bif a.Got==b.Got then k (decide (0<a.Got)) else k false
def c8l:((List Hold)×(List Hold)×Int×Int×Unit)→Option (((List Hold)×(List Hold)×Int×Int×Unit)⊕(((List Hold)×Unit)⊕(Int×Unit))):=fun (l,v,v1,v2,_)=>
 bif decide (v2<v1) then match m7 v v2 with|some x =>let k (v4:Bool):Option (((List Hold)×(List Hold)×Int×Int×Unit)⊕(((List Hold)×Unit)⊕(Int×Unit))):=bif v4 then some (.inr (.inr (7,()))) else match qfb x with|some r5 =>bif !(r5==0) then some (.inr (.inr (r5,()))) else some (.inl (l,v,v1,wr .i64 (v2+1),()))|none =>none;bif decide (0<v2) then match m7 l (wr .i64 (v2-1)) with|some x3 =>k (decide (x.ID≤x3.ID))|none =>none else k false|none =>none else some (.inr (.inl (l,())))
def ql (l:List Hold):Option Int:=
 bif decide (64<(l.length:Int)) then some 13 else match b8 c8l (l,l,(l.length:Int),0,()) with|some (.inl (l6,_)) =>(match qd (fun g x0 x1=>qdt x0 x1) l6 ((),()) with|some r7 =>(bif r7 then some 7 else match qd (fun g x0 x1=>qds x0 x1) l6 ((),()) with|some r9 =>bif r9 then some 7 else some 0|none =>none)|none =>none)|some (.inr (v,_)) =>some v|none =>none
def qe9 (n:Int):Option Bool:=
 let k (v:Bool):Option Bool:=some v;bif decide (1≤n) then k (decide (n≤9999)) else k false
def qek (n:Int):Option Bool:=
 let k (v:Bool):Option Bool:=some v;bif decide (0≤n) then k (decide (n≤109572)) else k false
def qb8 (x:Charge):Option Int:=
 let k22 (v:Bool):Option Int:=let k21 (v2:Bool):Option Int:=let k20 (v5:Bool):Option Int:=let k19 (v8:Bool):Option Int:=let k18 (v17:Int):Option Int:=some v17;bif v8 then k18 2 else let k16 (v9:Bool):Option Int:=bif v9 then k18 1 else let k14 (v10:Bool):Option Int:=let k13 (v11:Bool):Option Int:=let k (v12:Bool):Option Int:=bif v12 then k18 2 else some 0;bif v11 then k true else k (decide (x.Amount≤x.Paid));bif v10 then k13 true else k13 (decide (x.Paid<0));bif decide (x.Amount<1) then k14 true else k14 (decide (100000000<x.Amount));bif decide (x.Kind<1) then k16 true else k16 (decide (3<x.Kind));bif v5 then k19 true else match qek x.Day with|some r7 =>k19 (!r7)|none =>none;bif v2 then k20 true else match qe9 x.Item with|some r4 =>k20 (!r4)|none =>none;bif v then k21 true else match qe9 x.Patron with|some r1 =>k21 (!r1)|none =>none;bif decide (x.ID<1) then k22 true else k22 (decide (99999<x.ID))
def b48:((List Charge)×(List Charge)×Int×Int×Unit)→Option (((List Charge)×(List Charge)×Int×Int×Unit)⊕((Unit)⊕(Int×Unit))):=fun (l,v,v1,v2,_)=>
 bif decide (v2<v1) then match m7 v v2 with|some x =>let k (v4:Bool):Option (((List Charge)×(List Charge)×Int×Int×Unit)⊕((Unit)⊕(Int×Unit))):=bif v4 then some (.inr (.inr (7,()))) else match qb8 x with|some r5 =>bif !(r5==0) then some (.inr (.inr (r5,()))) else some (.inl (l,v,v1,wr .i64 (v2+1),()))|none =>none;bif decide (0<v2) then match m7 l (wr .i64 (v2-1)) with|some x3 =>k (decide (x.ID≤x3.ID))|none =>none else k false|none =>none else some (.inr (.inl (())))
def qbd (l:List Charge):Option Int:=
 bif decide (128<(l.length:Int)) then some 13 else match b8 b48 (l,l,(l.length:Int),0,()) with|some (.inl (_)) =>some 0|some (.inr (v,_)) =>some v|none =>none
def qby (n:Int) (least:Int) (most:Int):Option Bool:=
 let k (v:Bool):Option Bool:=some v;bif decide (least≤n) then k (decide (n≤most)) else k false
def qe7 (r:Rule):Option Bool:=
 match qby r.Patron 0 9 with|some r2 =>let k48 (v:Bool):Option Bool:=let k47 (v7:Bool):Option Bool:=let k46 (v10:Bool):Option Bool:=let k45 (v13:Bool):Option Bool:=let k44 (v16:Bool):Option Bool:=let k43 (v19:Bool):Option Bool:=let k42 (v22:Bool):Option Bool:=let k41 (v25:Bool):Option Bool:=let k40 (v28:Bool):Option Bool:=let k39 (v31:Bool):Option Bool:=let k38 (v34:Bool):Option Bool:=let k (v37:Bool):Option Bool:=some v37;bif v34 then match qby r.Rank 0 9 with|some r36 =>k r36|none =>none else k false;bif v31 then match qby r.Fixed 0 109572 with|some r33 =>k38 r33|none =>none else k38 false;bif v28 then match qby r.Recall 1 60 with|some r30 =>k39 r30|none =>none else k39 false;bif v25 then match qby r.Shelf 1 60 with|some r27 =>k40 r27|none =>none else k40 false;bif v22 then match qby r.Loans 0 99 with|some r24 =>k41 r24|none =>none else k41 false;bif v19 then match qby r.MaxFine 0 100000000 with|some r21 =>k42 r21|none =>none else k42 false;bif v16 then match qby r.Grace 0 30 with|some r18 =>k43 r18|none =>none else k43 false;bif v13 then match qby r.Fine 0 1000 with|some r15 =>k44 r15|none =>none else k44 false;bif v10 then match qby r.Renewals 0 10 with|some r12 =>k45 r12|none =>none else k45 false;bif v7 then match qby r.Days 0 365 with|some r9 =>k46 r9|none =>none else k46 false;bif v then match qby r.Branch 0 4 with|some r6 =>k47 r6|none =>none else k47 false;bif r2 then match qby r.Item 0 9 with|some r4 =>k48 r4|none =>none else k48 false|none =>none
def qcn (o:Rule) (v:Rule):Option Bool:=
 let k3 (v1:Bool):Option Bool:=let k (v2:Bool):Option Bool:=some v2;bif v1 then k (o.Branch==v.Branch) else k false;bif o.Patron==v.Patron then k3 (o.Item==v.Item) else k3 false
def f6z {γ0:Type} (p:γ0→Rule→Option Bool):((List Rule)×γ0×Int×Int×Unit)→Option (((List Rule)×γ0×Int×Int×Unit)⊕((Unit)⊕(Int×Unit))):=fun (s,g,v,v1,_)=>
 bif decide (v1<v) then match m7 s v1 with|some x =>(match p g x with|some r =>bif r then some (.inr (.inr (v1,()))) else some (.inl (s,g,v,wr .i64 (v1+1),()))|none =>none)|none =>none else some (.inr (.inl (())))
def qa7 {γ0:Type} (p:γ0→Rule→Option Bool) (s:List Rule) (g:γ0):Option Int:=
 match b8 (f6z p) (s,g,(s.length:Int),0,()) with|some (.inl (_)) =>some (-1)|some (.inr (v,_)) =>some v|none =>none
def qe5 {γ0:Type} (p:γ0→Rule→Option Bool) (s:List Rule) (g:γ0):Option Bool:=
 match qa7 p s g with|some r1 =>some (decide (0≤r1))|none =>none
def h5t:((List Rule)×(List Rule)×Int×Int×Unit)→Option (((List Rule)×(List Rule)×Int×Int×Unit)⊕((Unit)⊕(Int×Unit))):=fun (l,v,v1,v2,_)=>
 bif decide (v2<v1) then match m7 v v2 with|some x =>(match qe7 x with|some r3 =>bif !r3 then some (.inr (.inr (2,()))) else bif decide (0≤(0:Int))&&(decide ((0:Int)≤v2)&&decide (v2≤(l.length:Int))) then match qe5 (fun g x0=>qcn x0 g.2.1) ((l.take v2.toNat).drop (0:Int).toNat) ((),(x,())) with|some r5 =>bif r5 then some (.inr (.inr (7,()))) else some (.inl (l,v,v1,wr .i64 (v2+1),()))|none =>none else none|none =>none)|none =>none else some (.inr (.inl (())))
def qv (l:List Rule):Option Int:=
 bif decide (32<(l.length:Int)) then some 13 else match b8 h5t (l,l,(l.length:Int),0,()) with|some (.inl (_)) =>some 0|some (.inr (v,_)) =>some v|none =>none
def qc7 (d:Int):Option Bool:=
 let k (v:Bool):Option Bool:=some v;bif decide (0≤d) then k (decide (d≤109572)) else k false
def qc2 (d:Int):Option Bool:=
 match qc7 d with|some r1 =>some (!r1)|none =>none
def b8c {γ0:Type} (p:γ0→Int→Option Bool):((List Int)×γ0×Int×Int×Unit)→Option (((List Int)×γ0×Int×Int×Unit)⊕((Unit)⊕(Int×Unit))):=fun (s,g,v,v1,_)=>
 bif decide (v1<v) then match m7 s v1 with|some x =>(match p g x with|some r =>bif r then some (.inr (.inr (v1,()))) else some (.inl (s,g,v,wr .i64 (v1+1),()))|none =>none)|none =>none else some (.inr (.inl (())))
def qa8 {γ0:Type} (p:γ0→Int→Option Bool) (s:List Int) (g:γ0):Option Int:=
 match b8 (b8c p) (s,g,(s.length:Int),0,()) with|some (.inl (_)) =>some (-1)|some (.inr (v,_)) =>some v|none =>none
def qe6 {γ0:Type} (p:γ0→Int→Option Bool) (s:List Int) (g:γ0):Option Bool:=
 match qa8 p s g with|some r1 =>some (decide (0≤r1))|none =>none
def c8o:((List Int)×Int×Int×Calendar×Unit)→Option (((List Int)×Int×Int×Calendar×Unit)⊕((Unit)⊕(Int×Unit))):=fun (v,v4,v5,c,_)=>
 bif decide (v5<v4) then match m7 v v5 with|some x =>let k (v7:Bool):Option (((List Int)×Int×Int×Calendar×Unit)⊕((Unit)⊕(Int×Unit))):=bif v7 then some (.inr (.inr (7,()))) else some (.inl (v,v4,wr .i64 (v5+1),c,()));bif decide (0<v5) then match m7 c.Closed (wr .i64 (v5-1)) with|some x6 =>k (decide (x≤x6))|none =>none else k false|none =>none else some (.inr (.inl (())))
def qu (c:Calendar):Option Int:=
 let k9 (v:Bool):Option Int:=let k (v3:Int):Option Int:=some v3;bif v then k 1 else bif decide (64<(c.Closed.length:Int)) then k 13 else match qe6 (fun g x0=>qc2 x0) c.Closed ((),()) with|some r1 =>(bif r1 then k 2 else match b8 c8o (c.Closed,(c.Closed.length:Int),0,c,()) with|some (.inl (_)) =>some 0|some (.inr (v8,_)) =>some v8|none =>none)|none =>none;bif decide (c.Week<0) then k9 true else k9 (decide (127≤c.Week))
def h5r:((V4 Calendar)×Int×Circ×Unit)→Option (((V4 Calendar)×Int×Circ×Unit)⊕((Circ×Unit)⊕(Bool×Unit))):=fun (v,v13,c,_)=>
 bif decide (v13<4) then let k (v14:Int) (v15:List Int):Option (((V4 Calendar)×Int×Circ×Unit)⊕((Circ×Unit)⊕(Bool×Unit))):=match qu (⟨v14,v15⟩:Calendar) with|some r16 =>bif !(r16==0) then some (.inr (.inr (false,()))) else some (.inl (v,wr .i64 (v13+1),c,()))|none =>none;bif v13==0 then k v.x0.Week v.x0.Closed else bif v13==1 then k v.x1.Week v.x1.Closed else bif v13==2 then k v.x2.Week v.x2.Closed else bif v13==3 then k v.x3.Week v.x3.Closed else none else some (.inr (.inl (c,())))
def f74:((List Hold)×Int×Int×Circ×Unit)→Option (((List Hold)×Int×Int×Circ×Unit)⊕((Circ×Unit)⊕(Bool×Unit))):=fun (v,v23,v24,c,_)=>
 bif decide (v24<v23) then match m7 v v24 with|some x =>bif decide (c.NextHold≤x.ID) then some (.inr (.inr (false,()))) else some (.inl (v,v23,wr .i64 (v24+1),c,()))|none =>none else some (.inr (.inl (c,())))
def f75:((List Charge)×Int×Int×Circ×Unit)→Option (((List Charge)×Int×Int×Circ×Unit)⊕((Unit)⊕(Bool×Unit))):=fun (v,v26,v27,c,_)=>
 bif decide (v27<v26) then match m7 v v27 with|some x =>bif decide (c.NextCharge≤x.ID) then some (.inr (.inr (false,()))) else some (.inl (v,v26,wr .i64 (v27+1),c,()))|none =>none else some (.inr (.inl (())))
def qq (c:Circ):Option Bool:=
 match qba c.Patrons with|some r1 =>(let k34 (v:Bool):Option Bool:=let k33 (v6:Bool):Option Bool:=let k32 (v9:Bool):Option Bool:=let k31 (v12:Bool):Option Bool:=bif v12 then some false else match b8 h5r (c.Cals,0,c,()) with|some (.inl (c17,_)) =>(match qb6 c17.NextHold 1 100000 with|some r19 =>(let k (v22:Bool):Option Bool:=bif v22 then some false else match b8 f74 (c17.Holds,(c17.Holds.length:Int),0,c17,()) with|some (.inl (c25,_)) =>(match b8 f75 (c25.Charges,(c25.Charges.length:Int),0,c25,()) with|some (.inl (_)) =>some true|some (.inr (v28,_)) =>some v28|none =>none)|some (.inr (v29,_)) =>some v29|none =>none;bif !r19 then k true else match qb6 c17.NextCharge 1 100000 with|some r21 =>k (!r21)|none =>none)|none =>none)|some (.inr (v30,_)) =>some v30|none =>none;bif v9 then k31 true else match qv c.Rules with|some r11 =>k31 (!(r11==0))|none =>none;bif v6 then k32 true else match qbd c.Charges with|some r8 =>k32 (!(r8==0))|none =>none;bif v then k33 true else match ql c.Holds with|some r5 =>k33 (!(r5==0))|none =>none;bif !(r1==0) then k34 true else match qbc c.Loans with|some r3 =>k34 (!(r3==0))|none =>none)|none =>none
def qc4 (p:Patron) (v:Int):Option Bool:=
 some (p.ID==v)
def c8m {γ0:Type} (p:γ0→Patron→Option Bool):((List Patron)×γ0×Int×Int×Unit)→Option (((List Patron)×γ0×Int×Int×Unit)⊕((Unit)⊕(Int×Unit))):=fun (s,g,v,v1,_)=>
 bif decide (v1<v) then match m7 s v1 with|some x =>(match p g x with|some r =>bif r then some (.inr (.inr (v1,()))) else some (.inl (s,g,v,wr .i64 (v1+1),()))|none =>none)|none =>none else some (.inr (.inl (())))
def qm {γ0:Type} (p:γ0→Patron→Option Bool) (s:List Patron) (g:γ0):Option Int:=
 match b8 (c8m p) (s,g,(s.length:Int),0,()) with|some (.inl (_)) =>some (-1)|some (.inr (v,_)) =>some v|none =>none
def qbz (l:List Patron) (vid:Int):Option Int:=
 match qm (fun g x0=>qc4 x0 g.2.1) l ((),(vid,())) with|some r1 =>some r1|none =>none
def qcd (l:List Patron) (vid:Int):Option (Patron×Bool):=
 match qbz l vid with|some r1 =>(bif decide (r1<0) then some ((⟨0,0,0,0,false,[]⟩:Patron),false) else match m7 l r1 with|some x =>some (x,true)|none =>none)|none =>none
def qcc (vid:Int) (v:Circ):Option Bool:=
 match qcd v.Patrons vid with|some (r1,r2) =>some r2|none =>none
def h5g:((List Loan)×Int×Int×Circ×Unit)→Option (((List Loan)×Int×Int×Circ×Unit)⊕((Circ×Unit)⊕(Bool×Unit))):=fun (v,v1,v2,c,_)=>
 bif decide (v2<v1) then match m7 v v2 with|some x =>(match qcc x.Patron c with|some r3 =>(let k (v6:Bool):Option (((List Loan)×Int×Int×Circ×Unit)⊕((Circ×Unit)⊕(Bool×Unit))):=bif v6 then some (.inr (.inr (false,()))) else some (.inl (v,v1,wr .i64 (v2+1),c,()));bif !r3 then k true else match qz c x.Item with|some r5 =>k (decide (r5<0))|none =>none)|none =>none)|none =>none else some (.inr (.inl (c,())))
def h5h:((List Hold)×Int×Int×Circ×Unit)→Option (((List Hold)×Int×Int×Circ×Unit)⊕((Circ×Unit)⊕(Bool×Unit))):=fun (v,v8,v9,c,_)=>
 bif decide (v9<v8) then match m7 v v9 with|some x =>(match qcc x.Patron c with|some r10 =>bif !r10 then some (.inr (.inr (false,()))) else some (.inl (v,v8,wr .i64 (v9+1),c,()))|none =>none)|none =>none else some (.inr (.inl (c,())))
def f7s:((List Charge)×Int×Int×Circ×Unit)→Option (((List Charge)×Int×Int×Circ×Unit)⊕((Unit)⊕(Bool×Unit))):=fun (v,v12,v13,c,_)=>
 bif decide (v13<v12) then match m7 v v13 with|some x =>(match qcc x.Patron c with|some r14 =>bif !r14 then some (.inr (.inr (false,()))) else some (.inl (v,v12,wr .i64 (v13+1),c,()))|none =>none)|none =>none else some (.inr (.inl (())))
def qg (c:Circ):Option Bool:=
 match b8 h5g (c.Loans,(c.Loans.length:Int),0,c,()) with|some (.inl (c7,_)) =>(match b8 h5h (c7.Holds,(c7.Holds.length:Int),0,c7,()) with|some (.inl (c11,_)) =>(match b8 f7s (c11.Charges,(c11.Charges.length:Int),0,c11,()) with|some (.inl (_)) =>some true|some (.inr (v,_)) =>some v|none =>none)|some (.inr (v15,_)) =>some v15|none =>none)|some (.inr (v16,_)) =>some v16|none =>none
def q8 (item:Int):Option (Int×Unit):=
 some (item,())
def qb9 (n:Loan) (v:Int):Option Bool:=
 some (n.Item==v)
def c8i {γ0:Type} (p:γ0→Loan→Option Bool):((List Loan)×γ0×Int×Int×Unit)→Option (((List Loan)×γ0×Int×Int×Unit)⊕((Unit)⊕(Int×Unit))):=fun (s,g,v,v1,_)=>
 bif decide (v1<v) then match m7 s v1 with|some x =>(match p g x with|some r =>bif r then some (.inr (.inr (v1,()))) else some (.inl (s,g,v,wr .i64 (v1+1),()))|none =>none)|none =>none else some (.inr (.inl (())))
def qi {γ0:Type} (p:γ0→Loan→Option Bool) (s:List Loan) (g:γ0):Option Int:=
 match b8 (c8i p) (s,g,(s.length:Int),0,()) with|some (.inl (_)) =>some (-1)|some (.inr (v,_)) =>some v|none =>none
def qbl {γ0:Type} (p:γ0→Loan→Option Bool) (l:List Loan) (g:γ0):Option (Loan×Int):=
 match qi p l g with|some r1 =>(bif decide (r1<0) then some ((⟨0,0,0,0,0,false⟩:Loan),(-1)) else match m7 l r1 with|some x =>some (x,r1)|none =>none)|none =>none
def qck (l:List Loan) (item:Int):Option (Loan×Bool):=
 match q8 item with|some r1 =>(match qbl (fun g x0=>qb9 x0 g.2.1) l ((),(r1.1,())) with|some (r3,r4) =>some (r3,decide (0≤r4))|none =>none)|none =>none
def f7e:((List Item)×Int×Int×Circ×Unit)→Option (((List Item)×Int×Int×Circ×Unit)⊕((Unit)⊕(Bool×Unit))):=fun (v,v1,v2,c,_)=>
 bif decide (v2<v1) then match m7 v v2 with|some x =>(match qck c.Loans x.ID with|some (r3,r4) =>let k10 (v5:Bool):Option (((List Item)×Int×Int×Circ×Unit)⊕((Unit)⊕(Bool×Unit))):=let k9 (v6:Bool):Option (((List Item)×Int×Int×Circ×Unit)⊕((Unit)⊕(Bool×Unit))):=let k (v8:Bool):Option (((List Item)×Int×Int×Circ×Unit)⊕((Unit)⊕(Bool×Unit))):=bif v8 then some (.inr (.inr (false,()))) else some (.inl (v,v1,wr .i64 (v2+1),c,()));bif !(r4==v6) then k true else bif r4 then k (!(r3.Patron==x.Custody.Who)) else k false;bif v5 then k9 true else k9 (x.Custody.State==10);bif x.Custody.State==4 then k10 true else k10 (x.Custody.State==9)|none =>none)|none =>none else some (.inr (.inl (())))
def qbr (c:Circ):Option Bool:=
 match b8 f7e (c.Items,(c.Items.length:Int),0,c,()) with|some (.inl (_)) =>some true|some (.inr (v,_)) =>some v|none =>none
def qco (h:Hold) (v:Int):Option Bool:=
 some (h.Got==v)
def b17 {γ0:Type} (p:γ0→Hold→Option Bool):((List Hold)×γ0×Int×Int×Unit)→Option (((List Hold)×γ0×Int×Int×Unit)⊕((Unit)⊕(Int×Unit))):=fun (s,g,v,v1,_)=>
 bif decide (v1<v) then match m7 s v1 with|some x =>(match p g x with|some r =>bif r then some (.inr (.inr (v1,()))) else some (.inl (s,g,v,wr .i64 (v1+1),()))|none =>none)|none =>none else some (.inr (.inl (())))
def qa {γ0:Type} (p:γ0→Hold→Option Bool) (s:List Hold) (g:γ0):Option Int:=
 match b8 (b17 p) (s,g,(s.length:Int),0,()) with|some (.inl (_)) =>some (-1)|some (.inr (v,_)) =>some v|none =>none
def qao (c:Circ) (item:Int):Option (Hold×Bool):=
 match qa (fun g x0=>qco x0 g.2.1) c.Holds ((),(item,())) with|some r1 =>(bif decide (r1<0) then some ((⟨0,0,0,0,0,0,0,0,0,0,0⟩:Hold),false) else match m7 c.Holds r1 with|some x =>some (x,true)|none =>none)|none =>none
def f60:((List Hold)×Int×Int×Circ×Unit)→Option (((List Hold)×Int×Int×Circ×Unit)⊕((Circ×Unit)⊕(Bool×Unit))):=fun (v,v1,v2,c,_)=>
 bif decide (v2<v1) then match m7 v v2 with|some x =>(bif x.State==1 then some (.inl (v,v1,wr .i64 (v2+1),c,())) else match qz c x.Got with|some r3 =>(let k9 (v5:Bool):Option (((List Hold)×Int×Int×Circ×Unit)⊕((Circ×Unit)⊕(Bool×Unit))):=bif v5 then some (.inr (.inr (false,()))) else match m7 c.Items r3 with|some x6 =>let k (want:Int) (want7:Int) (want8:Int):Option (((List Hold)×Int×Int×Circ×Unit)⊕((Circ×Unit)⊕(Bool×Unit))):=bif !(a1j x6.Custody (⟨want,want7,x.Patron,want8⟩:Custody)) then some (.inr (.inr (false,()))) else some (.inl (v,v1,wr .i64 (v2+1),c,()));bif x.State==2 then k 6 x6.Custody.Branch x.Pickup else k 5 x.Pickup 0|none =>none;bif decide (r3<0) then k9 true else match m7 c.Items r3 with|some x4 =>k9 (!(x4.Record==x.Record))|none =>none)|none =>none)|none =>none else some (.inr (.inl (c,())))
def e29:((List Item)×Int×Int×Circ×Unit)→Option (((List Item)×Int×Int×Circ×Unit)⊕((Unit)⊕(Bool×Unit))):=fun (v,v11,v12,c,_)=>
 bif decide (v12<v11) then match m7 v v12 with|some x =>(match qao c x.ID with|some (r13,r14) =>let k (v16:Bool):Option (((List Item)×Int×Int×Circ×Unit)⊕((Unit)⊕(Bool×Unit))):=bif v16 then some (.inr (.inr (false,()))) else some (.inl (v,v11,wr .i64 (v12+1),c,()));bif x.Custody.State==5 then bif !r14 then k true else k (!(r13.State==3)) else k false|none =>none)|none =>none else some (.inr (.inl (())))
def qad (c:Circ):Option Bool:=
 match b8 f60 (c.Holds,(c.Holds.length:Int),0,c,()) with|some (.inl (c10,_)) =>(match b8 e29 (c10.Items,(c10.Items.length:Int),0,c10,()) with|some (.inl (_)) =>some true|some (.inr (v,_)) =>some v|none =>none)|some (.inr (v17,_)) =>some v17|none =>none
def qe2 (c:Circ):Option Bool:=
 match qb6 c.Today 0 109572 with|some r1 =>let k19 (v:Bool):Option Bool:=let k18 (v6:Bool):Option Bool:=let k17 (v9:Bool):Option Bool:=let k16 (v12:Bool):Option Bool:=let k (v15:Bool):Option Bool:=some v15;bif v12 then match qad c with|some r14 =>k r14|none =>none else k false;bif v9 then match qbr c with|some r11 =>k16 r11|none =>none else k16 false;bif v6 then match qg c with|some r8 =>k17 r8|none =>none else k17 false;bif v then match qq c with|some r5 =>k18 r5|none =>none else k18 false;bif r1 then match qr c with|some r3 =>k19 r3|none =>none else k19 false|none =>none
def qx (c:Circ) (x:Item):Option (Circ×Int):=
 match qz c x.ID with|some r1 =>(bif decide (0≤r1) then some (ZN,7) else bif decide (64≤(c.Items.length:Int)) then some (ZN,13) else match qec x.Branch with|some r3 =>(match qc (fun g x0=>qcy x0 g.2.1) c.Items ((),(x,())) with|some r5 =>let k (i:Int):Option (Circ×Int):=match qcm c.Items with|some l =>(match qd6 l i ([(⟨x.ID,x.Record,x.Branch,x.Kind,x.Price,x.Call,r3⟩:Item)]) with|some l8 =>(match qe2 {c with Items:=l8} with|some r10 =>bif !r10 then some (ZN,1) else some ({c with Items:=l8},0)|none =>none)|none =>none)|none =>none;bif decide (r5<0) then k (c.Items.length:Int) else k r5|none =>none)|none =>none)|none =>none
def qda (x:Patron) (v:Patron):Option Bool:=
 some (decide (v.ID<x.ID))
def qd4 (s:List Patron):Option (List Patron):=
 bif decide (([]:List Patron).length+s.length≤LIM) then some (([])++s) else none
def qd9 (l:List Patron):Option ((List Patron)×Int):=
 match qba l with|some r1 =>bif !(r1==0) then some ([],r1) else some (l,0)|none =>none
def qb1 (l:List Patron) (p:Patron):Option ((List Patron)×Int):=
 match qbz l p.ID with|some r1 =>(bif decide (0≤r1) then some ([],7) else match qm (fun g x0=>qda x0 g.2.1) l ((),(p,())) with|some r3 =>let k (i:Int):Option ((List Patron)×Int):=match qd4 l with|some l5 =>(match qd3 l5 i ([p]) with|some l7 =>(match qd9 l7 with|some (r9,r10) =>some (r9,r10)|none =>none)|none =>none)|none =>none;bif decide (r3<0) then k (l.length:Int) else k r3|none =>none)|none =>none
def qdr (c:Circ) (p:Patron):Option (Circ×Int):=
 match qb1 c.Patrons p with|some (r1,r2) =>bif !(r2==0) then some (ZN,r2) else some ({c with Patrons:=r1},0)|none =>none
def qee:Option Circ:=
 match qem 100 with|some r1 =>(match qx {r1 with Rules:=[(⟨0,0,0,14,1,10,0,500,2,5,7,0,0⟩:Rule)]} (⟨1,5,1,1,2000,[],⟨0,0,0,0⟩⟩:Item) with|some (r3,r4) =>(match qdr r3 (⟨7,1,1,5000,false,[65,110,110]⟩:Patron) with|some (r6,r7) =>(match qdr r6 (⟨8,1,1,5000,false,[66,111,98]⟩:Patron) with|some (r9,r10) =>some r9|none =>none)|none =>none)|none =>none)|none =>none
def qac (c:Circ):Option Circ_desk:=
 some (⟨c,0⟩:Circ_desk)
def qo (e:Int) (d:Circ_desk):Option (Unit×Circ_desk):=
 let k (v:Int):Option (Unit×Circ_desk):=some ((),(⟨d.c,v⟩:Circ_desk));bif d.err==0 then k e else k d.err
def qbu (vid:Int) (d:Circ_desk):Option (Int×Circ_desk):=
 match qz d.c vid with|some r1 =>let k (v3:Circ_desk):Option (Int×Circ_desk):=some (r1,v3);bif decide (r1<0) then match qo 9 d with|some (_,v) =>k v|none =>none else k d|none =>none
def qdl (s:List Move):Option (List Move):=
 bif decide (([]:List Move).length+s.length≤LIM) then some (([])++s) else none
def qam (i:Int) (kind:Int) (branch:Int) (who:Int) (d:Circ_desk):Option (Unit×Circ_desk):=
 bif !(d.err==0) then some ((),d) else match m7 d.c.Items i with|some x =>(match m7 d.c.Items i with|some x1 =>(match qed x1.Custody (⟨d.c.Today,x.ID,kind,branch,who⟩:Move) with|some (r2,r3) =>let k10 (v:Bool):Option (Unit×Circ_desk):=let k (e:Int):Option (Unit×Circ_desk):=bif !(e==0) then match qo e d with|some (_,v5) =>some ((),v5)|none =>none else match qcm d.c.Items with|some l =>(match m7 l i with|some _ =>(match l[i.toNat]? with|some x7 =>(match qdl d.c.Moves with|some l9 =>bif decide (l9.length+([(⟨d.c.Today,x.ID,kind,branch,who⟩:Move)]:List Move).length≤LIM) then some ((),(⟨⟨d.c.Today,l.set i.toNat (⟨x7.ID,x7.Record,x7.Branch,x7.Kind,x7.Price,x7.Call,r2⟩:Item),d.c.Patrons,d.c.Loans,d.c.Holds,d.c.Charges,d.c.Rules,d.c.Cals,l9++([(⟨d.c.Today,x.ID,kind,branch,who⟩:Move)]:List Move),d.c.NextHold,d.c.NextCharge,d.c.Local⟩,d.err⟩:Circ_desk)) else none|none =>none)|none =>none)|none =>none)|none =>none;bif v then k 13 else k r3;bif r3==0 then k10 (decide (2000≤(d.c.Moves.length:Int))) else k10 false|none =>none)|none =>none)|none =>none
def qcw (c:Circ) (x:Item):Option Int:=
 match qax c.Holds x x.Custody.Branch c.Today c.Local with|some r1 =>some r1|none =>none
def qeh (h:Hold) (v:Int):Option Bool:=
 some (h.ID==v)
def qa5 (l:List Hold) (vid:Int):Option Int:=
 match qa (fun g x0=>qeh x0 g.2.1) l ((),(vid,())) with|some r1 =>some r1|none =>none
def qci (l:List Hold) (vid:Int):Option (Hold×Bool):=
 match qa5 l vid with|some r1 =>bif decide (0≤r1) then match m7 l r1 with|some x =>some (x,true)|none =>none else some ((⟨0,0,0,0,0,0,0,0,0,0,0⟩:Hold),false)|none =>none
def qbx (i:Int) (kind:Int) (d:Circ_desk):Option (Unit×Circ_desk):=
 let k (v1:Circ_desk):Option (Unit×Circ_desk):=some ((),v1);bif d.err==0 then match m7 d.c.Items i with|some x =>(match qam i kind x.Custody.Branch 0 d with|some (_,v) =>k v|none =>none)|none =>none else k d
def qes (key:Int) (n:Int):Option Bool:=
 let k (v:Bool):Option Bool:=some v;bif key==0 then k true else k (key==n)
def qb4 (r:Rule) (patron:Int) (item:Int) (branch:Int):Option Bool:=
 match qes r.Patron patron with|some r2 =>let k8 (v:Bool):Option Bool:=let k (v7:Bool):Option Bool:=some v7;bif v then match qes r.Branch branch with|some r6 =>k r6|none =>none else k false;bif r2 then match qes r.Item item with|some r4 =>k8 r4|none =>none else k8 false|none =>none
def b1k:(Int×Int×Int×(List Int)×Unit)→Option ((Int×Int×Int×(List Int)×Unit)⊕((Int×Unit))):=fun (n,v,v1,l,_)=>
 bif decide (v1<v) then match m7 l v1 with|some _ =>(match l[v1.toNat]? with|some x =>let k (n2:Int):Option ((Int×Int×Int×(List Int)×Unit)⊕((Int×Unit))):=some (.inl (n2,v,wr .i64 (v1+1),l,()));bif !(x==0) then k (wr .i64 ((wr .i64 (n*2))+1)) else k (wr .i64 (n*2))|none =>none)|none =>none else some (.inr ((n,())))
def qbh (r:Rule):Option Int:=
 match b8 b1k (0,(([r.Patron,r.Item,r.Branch]).length:Int),0,[r.Patron,r.Item,r.Branch],()) with|some ((n,_)) =>some n|none =>none
def b46:((List Rule)×Int×Int×Int×Int×(List Rule)×Int×Int×Unit)→Option (((List Rule)×Int×Int×Int×Int×(List Rule)×Int×Int×Unit)⊕((Int×Unit))):=fun (l,patron,item,branch,vat,v,v1,v2,_)=>
 bif decide (v2<v1) then match m7 v v2 with|some x =>(match qb4 x patron item branch with|some r3 =>let k12 (v10:Bool):Option (((List Rule)×Int×Int×Int×Int×(List Rule)×Int×Int×Unit)⊕((Int×Unit))):=let k (vat11:Int):Option (((List Rule)×Int×Int×Int×Int×(List Rule)×Int×Int×Unit)⊕((Int×Unit))):=some (.inl (l,patron,item,branch,vat11,v,v1,wr .i64 (v2+1),()));bif v10 then k v2 else k vat;bif r3 then bif decide (vat<0) then k12 true else match qbh x with|some r5 =>(match m7 l vat with|some x6 =>(match qbh x6 with|some r8 =>k12 (decide (r8<r5))|none =>none)|none =>none)|none =>none else k12 false|none =>none)|none =>none else some (.inr ((vat,())))
def qbb (l:List Rule) (patron:Int) (item:Int) (branch:Int):Option Int:=
 match b8 b46 (l,patron,item,branch,(-1),l,(l.length:Int),0,()) with|some ((vat,_)) =>some vat|none =>none
def qeg (l:List Rule) (patron:Int) (item:Int) (branch:Int):Option (Rule×Bool):=
 match qbb l patron item branch with|some r1 =>(bif decide (r1<0) then some ((⟨0,0,0,0,0,0,0,0,0,0,0,0,0⟩:Rule),false) else match m7 l r1 with|some x =>some (x,true)|none =>none)|none =>none
def qb7 (c:Circ) (vid:Int) (x:Item):Option (Rule×Bool):=
 match qcd c.Patrons vid with|some (r1,r2) =>(bif !r2 then some ((⟨0,0,0,0,0,0,0,0,0,0,0,0,0⟩:Rule),false) else match qeg c.Rules r1.Kind x.Kind x.Branch with|some (r4,r5) =>some (r4,r5)|none =>none)|none =>none
def qcl (c:Circ) (branch:Int):Option Calendar:=
 match qb6 branch 1 4 with|some r1 =>bif !r1 then some (⟨0,[]⟩:Calendar) else let k (v:Int) (v2:List Int):Option Calendar:=some (⟨v,v2⟩:Calendar);bif (wr .i64 (branch-1))==0 then k c.Cals.x0.Week c.Cals.x0.Closed else bif (wr .i64 (branch-1))==1 then k c.Cals.x1.Week c.Cals.x1.Closed else bif (wr .i64 (branch-1))==2 then k c.Cals.x2.Week c.Cals.x2.Closed else bif (wr .i64 (branch-1))==3 then k c.Cals.x3.Week c.Cals.x3.Closed else none|none =>none
def qe8 (x:Int):Option Bool:=
 some (!(x==x))
def qfa (x:Int) (y:Int):Option Bool:=
 match qe8 x with|some r1 =>let k5 (v:Bool):Option Bool:=let k (v4:Bool):Option Bool:=some v4;bif v then k true else k (decide (x<y));bif r1 then match qe8 y with|some r3 =>k5 (!r3)|none =>none else k5 false|none =>none
def qeo (x:Int):Option Bool:=
 some (!(x==x))
def b8n:((List Int)×Int×Int×Int×Int×Unit)→Option (((List Int)×Int×Int×Int×Int×Unit)⊕(((List Int)×Int×Int×Int×Unit))):=fun (x,target,n,i,j,_)=>
 bif decide (i<j) then match m7 x (wr .i64 ((wr .u64 (wr .i64 (i+j))).fdiv (2 ^ 1))) with|some x1 =>(match qfa x1 target with|some r2 =>let k (i3:Int) (j4:Int):Option (((List Int)×Int×Int×Int×Int×Unit)⊕(((List Int)×Int×Int×Int×Unit))):=some (.inl (x,target,n,i3,j4,()));bif r2 then k (wr .i64 ((wr .i64 ((wr .u64 (wr .i64 (i+j))).fdiv (2 ^ 1)))+1)) j else k i (wr .i64 ((wr .u64 (wr .i64 (i+j))).fdiv (2 ^ 1)))|none =>none)|none =>none else some (.inr ((x,target,n,i,())))
def qaz (x:List Int) (target:Int):Option (Int×Bool):=
 match b8 b8n (x,target,(x.length:Int),0,(x.length:Int),()) with|some ((x5,target6,n,i,_)) =>let k (v13:Bool):Option (Int×Bool):=some (i,v13);bif decide (i<n) then match m7 x5 i with|some x7 =>(bif x7==target6 then k true else match m7 x5 i with|some x8 =>(match qeo x8 with|some r9 =>bif r9 then match qeo target6 with|some r11 =>k r11|none =>none else k false|none =>none)|none =>none)|none =>none else k false|none =>none
def e3a:(Int×Calendar×(V7 Bool)×(V7 Bool)×Unit)→Option ((Int×Calendar×(V7 Bool)×(V7 Bool)×Unit)⊕(((V7 Bool)×(V7 Bool)×Unit))):=fun (v,c,v1,vopen,_)=>
 bif decide (v<7) then bif decide (v<0) then none else bif v==0 then some (.inl (wr .i64 (v+1),c,v1,(⟨(wr .i64 (BitVec.ofInt 64 (c.Week.fdiv (2 ^ (min v.toNat 64))) &&& BitVec.ofInt 64 1).toNat)==0,vopen.x1,vopen.x2,vopen.x3,vopen.x4,vopen.x5,vopen.x6⟩:V7 Bool),())) else bif v==1 then some (.inl (wr .i64 (v+1),c,v1,(⟨vopen.x0,(wr .i64 (BitVec.ofInt 64 (c.Week.fdiv (2 ^ (min v.toNat 64))) &&& BitVec.ofInt 64 1).toNat)==0,vopen.x2,vopen.x3,vopen.x4,vopen.x5,vopen.x6⟩:V7 Bool),())) else bif v==2 then some (.inl (wr .i64 (v+1),c,v1,(⟨vopen.x0,vopen.x1,(wr .i64 (BitVec.ofInt 64 (c.Week.fdiv (2 ^ (min v.toNat 64))) &&& BitVec.ofInt 64 1).toNat)==0,vopen.x3,vopen.x4,vopen.x5,vopen.x6⟩:V7 Bool),())) else bif v==3 then some (.inl (wr .i64 (v+1),c,v1,(⟨vopen.x0,vopen.x1,vopen.x2,(wr .i64 (BitVec.ofInt 64 (c.Week.fdiv (2 ^ (min v.toNat 64))) &&& BitVec.ofInt 64 1).toNat)==0,vopen.x4,vopen.x5,vopen.x6⟩:V7 Bool),())) else bif v==4 then some (.inl (wr .i64 (v+1),c,v1,(⟨vopen.x0,vopen.x1,vopen.x2,vopen.x3,(wr .i64 (BitVec.ofInt 64 (c.Week.fdiv (2 ^ (min v.toNat 64))) &&& BitVec.ofInt 64 1).toNat)==0,vopen.x5,vopen.x6⟩:V7 Bool),())) else bif v==5 then some (.inl (wr .i64 (v+1),c,v1,(⟨vopen.x0,vopen.x1,vopen.x2,vopen.x3,vopen.x4,(wr .i64 (BitVec.ofInt 64 (c.Week.fdiv (2 ^ (min v.toNat 64))) &&& BitVec.ofInt 64 1).toNat)==0,vopen.x6⟩:V7 Bool),())) else bif v==6 then some (.inl (wr .i64 (v+1),c,v1,(⟨vopen.x0,vopen.x1,vopen.x2,vopen.x3,vopen.x4,vopen.x5,(wr .i64 (BitVec.ofInt 64 (c.Week.fdiv (2 ^ (min v.toNat 64))) &&& BitVec.ofInt 64 1).toNat)==0⟩:V7 Bool),())) else none else some (.inr ((v1,vopen,())))
def qat (c:Calendar):Option (V7 Bool):=
 match b8 e3a (0,c,(⟨false,false,false,false,false,false,false⟩:V7 Bool),(⟨false,false,false,false,false,false,false⟩:V7 Bool),()) with|some ((v,vopen,_)) =>some vopen|none =>none
def qfp (day:Int):Option Bool:=
 let k (v:Bool):Option Bool:=some v;bif decide (0≤day) then k (decide (day≤109572)) else k false
def qdb (day:Int):Option Int:=
 match qfp day with|some r1 =>bif !r1 then some (-1) else some (day.tmod 7)|none =>none
def qcj (c:Calendar) (day:Int):Option Bool:=
 match qc7 day with|some r1 =>(bif !r1 then some false else match qaz c.Closed day with|some (r3,r4) =>let k (v9:Bool):Option Bool:=some v9;bif !r4 then match qat c with|some r6 =>(match qdb day with|some r8 =>bif r8==0 then k r6.x0 else bif r8==1 then k r6.x1 else bif r8==2 then k r6.x2 else bif r8==3 then k r6.x3 else bif r8==4 then k r6.x4 else bif r8==5 then k r6.x5 else bif r8==6 then k r6.x6 else none|none =>none)|none =>none else k false|none =>none)|none =>none
def c40:(Int×Calendar×Unit)→Option ((Int×Calendar×Unit)⊕((Unit)⊕(Int×Int×Unit))):=fun (d,c,_)=>
 bif decide (d≤109572) then match qcj c d with|some r1 =>bif r1 then some (.inr (.inr (d,0,()))) else some (.inl (wr .i64 (d+1),c,()))|none =>none else some (.inr (.inl (())))
def qa2 (c:Calendar) (day:Int):Option (Int×Int):=
 match b8 c40 ((if day<0 then 0 else day),c,()) with|some (.inl (_)) =>some (0,2)|some (.inr (v,v2,_)) =>some (v,v2)|none =>none
def b8d:(Int×Int×Int×Calendar×Unit)→Option ((Int×Int×Int×Calendar×Unit)⊕((Int×Unit)⊕(Int×Int×Unit))):=fun (d,v,v5,c,_)=>
 bif decide (v5<v) then match qa2 c (wr .i64 (d+1)) with|some (r6,r7) =>bif !(r7==0) then some (.inr (.inr (0,r7,()))) else some (.inl (r6,v,wr .i64 (v5+1),c,()))|none =>none else some (.inr (.inl (d,())))
def qa9 (c:Calendar) (day:Int) (n:Int):Option (Int×Int):=
 let k (v:Bool):Option (Int×Int):=bif v then some (0,1) else match qc7 day with|some r1 =>(bif !r1 then some (0,2) else bif n==0 then match qa2 c day with|some (r3,r4) =>some (r3,r4)|none =>none else match b8 b8d (day,n,0,c,()) with|some (.inl (d,_)) =>some (d,0)|some (.inr (v8,v9,_)) =>some (v8,v9)|none =>none)|none =>none;bif decide (n<0) then k true else k (decide (1000<n))
def qeq (branch:Int) (n:Int) (d:Circ_desk):Option (Int×Circ_desk):=
 match qcl d.c branch with|some r1 =>(match qa9 r1 d.c.Today n with|some (r3,r4) =>let k (v6:Circ_desk):Option (Int×Circ_desk):=some (r3,v6);bif !(r4==0) then match qo r4 d with|some (_,v) =>k v|none =>none else k d|none =>none)|none =>none
def qcq (o:Hold) (v:Int) (v1:Int):Option Bool:=
 let k (v2:Bool):Option Bool:=some v2;bif o.Got==v then k (!(o.ID==v1)) else k false
def qb3 {γ0:Type} (p:γ0→Hold→Option Bool) (s:List Hold) (g:γ0):Option Bool:=
 match qa p s g with|some r1 =>some (decide (0≤r1))|none =>none
def qdn (s:List Hold):Option (List Hold):=
 bif decide (([]:List Hold).length+s.length≤LIM) then some (([])++s) else none
def qd1 (l:List Hold) (i:Int) (h:Hold):Option (List Hold):=
 match qdn l with|some l1 =>(match m7 l1 i with|some _ =>(match l1[i.toNat]? with|some x =>some (l1.set i.toNat h)|none =>none)|none =>none)|none =>none
def qap (l:List Hold) (vid:Int) (item:Int) (state:Int) (vuntil:Int):Option ((List Hold)×Int):=
 match qa5 l vid with|some r1 =>bif decide (r1<0) then some ([],9) else let k18 (v:Bool):Option ((List Hold)×Int):=match qb5 item 1 9999 with|some r5 =>let k17 (v8:Bool):Option ((List Hold)×Int):=bif v8 then some ([],1) else match m7 l r1 with|some x =>let k16 (v11:Bool):Option ((List Hold)×Int):=bif v11 then some ([],12) else match qb3 (fun g x0=>qcq x0 g.2.1 g.2.2.1) l ((),(item,vid,())) with|some r13 =>(bif r13 then some ([],7) else match qd1 l r1 (⟨x.ID,x.Patron,x.Record,x.Item,x.Pickup,x.Placed,state,item,vuntil,x.Asleep,x.Rank⟩:Hold) with|some r15 =>some (r15,0)|none =>none)|none =>none;bif !(x.State==1) then let k (v9:Bool):Option ((List Hold)×Int):=bif v9 then k16 true else k16 (!(state==3));bif !(x.State==2) then k true else k (!(x.Got==item)) else k16 false|none =>none;bif !r5 then k17 true else bif !v then bif !(state==2) then k17 true else k17 (!(vuntil==0)) else k17 false|none =>none;bif state==3 then match qb5 vuntil 1 109572 with|some r3 =>k18 r3|none =>none else k18 false|none =>none
def qcb (l:List Hold) (e:Int) (d:Circ_desk):Option (Unit×Circ_desk):=
 let k3 (v1:Circ_desk):Option (Unit×Circ_desk):=let k (v2:List Hold):Option (Unit×Circ_desk):=some ((),(⟨⟨v1.c.Today,v1.c.Items,v1.c.Patrons,v1.c.Loans,v2,v1.c.Charges,v1.c.Rules,v1.c.Cals,v1.c.Moves,v1.c.NextHold,v1.c.NextCharge,v1.c.Local⟩,v1.err⟩:Circ_desk));bif v1.err==0 then k l else k v1.c.Holds;bif !(e==0) then match qo e d with|some (_,v) =>k3 v|none =>none else k3 d
def qdo (i:Int) (h:Hold) (d:Circ_desk):Option (Unit×Circ_desk):=
 bif !(d.err==0) then some ((),d) else match m7 d.c.Items i with|some x =>(match qb7 d.c h.Patron x with|some (r1,r2) =>let k13 (days:Int):Option (Unit×Circ_desk):=match qam i 5 x.Custody.Branch h.Patron d with|some (_,v) =>(match qeq x.Custody.Branch days v with|some (r5,v6) =>let k (v12:Circ_desk):Option (Unit×Circ_desk):=some ((),v12);bif v6.err==0 then match qap v6.c.Holds h.ID x.ID 3 r5 with|some (r8,r9) =>(match qcb r8 r9 v6 with|some (_,v11) =>k v11|none =>none)|none =>none else k v6|none =>none)|none =>none;bif r2 then k13 r1.Shelf else k13 7|none =>none)|none =>none
def qcg (i:Int) (d:Circ_desk):Option (Unit×Circ_desk):=
 bif !(d.err==0) then some ((),d) else match m7 d.c.Items i with|some x =>(match qcw d.c x with|some r1 =>(match qci d.c.Holds r1 with|some (r3,r4) =>let k25 (v:Bool):Option (Unit×Circ_desk):=let k24 (v23:Circ_desk):Option (Unit×Circ_desk):=some ((),v23);bif v then match qam i 6 x.Branch 0 d with|some (_,v6) =>k24 v6|none =>none else let k (v7:Bool):Option (Unit×Circ_desk):=bif v7 then match qbx i 2 d with|some (_,v9) =>k24 v9|none =>none else bif !r4 then k24 d else bif r3.Pickup==x.Custody.Branch then match qdo i r3 d with|some (_,v11) =>k24 v11|none =>none else match qam i 6 r3.Pickup r3.Patron d with|some (_,v13) =>bif v13.err==0 then match qap v13.c.Holds r1 x.ID 2 0 with|some (r15,r16) =>(match qcb r15 r16 v13 with|some (_,v18) =>k24 v18|none =>none)|none =>none else k24 v13|none =>none;bif !r4 then k (!(x.Custody.State==3)) else k false;bif !r4 then k25 (!(x.Branch==x.Custody.Branch)) else k25 false|none =>none)|none =>none)|none =>none
def qh (d:Circ_desk):Option ((Circ×Int)×Circ_desk):=
 bif !(d.err==0) then some ((ZN,d.err),d) else some ((d.c,0),d)
def qct (c:Circ) (item:Int) (branch:Int):Option (Circ×Int):=
 match qac c with|some d =>(match qbu item d with|some (r2,v) =>let k (v7:Circ_desk):Option (Circ×Int):=match qh v7 with|some ((r9,r10),v11) =>some (r9,r10)|none =>none;bif decide (0≤r2) then match qam r2 1 branch 0 v with|some (_,v4) =>(match qcg r2 v4 with|some (_,v6) =>k v6|none =>none)|none =>none else k v|none =>none)|none =>none
def b8b:(Int×Int×(List Charge)×Int×Int×Unit)→Option ((Int×Int×(List Charge)×Int×Int×Unit)⊕((Int×Unit))):=fun (patron,vsum,v,v1,v2,_)=>
 bif decide (v2<v1) then match m7 v v2 with|some x =>let k (vsum3:Int):Option ((Int×Int×(List Charge)×Int×Int×Unit)⊕((Int×Unit))):=some (.inl (patron,vsum3,v,v1,wr .i64 (v2+1),()));bif x.Patron==patron then k (wr .i64 (vsum+(wr .i64 (x.Amount-x.Paid)))) else k vsum|none =>none else some (.inr ((vsum,())))
def qa6 (l:List Charge) (patron:Int):Option Int:=
 match b8 b8b (patron,0,l,(l.length:Int),0,()) with|some ((vsum,_)) =>some vsum|none =>none
def d6b:(Int×(List Loan)×Int×Int×(List Loan)×Unit)→Option ((Int×(List Loan)×Int×Int×(List Loan)×Unit)⊕(((List Loan)×Unit))):=fun (patron,v,v1,v2,l,_)=>
 bif decide (v2<v1) then match m7 v v2 with|some x =>bif x.Patron==patron then bif decide (l.length+([x]:List Loan).length≤LIM) then some (.inl (patron,v,v1,wr .i64 (v2+1),l++([x]:List Loan),())) else none else some (.inl (patron,v,v1,wr .i64 (v2+1),l,()))|none =>none else some (.inr ((l,())))
def qy (l:List Loan) (patron:Int):Option (List Loan):=
 match b8 d6b (patron,l,(l.length:Int),0,([]:List Loan),()) with|some ((l3,_)) =>some l3|none =>none
def b8k:(Int×Int×(List Loan)×Int×Int×Unit)→Option ((Int×Int×(List Loan)×Int×Int×Unit)⊕((Int×Unit))):=fun (day,n,v,v2,v3,_)=>
 bif decide (v3<v2) then match m7 v v3 with|some x =>let k (n4:Int):Option ((Int×Int×(List Loan)×Int×Int×Unit)⊕((Int×Unit))):=some (.inl (day,n4,v,v2,wr .i64 (v3+1),()));bif decide (x.Due<day) then k (wr .i64 (n+1)) else k n|none =>none else some (.inr ((n,())))
def qaw (l:List Loan) (patron:Int) (day:Int):Option Int:=
 match qy l patron with|some r1 =>(match b8 b8k (day,0,r1,(r1.length:Int),0,()) with|some ((n,_)) =>some n|none =>none)|none =>none
def e3d:(Int×Int×(List Int)×(List Bool)×Unit)→Option ((Int×Int×(List Int)×(List Bool)×Unit)⊕(((List Int)×Unit))):=fun (v,v1,l,l2,_)=>
 bif decide (v1<v) then match m7 l2 v1 with|some _ =>(match l2[v1.toNat]? with|some x =>bif x then bif decide (l.length+([wr .i64 (v1+1)]:List Int).length≤LIM) then some (.inl (v,wr .i64 (v1+1),l++([wr .i64 (v1+1)]:List Int),l2,())) else none else some (.inl (v,wr .i64 (v1+1),l,l2,()))|none =>none)|none =>none else some (.inr ((l,())))
def qbg (p:Patron) (day:Int) (a8p:Int) (late:Int):Option (List Int):=
 match b8 e3d ((([p.Stopped,decide (p.Until<day),decide (1000<a8p),decide (2<late)]).length:Int),0,([]:List Int),[p.Stopped,decide (p.Until<day),decide (1000<a8p),decide (2<late)],()) with|some ((l,_)) =>some l|none =>none
def qdd (c:Circ) (p:Patron):Option Bool:=
 match qa6 c.Charges p.ID with|some r1 =>(match qaw c.Loans p.ID c.Today with|some r3 =>(match qbg p c.Today r1 r3 with|some r5 =>some (decide (0<(r5.length:Int)))|none =>none)|none =>none)|none =>none
def c42:(Int×Calendar×Unit)→Option ((Int×Calendar×Unit)⊕((Unit)⊕(Int×Int×Unit))):=fun (d,c,_)=>
 bif decide (0≤d) then match qcj c d with|some r1 =>bif r1 then some (.inr (.inr (d,0,()))) else some (.inl (wr .i64 (d-1),c,()))|none =>none else some (.inr (.inl (())))
def qbs (c:Calendar) (day:Int):Option (Int×Int):=
 match b8 c42 ((if 109572<day then 109572 else day),c,()) with|some (.inl (_)) =>some (0,2)|some (.inr (v,v2,_)) =>some (v,v2)|none =>none
def qdh (r:Rule) (c:Calendar) (day:Int) (vuntil:Int):Option (Int×Int):=
 match qby day 0 109572 with|some r2 =>(let k17 (v:Bool):Option (Int×Int):=bif v then some (0,2) else let k16 (last:Int):Option (Int×Int):=let k15 (v5:Bool):Option (Int×Int):=bif v5 then some (0,15) else match qa2 c (if last<wr .i64 (day+r.Days) then last else wr .i64 (day+r.Days)) with|some (r7,r8) =>let k14 (v9:Bool):Option (Int×Int):=bif v9 then some (r7,0) else match qbs c last with|some (r11,r12) =>let k (v13:Bool):Option (Int×Int):=bif v13 then some (0,15) else some (r11,0);bif !(r12==0) then k true else k (decide (r11≤day))|none =>none;bif r8==0 then k14 (decide (r7≤last)) else k14 false|none =>none;bif r.Days==0 then k15 true else k15 (decide (last≤day));bif decide (0<r.Fixed) then k16 (if r.Fixed<vuntil then r.Fixed else vuntil) else k16 vuntil;bif !r2 then k17 true else match qby vuntil 0 109572 with|some r4 =>k17 (!r4)|none =>none)|none =>none
def qev (c:Circ) (x:Item) (p:Patron) (branch:Int):Option (Int×Int):=
 let k26 (v:Bool):Option (Int×Int):=let k4 (v3:Int):Option (Int×Int):=some (0,v3);bif v then k4 12 else bif !(x.Custody.Branch==branch) then k4 1 else let k (v1:Bool):Option (Int×Int):=bif v1 then k4 16 else let k25 (_:Unit):Option (Int×Int):=match qdd c p with|some r12 =>(bif r12 then some (0,14) else match qb7 c p.ID x with|some (r14,r15) =>(let k24 (v18:Bool):Option (Int×Int):=bif v18 then some (0,15) else match qcl c branch with|some r20 =>(match qdh r14 r20 c.Today p.Until with|some (r22,r23) =>some (r22,r23)|none =>none)|none =>none;bif !r15 then k24 true else match qy c.Loans p.ID with|some r17 =>k24 (decide (r14.Loans≤(r17.length:Int)))|none =>none)|none =>none)|none =>none;bif x.Custody.State==3 then match qcw c x with|some r5 =>(match qci c.Holds r5 with|some (r7,r8) =>let k10 (v9:Bool):Option (Int×Int):=bif v9 then some (0,16) else k25 ();bif r8 then k10 (!(r7.Patron==p.ID)) else k10 false|none =>none)|none =>none else k25 ();bif x.Custody.State==5 then k (!(x.Custody.Who==p.ID)) else k false;bif !(x.Custody.State==3) then k26 (!(x.Custody.State==5)) else k26 false
def qcv (x:Loan) (v:Loan):Option Bool:=
 some (decide (v.Item<x.Item))
def qdm (s:List Loan):Option (List Loan):=
 bif decide (([]:List Loan).length+s.length≤LIM) then some (([])++s) else none
def qcp (l:List Loan):Option ((List Loan)×Int):=
 match qbc l with|some r1 =>bif !(r1==0) then some ([],r1) else some (l,0)|none =>none
def qbw (l:List Loan) (n:Loan):Option ((List Loan)×Int):=
 match q8 n.Item with|some r1 =>(match qbl (fun g x0=>qb9 x0 g.2.1) l ((),(r1.1,())) with|some (r3,r4) =>(bif decide (0≤r4) then some ([],7) else match qbl (fun g x0=>qcv x0 g.2.1) l ((),(n,())) with|some (r6,r7) =>let k (i:Int):Option ((List Loan)×Int):=match qdm l with|some l9 =>(match qd5 l9 i ([n]) with|some l11 =>(match qcp l11 with|some (r13,r14) =>some (r13,r14)|none =>none)|none =>none)|none =>none;bif decide (r7<0) then k (l.length:Int) else k r7|none =>none)|none =>none)|none =>none
def qca (l:List Loan) (e:Int) (d:Circ_desk):Option (Unit×Circ_desk):=
 let k3 (v1:Circ_desk):Option (Unit×Circ_desk):=let k (v2:List Loan):Option (Unit×Circ_desk):=some ((),(⟨⟨v1.c.Today,v1.c.Items,v1.c.Patrons,v2,v1.c.Holds,v1.c.Charges,v1.c.Rules,v1.c.Cals,v1.c.Moves,v1.c.NextHold,v1.c.NextCharge,v1.c.Local⟩,v1.err⟩:Circ_desk));bif v1.err==0 then k l else k v1.c.Loans;bif !(e==0) then match qo e d with|some (_,v) =>k3 v|none =>none else k3 d
def qex (l:List Hold) (vid:Int):Option ((List Hold)×Hold×Int):=
 match qa5 l vid with|some r1 =>(bif decide (r1<0) then some ([],(⟨0,0,0,0,0,0,0,0,0,0,0⟩:Hold),9) else match qdn l with|some l3 =>(match qd8 l3 r1 (wr .i64 (r1+1)) with|some l5 =>(match m7 l r1 with|some x =>some (l5,x,0)|none =>none)|none =>none)|none =>none)|none =>none
def qdq (vid:Int) (d:Circ_desk):Option (Unit×Circ_desk):=
 let k (v5:Circ_desk):Option (Unit×Circ_desk):=some ((),v5);bif d.err==0 then match qex d.c.Holds vid with|some (r1,r2,r3) =>(match qcb r1 r3 d with|some (_,v) =>k v|none =>none)|none =>none else k d
def qbf (n:Int) (d:Circ_desk):Option ((Circ×Int×Int)×Circ_desk):=
 bif !(d.err==0) then some ((ZN,0,d.err),d) else some ((d.c,n,0),d)
def qch (h:Hold) (x:Item):Option Bool:=
 let k (v1:Bool):Option Bool:=some v1;bif h.Record==x.Record then bif h.Item==0 then k true else k (h.Item==x.ID) else k false
def qdf (h:Hold) (v:Int) (v1:Item):Option Bool:=
 let k5 (v2:Bool):Option Bool:=let k (v4:Bool):Option Bool:=some v4;bif v2 then match qch h v1 with|some r3 =>k r3|none =>none else k false;bif h.Patron==v then k5 (h.State==1) else k5 false
def qbe (c:Circ) (item:Int) (vid:Int) (branch:Int):Option (Circ×Int×Int):=
 match qac c with|some d =>(match qbu item d with|some (r2,v) =>(match qcd c.Patrons vid with|some (r4,r5) =>let k40 (v8:Circ_desk):Option (Circ×Int×Int):=bif !(v8.err==0) then some (ZN,0,v8.err) else match m7 c.Items r2 with|some x =>(match qev c x r4 branch with|some (r10,r11) =>(bif !(r11==0) then some (ZN,0,r11) else match qam r2 3 branch vid v8 with|some (_,v13) =>(match qbw c.Loans (⟨item,vid,c.Today,r10,0,false⟩:Loan) with|some (r15,r16) =>(match qca r15 r16 v13 with|some (_,v18) =>(match qao c item with|some (r20,r21) =>(bif r21 then match qdq r20.ID v18 with|some (_,v23) =>(match qbf r10 v23 with|some ((r25,r26,r27),v28) =>some (r25,r26,r27)|none =>none)|none =>none else match qa (fun g x0=>qdf x0 g.2.1 g.2.2.1) c.Holds ((),(vid,x,())) with|some r30 =>let k (v34:Circ_desk):Option (Circ×Int×Int):=match qbf r10 v34 with|some ((r36,r37,r38),v39) =>some (r36,r37,r38)|none =>none;bif decide (0≤r30) then match m7 c.Holds r30 with|some x31 =>(match qdq x31.ID v18 with|some (_,v33) =>k v33|none =>none)|none =>none else k v18|none =>none)|none =>none)|none =>none)|none =>none)|none =>none)|none =>none)|none =>none;bif !r5 then match qo 9 v with|some (_,v7) =>k40 v7|none =>none else k40 v|none =>none)|none =>none)|none =>none
def qcz (x:Item) (record:Int):Option Bool:=
 let k (v:Bool):Option Bool:=some v;bif x.Record==record then k (!(x.Custody.State==12)) else k false
def qc5 (x:Item) (v:Hold):Option Bool:=
 match qcz x v.Record with|some r1 =>let k (v4:Bool):Option Bool:=some v4;bif r1 then match qch v x with|some r3 =>k r3|none =>none else k false|none =>none
def c8n:(Int×(List Loan)×Int×Int×Circ×Hold×Item×Unit)→Option ((Int×(List Loan)×Int×Int×Circ×Hold×Item×Unit)⊕((Int×Circ×Item×Unit)⊕(Int×Item×Unit))):=fun (first,v,v6,v7,c,h,v8,_)=>
 bif decide (v7<v6) then match m7 v v7 with|some x =>(match qz c x.Item with|some r9 =>let k (v11:Bool):Option ((Int×(List Loan)×Int×Int×Circ×Hold×Item×Unit)⊕((Int×Circ×Item×Unit)⊕(Int×Item×Unit))):=bif v11 then some (.inr (.inr (12,(⟨0,0,0,0,0,[],⟨0,0,0,0⟩⟩:Item),()))) else some (.inl (first,v,v6,wr .i64 (v7+1),c,h,v8,()));bif decide (0≤r9) then match m7 c.Items r9 with|some x10 =>k (x10.Record==h.Record)|none =>none else k false|none =>none)|none =>none else some (.inr (.inl (first,c,v8,())))
def qt (c:Circ) (p:Patron) (h:Hold):Option (Item×Int):=
 match qc (fun g x0=>qc5 x0 g.2.1) c.Items ((),(h,())) with|some r1 =>bif decide (r1<0) then some ((⟨0,0,0,0,0,[],⟨0,0,0,0⟩⟩:Item),9) else let k (v:Bool):Option (Item×Int):=bif v then some ((⟨0,0,0,0,0,[],⟨0,0,0,0⟩⟩:Item),2) else match qdd c p with|some r3 =>(bif r3 then some ((⟨0,0,0,0,0,[],⟨0,0,0,0⟩⟩:Item),14) else match qy c.Loans p.ID with|some r5 =>(match b8 c8n (r1,r5,(r5.length:Int),0,c,h,(⟨0,0,0,0,0,[],⟨0,0,0,0⟩⟩:Item),()) with|some (.inl (first,c12,v13,_)) =>(bif decide (99999<c12.NextHold) then some ((⟨0,0,0,0,0,[],⟨0,0,0,0⟩⟩:Item),13) else match m7 c12.Items first with|some x =>some (x,0)|none =>none)|some (.inr (v14,v15,_)) =>some (v15,v14)|none =>none)|none =>none)|none =>none;bif decide (h.Pickup<1) then k true else k (decide (4<h.Pickup))|none =>none
def qe1 (l:List Hold) (h:Hold):Option ((List Hold)×Int):=
 let k5 (v:Bool):Option ((List Hold)×Int):=let k (v1:Bool):Option ((List Hold)×Int):=bif v1 then some ([],12) else match qdn l with|some l2 =>bif decide (l2.length+([h]:List Hold).length≤LIM) then match ql (l2++([h]:List Hold)) with|some r4 =>bif !(r4==0) then some ([],r4) else some (l2++([h]:List Hold),0)|none =>none else none|none =>none;bif v then k true else k (!(h.Until==0));bif !(h.State==1) then k5 true else k5 (!(h.Got==0))
def a4b:(Int×Int×Int×Circ_desk×Unit)→Option ((Int×Int×Int×Circ_desk×Unit)⊕((Circ_desk×Unit)⊕(Circ_desk×Unit))):=fun (record,v,v1,d,_)=>
 bif decide (v1<v) then bif !(d.err==0) then some (.inr (.inr (d,()))) else match m7 d.c.Items v1 with|some x =>let k9 (v2:Bool):Option ((Int×Int×Int×Circ_desk×Unit)⊕((Circ_desk×Unit)⊕(Circ_desk×Unit))):=let k8 (v4:Bool):Option ((Int×Int×Int×Circ_desk×Unit)⊕((Circ_desk×Unit)⊕(Circ_desk×Unit))):=let k (v7:Circ_desk):Option ((Int×Int×Int×Circ_desk×Unit)⊕((Circ_desk×Unit)⊕(Circ_desk×Unit))):=some (.inl (record,v,wr .i64 (v1+1),v7,()));bif v4 then match qcg v1 d with|some (_,v6) =>k v6|none =>none else k d;bif v2 then match qcw d.c x with|some r3 =>k8 (!(r3==0))|none =>none else k8 false;bif x.Record==record then k9 (x.Custody.State==3) else k9 false|none =>none else some (.inr (.inl (d,())))
def qas (record:Int) (d:Circ_desk):Option (Unit×Circ_desk):=
 match b8 a4b (record,(d.c.Items.length:Int),0,d,()) with|some (.inl (d10,_)) =>some ((),d10)|some (.inr (d11,_)) =>some ((),d11)|none =>none
def qdy (c:Circ) (vid:Int) (record:Int) (item:Int) (pickup:Int):Option (Circ×Int×Int):=
 match qcd c.Patrons vid with|some (r1,r2) =>(bif !r2 then some (ZN,0,9) else match qt c r1 (⟨c.NextHold,vid,record,item,pickup,c.Today,1,0,0,0,0⟩:Hold) with|some (r4,r5) =>(bif !(r5==0) then some (ZN,0,r5) else match qb7 c vid r4 with|some (r7,r8) =>let k (h:Int):Option (Circ×Int×Int):=match qac c with|some d =>(match qe1 c.Holds (⟨c.NextHold,vid,record,item,pickup,c.Today,1,0,0,0,h⟩:Hold) with|some (r11,r12) =>(match qcb r11 r12 d with|some (_,v) =>(match qas record (⟨⟨v.c.Today,v.c.Items,v.c.Patrons,v.c.Loans,v.c.Holds,v.c.Charges,v.c.Rules,v.c.Cals,v.c.Moves,wr .i64 (v.c.NextHold+1),v.c.NextCharge,v.c.Local⟩,v.err⟩:Circ_desk) with|some (_,v15) =>(match qbf c.NextHold v15 with|some ((r17,r18,r19),v20) =>some (r17,r18,r19)|none =>none)|none =>none)|none =>none)|none =>none)|none =>none;bif r8 then k r7.Rank else k 0|none =>none)|none =>none)|none =>none
def qcs (h:Hold) (v:Circ) (v1:Item):Option Bool:=
 let k5 (v2:Bool):Option Bool:=let k (v4:Bool):Option Bool:=some v4;bif v2 then match qch h v1 with|some r3 =>k r3|none =>none else k false;bif h.State==1 then k5 (decide (h.Asleep≤v.Today)) else k5 false
def qeu (r:Rule) (c:Calendar) (n:Loan) (day:Int) (vuntil:Int):Option (Int×Int):=
 let k (v:Bool):Option (Int×Int):=bif v then some (0,15) else match qdh r c day vuntil with|some (r2,r3) =>bif !(r3==0) then some (0,r3) else bif decide (r2≤n.Due) then some (0,15) else some (r2,0)|none =>none;bif decide (r.Renewals≤n.Renewals) then k true else k n.Recalled
def qdp (l:List Loan) (i:Int) (x:Loan):Option (List Loan):=
 match qdm l with|some l1 =>(match m7 l1 i with|some _ =>(match l1[i.toNat]? with|some x2 =>some (l1.set i.toNat x)|none =>none)|none =>none)|none =>none
def qfo (l:List Loan) (item:Int) (due:Int):Option ((List Loan)×Int):=
 match q8 item with|some r1 =>(match qbl (fun g x0=>qb9 x0 g.2.1) l ((),(r1.1,())) with|some (r3,r4) =>(let k (v:Int):Option ((List Loan)×Int):=some ([],v);bif decide (r4<0) then k 9 else bif r3.Recalled then k 12 else match qdp l r4 (⟨r3.Item,r3.Patron,r3.Out,due,wr .i64 (r3.Renewals+1),r3.Recalled⟩:Loan) with|some r6 =>(match qcp r6 with|some (r8,r9) =>some (r8,r9)|none =>none)|none =>none)|none =>none)|none =>none
def qbv (c:Circ) (item:Int):Option (Circ×Int×Int):=
 match qck c.Loans item with|some (r1,r2) =>(match qz c item with|some r4 =>let k (v:Bool):Option (Circ×Int×Int):=bif v then some (ZN,0,9) else match m7 c.Items r4 with|some x =>(bif !(x.Custody.State==4) then some (ZN,0,12) else match qcd c.Patrons r1.Patron with|some (r6,r7) =>(match qdd c r6 with|some r9 =>(bif r9 then some (ZN,0,14) else match qb3 (fun g x0=>qcs x0 g.2.1 g.2.2.1) c.Holds ((),(c,x,())) with|some r11 =>(bif r11 then some (ZN,0,16) else match qb7 c r6.ID x with|some (r13,r14) =>(bif !r14 then some (ZN,0,15) else match qcl c x.Custody.Branch with|some r16 =>(match qeu r13 r16 r1 c.Today r6.Until with|some (r18,r19) =>(bif !(r19==0) then some (ZN,0,r19) else match qac c with|some d =>(match qfo c.Loans item r18 with|some (r22,r23) =>(match qca r22 r23 d with|some (_,v25) =>(match qbf r18 v25 with|some ((r27,r28,r29),v30) =>some (r27,r28,r29)|none =>none)|none =>none)|none =>none)|none =>none)|none =>none)|none =>none)|none =>none)|none =>none)|none =>none)|none =>none)|none =>none;bif !r2 then k true else k (decide (r4<0))|none =>none)|none =>none
def b4y:(Bool×(List Item)×Int×Int×Circ×Hold×Loan×Item×Unit)→Option ((Bool×(List Item)×Int×Int×Circ×Hold×Loan×Item×Unit)⊕((Bool×Loan×Item×Unit))):=fun (ok,v,v1,v2,c,h,best,vat,_)=>
 bif decide (v2<v1) then match m7 v v2 with|some x =>(let k16 (v4:Bool):Option ((Bool×(List Item)×Int×Int×Circ×Hold×Loan×Item×Unit)⊕((Bool×Loan×Item×Unit))):=bif v4 then some (.inl (ok,v,v1,wr .i64 (v2+1),c,h,best,vat,())) else match qck c.Loans x.ID with|some (r6,r7) =>let k15 (v8:Bool):Option ((Bool×(List Item)×Int×Int×Circ×Hold×Loan×Item×Unit)⊕((Bool×Loan×Item×Unit))):=let k14 (v10:Bool):Option ((Bool×(List Item)×Int×Int×Circ×Hold×Loan×Item×Unit)⊕((Bool×Loan×Item×Unit))):=let k (ok11:Bool) (best12:Loan) (vat13:Item):Option ((Bool×(List Item)×Int×Int×Circ×Hold×Loan×Item×Unit)⊕((Bool×Loan×Item×Unit))):=some (.inl (ok11,v,v1,wr .i64 (v2+1),c,h,best12,vat13,()));bif v10 then k true r6 x else k ok best vat;bif v8 then bif !ok then k14 true else k14 (decide (r6.Due<best.Due)) else k14 false;bif r7 then k15 (!r6.Recalled) else k15 false|none =>none;bif !(x.Custody.State==4) then k16 true else match qch h x with|some r3 =>k16 (!r3)|none =>none)|none =>none else some (.inr ((ok,best,vat,())))
def qa1 (c:Circ) (h:Hold):Option (Loan×Item×Bool):=
 match b8 b4y (false,c.Items,(c.Items.length:Int),0,c,h,(⟨0,0,0,0,0,false⟩:Loan),(⟨0,0,0,0,0,[],⟨0,0,0,0⟩⟩:Item),()) with|some ((ok,best,vat,_)) =>some (best,vat,ok)|none =>none
def qfm (l:List Loan) (item:Int) (due:Int):Option ((List Loan)×Int):=
 match q8 item with|some r1 =>(match qbl (fun g x0=>qb9 x0 g.2.1) l ((),(r1.1,())) with|some (r3,r4) =>(let k (v7:Int):Option ((List Loan)×Int):=some ([],v7);bif decide (r4<0) then k 9 else bif r3.Recalled then k 12 else match qd0 due with|some r6 =>(bif !r6 then k 2 else match qdp l r4 (⟨r3.Item,r3.Patron,r3.Out,(if (if due<r3.Due then due else r3.Due)<r3.Out then r3.Out else (if due<r3.Due then due else r3.Due)),r3.Renewals,true⟩:Loan) with|some r9 =>some (r9,0)|none =>none)|none =>none)|none =>none)|none =>none
def qey (c:Circ) (vid:Int):Option (Circ×Int×Int):=
 match qci c.Holds vid with|some (r1,r2) =>(bif !r2 then some (ZN,0,9) else bif !(r1.State==1) then some (ZN,0,12) else match qa1 c r1 with|some (r4,r5,r6) =>(bif !r6 then some (ZN,0,9) else match qb7 c r4.Patron r5 with|some (r8,r9) =>(bif !r9 then some (ZN,0,15) else match qac c with|some d =>(match qeq r5.Custody.Branch r8.Recall d with|some (r12,v) =>let k (v18:Circ_desk):Option (Circ×Int×Int):=match qbf r5.ID v18 with|some ((r20,r21,r22),v23) =>some (r20,r21,r22)|none =>none;bif v.err==0 then match qfm c.Loans r5.ID r12 with|some (r14,r15) =>(match qca r14 r15 v with|some (_,v17) =>k v17|none =>none)|none =>none else k v|none =>none)|none =>none)|none =>none)|none =>none)|none =>none
def qfg (l:List Loan) (i:Int):Option (List Loan):=
 match qdm l with|some l1 =>(match qd7 l1 i (wr .i64 (i+1)) with|some l3 =>some l3|none =>none)|none =>none
def qdx (l:List Loan) (item:Int):Option ((List Loan)×Loan×Int):=
 match q8 item with|some r1 =>(match qbl (fun g x0=>qb9 x0 g.2.1) l ((),(r1.1,())) with|some (r3,r4) =>(bif decide (r4<0) then some ([],(⟨0,0,0,0,0,false⟩:Loan),9) else match qfg l r4 with|some r6 =>some (r6,r3,0)|none =>none)|none =>none)|none =>none
def qet (day:Int) (weekday:Int):Option Int:=
 match qdb 0 with|some r1 =>bif decide (day<(wr .i64 ((wr .i64 (weekday-r1))+7)).tmod 7) then some 0 else some (wr .i64 ((wr .i64 ((wr .i64 (day-((wr .i64 ((wr .i64 (weekday-r1))+7)).tmod 7))).tdiv 7))+1))|none =>none
def b43:(Int×Int×Int×(V7 Bool)×Int×Calendar×(V7 Bool)×Unit)→Option ((Int×Int×Int×(V7 Bool)×Int×Calendar×(V7 Bool)×Unit)⊕((Int×Int×Int×Calendar×(V7 Bool)×Unit))):=fun (vfrom,vto,n,v,v2,c,vopen,_)=>
 bif decide (v2<7) then let k8 (v3:Bool):Option ((Int×Int×Int×(V7 Bool)×Int×Calendar×(V7 Bool)×Unit)⊕((Int×Int×Int×Calendar×(V7 Bool)×Unit))):=let k (n7:Int):Option ((Int×Int×Int×(V7 Bool)×Int×Calendar×(V7 Bool)×Unit)⊕((Int×Int×Int×Calendar×(V7 Bool)×Unit))):=some (.inl (vfrom,vto,n7,v,wr .i64 (v2+1),c,vopen,()));bif v3 then match qet vto v2 with|some r4 =>(match qet (wr .i64 (vfrom-1)) v2 with|some r6 =>k (wr .i64 (n+(wr .i64 (r4-r6))))|none =>none)|none =>none else k n;bif v2==0 then k8 v.x0 else bif v2==1 then k8 v.x1 else bif v2==2 then k8 v.x2 else bif v2==3 then k8 v.x3 else bif v2==4 then k8 v.x4 else bif v2==5 then k8 v.x5 else bif v2==6 then k8 v.x6 else none else some (.inr ((vfrom,vto,n,c,vopen,())))
def b00:(Int×Int×Int×(List Int)×Int×Int×(V7 Bool)×Unit)→Option ((Int×Int×Int×(List Int)×Int×Int×(V7 Bool)×Unit)⊕((Int×Unit))):=fun (vfrom,vto,n,v,v12,v13,vopen,_)=>
 bif decide (v13<v12) then match m7 v v13 with|some x =>let k20 (v14:Bool):Option ((Int×Int×Int×(List Int)×Int×Int×(V7 Bool)×Unit)⊕((Int×Unit))):=let k19 (v17:Bool):Option ((Int×Int×Int×(List Int)×Int×Int×(V7 Bool)×Unit)⊕((Int×Unit))):=let k (n18:Int):Option ((Int×Int×Int×(List Int)×Int×Int×(V7 Bool)×Unit)⊕((Int×Unit))):=some (.inl (vfrom,vto,n18,v,v12,wr .i64 (v13+1),vopen,()));bif v17 then k (wr .i64 (n-1)) else k n;bif v14 then match qdb x with|some r15 =>bif r15==0 then k19 vopen.x0 else bif r15==1 then k19 vopen.x1 else bif r15==2 then k19 vopen.x2 else bif r15==3 then k19 vopen.x3 else bif r15==4 then k19 vopen.x4 else bif r15==5 then k19 vopen.x5 else bif r15==6 then k19 vopen.x6 else none|none =>none else k19 false;bif decide (vfrom≤x) then k20 (decide (x≤vto)) else k20 false|none =>none else some (.inr ((n,())))
def qae (c:Calendar) (vfrom:Int) (vto:Int):Option Int:=
 bif decide ((if 109572<vto then 109572 else vto)<(if vfrom<0 then 0 else vfrom)) then some 0 else match qat c with|some r1 =>(match b8 b43 ((if vfrom<0 then 0 else vfrom),(if 109572<vto then 109572 else vto),0,r1,0,c,r1,()) with|some ((vfrom9,vto10,n,c11,vopen,_)) =>(match b8 b00 (vfrom9,vto10,n,c11.Closed,(c11.Closed.length:Int),0,vopen,()) with|some ((n21,_)) =>some n21|none =>none)|none =>none)|none =>none
def qfs (r:Rule) (c:Calendar) (due:Int) (back:Int):Option Int:=
 match qu c with|some r2 =>(let k10 (v:Bool):Option Int:=let k (v7:Bool):Option Int:=bif v7 then some 0 else match qae c (wr .i64 (due+1)) back with|some r9 =>bif decide (r9≤r.Grace) then some 0 else some (if r.MaxFine<wr .i64 (r9*r.Fine) then r.MaxFine else wr .i64 (r9*r.Fine))|none =>none;bif v then k true else match qek back with|some r6 =>k (!r6)|none =>none;bif !(r2==0) then k10 true else match qek due with|some r4 =>k10 (!r4)|none =>none)|none =>none
def qdj (l:List Charge) (c:Charge):Option ((List Charge)×Int):=
 bif decide (l.length≤LIM) then bif decide (l.length+([c]:List Charge).length≤LIM) then match qbd (l++([c]:List Charge)) with|some r1 =>bif !(r1==0) then some ([],r1) else some (l++([c]:List Charge),0)|none =>none else none else none
def qep (vid:Int) (item:Int) (kind:Int) (amount:Int) (d:Circ_desk):Option (Unit×Circ_desk):=
 bif !(d.err==0) then some ((),d) else bif decide (99999<d.c.NextCharge) then match qo 13 d with|some (_,v) =>some ((),v)|none =>none else match qdj d.c.Charges (⟨d.c.NextCharge,vid,item,d.c.Today,kind,amount,0⟩:Charge) with|some (r2,r3) =>bif !(r3==0) then match qo r3 d with|some (_,v5) =>some ((),v5)|none =>none else some ((),(⟨⟨d.c.Today,d.c.Items,d.c.Patrons,d.c.Loans,d.c.Holds,r2,d.c.Rules,d.c.Cals,d.c.Moves,d.c.NextHold,wr .i64 (d.c.NextCharge+1),d.c.Local⟩,d.err⟩:Circ_desk))|none =>none
def qc9 (x:Charge) (v:Int) (v1:Int) (v2:Int):Option Bool:=
 let k6 (v3:Bool):Option Bool:=let k (v5:Bool):Option Bool:=some v5;bif v3 then bif v2==0 then k true else k (x.Kind==v2) else k false;bif x.Patron==v then k6 (x.Item==v1) else k6 false
def b8i {γ0:Type} (p:γ0→Charge→Option Bool):(γ0×Int×Int×(List Charge)×Int×Int×(List Charge)×Unit)→Option ((γ0×Int×Int×(List Charge)×Int×Int×(List Charge)×Unit)⊕((Int×Int×(List Charge)×Unit))):=fun (g,paid,n,v,v1,v2,l,_)=>
 bif decide (v2<v1) then match m7 v v2 with|some x =>(match p g x with|some r =>bif r then some (.inl (g,wr .i64 (paid+x.Paid),wr .i64 (n+1),v,v1,wr .i64 (v2+1),l,())) else bif decide (l.length+([x]:List Charge).length≤LIM) then some (.inl (g,paid,n,v,v1,wr .i64 (v2+1),l++([x]:List Charge),())) else none|none =>none)|none =>none else some (.inr ((paid,n,l,())))
def qau {γ0:Type} (p:γ0→Charge→Option Bool) (l:List Charge) (g:γ0):Option ((List Charge)×Int×Int):=
 match b8 (b8i p) (g,0,0,l,(l.length:Int),0,([]:List Charge),()) with|some ((paid,n,l3,_)) =>some (l3,paid,n)|none =>none
def qb0 (l:List Charge) (patron:Int) (item:Int) (kind:Int):Option ((List Charge)×Int):=
 match qau (fun g x0=>qc9 x0 g.2.1 g.2.2.1 g.2.2.2.1) l ((),(patron,item,kind,())) with|some (r1,r2,r3) =>some (r1,r2)|none =>none
def qff (i:Int) (branch:Int) (d:Circ_desk):Option (Unit×Circ_desk):=
 match m7 d.c.Items i with|some x =>(match qam i 4 branch 0 d with|some (_,v) =>(bif !(v.err==0) then some ((),v) else match qdx v.c.Loans x.ID with|some (r2,r3,r4) =>(match qca r2 r4 v with|some (_,v6) =>(match qb7 v6.c r3.Patron x with|some (r8,r9) =>let k (v17:Circ_desk):Option (Unit×Circ_desk):=match qb0 v17.c.Charges r3.Patron x.ID 2 with|some (r19,r20) =>some ((),(⟨⟨v17.c.Today,v17.c.Items,v17.c.Patrons,v17.c.Loans,v17.c.Holds,r19,v17.c.Rules,v17.c.Cals,v17.c.Moves,v17.c.NextHold,v17.c.NextCharge,v17.c.Local⟩,v17.err⟩:Circ_desk))|none =>none;bif r9 then match qcl v6.c branch with|some r11 =>(match qfs r8 r11 r3.Due v6.c.Today with|some r13 =>bif !(r13==0) then match qep r3.Patron x.ID 1 r13 v6 with|some (_,v15) =>k v15|none =>none else k v6|none =>none)|none =>none else k v6|none =>none)|none =>none)|none =>none)|none =>none)|none =>none
def qel (c:Circ) (item:Int) (branch:Int):Option (Circ×Int×Int):=
 match qac c with|some d =>(match qbu item d with|some (r2,v) =>(bif decide (r2<0) then match qbf 0 v with|some ((r4,r5,r6),v7) =>some (r4,r5,r6)|none =>none else match m7 c.Items r2 with|some x =>let k43 (v9:Bool):Option (Circ×Int×Int):=let k42 (v23:Circ_desk):Option (Circ×Int×Int):=match qao v23.c item with|some (r25,r26) =>let k41 (v27:Bool):Option (Circ×Int×Int):=let k (v32:Circ_desk):Option (Circ×Int×Int):=match qao v32.c item with|some (r34,r35) =>(match qbf r34.ID v32 with|some ((r37,r38,r39),v40) =>some (r37,r38,r39)|none =>none)|none =>none;bif v27 then match qdo r2 r25 v23 with|some (_,v29) =>k v29|none =>none else match qcg r2 v23 with|some (_,v31) =>k v31|none =>none;bif r26 then k41 (r25.State==2) else k41 false|none =>none;bif v9 then match qff r2 branch v with|some (_,v11) =>k42 v11|none =>none else bif x.Custody.State==8 then match qam r2 4 branch 0 v with|some (_,v13) =>k42 v13|none =>none else bif x.Custody.State==11 then match qam r2 14 branch 0 v with|some (_,v15) =>k42 v15|none =>none else bif x.Custody.State==6 then match qam r2 7 branch 0 v with|some (_,v17) =>k42 v17|none =>none else match qo 12 v with|some (_,v19) =>k42 v19|none =>none;bif x.Custody.State==4 then k43 (x.Custody.State==4) else bif x.Custody.State==9 then k43 (x.Custody.State==9) else k43 (x.Custody.State==10)|none =>none)|none =>none)|none =>none
def qew:Option Bool:=
 match qee with|some r1 =>(match qct r1 1 1 with|some (r3,r4) =>let k85 (v:Bool):Option Bool:=let k84 (v5:Bool):Option Bool:=bif v5 then some false else match qbe r3 1 7 1 with|some (r7,r8,r9) =>(match qbe r7 1 8 1 with|some (r11,r12,r13) =>let k83 (v14:Bool):Option Bool:=let k82 (v15:Bool):Option Bool:=bif v15 then some false else match qdy r7 8 5 0 1 with|some (r17,r18,r19) =>(match qbv r17 1 with|some (r21,r22,r23) =>(match qey r17 r18 with|some (r25,r26,r27) =>let k81 (v28:Bool):Option Bool:=let k80 (v29:Bool):Option Bool:=let k79 (v30:Bool):Option Bool:=let k78 (v31:Bool):Option Bool:=let k77 (v32:Bool):Option Bool:=let k76 (v34:Bool):Option Bool:=bif v34 then some false else match qel r25 1 1 with|some (r36,r37,r38) =>(match qbe r36 1 7 1 with|some (r40,r41,r42) =>(match qbe r36 1 8 1 with|some (r44,r45,r46) =>let k75 (v47:Bool):Option Bool:=let k74 (v48:Bool):Option Bool:=let k73 (v50:Bool):Option Bool:=let k72 (v51:Bool):Option Bool:=let k71 (v52:Bool):Option Bool:=let k70 (v53:Bool):Option Bool:=let k69 (v56:Bool):Option Bool:=bif v56 then some false else match qel (⟨116,r7.Items,r7.Patrons,r7.Loans,r7.Holds,r7.Charges,r7.Rules,r7.Cals,r7.Moves,r7.NextHold,r7.NextCharge,r7.Local⟩:Circ) 1 1 with|some (r58,r59,r60) =>let k68 (v61:Bool):Option Bool:=let k67 (v64:Bool):Option Bool:=let k (v66:Bool):Option Bool:=some v66;bif v64 then match m7 r58.Items 0 with|some x65 =>k (x65.Custody.State==3)|none =>none else k false;bif v61 then match qa6 r58.Charges 7 with|some r63 =>k67 (r63==20)|none =>none else k67 false;bif r60==0 then k68 (r59==0) else k68 false|none =>none;bif v53 then k69 true else match qe2 r44 with|some r55 =>k69 (!r55)|none =>none;bif v52 then k70 true else k70 (!((r44.Holds.length:Int)==0));bif v51 then k71 true else k71 (!(r46==0));bif v50 then k72 true else k72 (!(r42==16));bif v48 then k73 true else match m7 r36.Holds 0 with|some x49 =>k73 (!(x49.Until==105))|none =>none;bif v47 then k74 true else k74 (!((r36.Holds.length:Int)==1));bif !(r38==0) then k75 true else k75 (!(r37==1))|none =>none)|none =>none)|none =>none;bif v32 then k76 true else match m7 r25.Loans 0 with|some x33 =>k76 (!(x33.Due==107))|none =>none;bif v31 then k77 true else k77 (!((r25.Loans.length:Int)==1));bif v30 then k78 true else k78 (!(r26==1));bif v29 then k79 true else k79 (!(r27==0));bif v28 then k80 true else k80 (!(r23==16));bif !(r19==0) then k81 true else k81 (!(r18==1))|none =>none)|none =>none)|none =>none;bif v14 then k82 true else k82 (!(r13==12));bif !(r9==0) then k83 true else k83 (!(r8==114))|none =>none)|none =>none;bif v then k84 true else match m7 r3.Items 0 with|some x =>k84 (!(x.Custody.State==3))|none =>none;bif !(r4==0) then k85 true else k85 (!((r3.Items.length:Int)==1))|none =>none)|none =>none
def qc6 (h:Hold) (d:Circ_desk):Option (Unit×Circ_desk):=
 bif !(h.State==3) then match qdq h.ID d with|some (_,v) =>some ((),v)|none =>none else match qbu h.Got d with|some (r2,v3) =>(bif !(v3.err==0) then some ((),v3) else match qbx r2 2 v3 with|some (_,v5) =>(match qdq h.ID v5 with|some (_,v7) =>(match qcg r2 v7 with|some (_,v9) =>some ((),v9)|none =>none)|none =>none)|none =>none)|none =>none
def qfn (c:Circ) (vid:Int):Option (Circ×Int):=
 match qci c.Holds vid with|some (r1,r2) =>(bif !r2 then some (ZN,9) else match qac c with|some d =>(match qc6 r1 d with|some (_,v) =>(match qh v with|some ((r6,r7),v8) =>some (r6,r7)|none =>none)|none =>none)|none =>none)|none =>none
def qfq (c:Circ) (item:Int):Option (Circ×Int):=
 match qac c with|some d =>(match qbu item d with|some (r2,v) =>(match qbx r2 11 v with|some (_,v4) =>(match qh v4 with|some ((r6,r7),v8) =>some (r6,r7)|none =>none)|none =>none)|none =>none)|none =>none
def qei (h:Hold) (v:Int):Option Bool:=
 some (h.Got==v)
def qce (l:List Hold) (item:Int):Option ((List Hold)×Int):=
 match qa (fun g x0=>qei x0 g.2.1) l ((),(item,())) with|some r1 =>let k (v:Bool):Option ((List Hold)×Int):=bif v then some ([],9) else match m7 l r1 with|some x =>(match qd1 l r1 (⟨x.ID,x.Patron,x.Record,x.Item,x.Pickup,x.Placed,1,0,0,x.Asleep,x.Rank⟩:Hold) with|some r3 =>some (r3,0)|none =>none)|none =>none;bif decide (r1<0) then k true else k (item==0)|none =>none
def qft (c:Circ) (item:Int):Option (Circ×Int):=
 match qac c with|some d =>(match qbu item d with|some (r2,v) =>(bif decide (r2<0) then match qh v with|some ((r4,r5),v6) =>some (r4,r5)|none =>none else match m7 c.Items r2 with|some x =>let k35 (v7:Bool):Option (Circ×Int):=bif v7 then match qbx r2 12 v with|some (_,v9) =>let k (v12:Circ_desk):Option (Circ×Int):=match qh v12 with|some ((r14,r15),v16) =>some (r14,r15)|none =>none;bif !(x.Price==0) then match qep x.Custody.Who item 2 x.Price v9 with|some (_,v11) =>k v11|none =>none else k v9|none =>none else match qbx r2 13 v with|some (_,v18) =>(match qao c item with|some (r20,r21) =>let k34 (v29:Circ_desk):Option (Circ×Int):=match qh v29 with|some ((r31,r32),v33) =>some (r31,r32)|none =>none;bif r21 then match qce c.Holds item with|some (r23,r24) =>(match qcb r23 r24 v18 with|some (_,v26) =>(match qas x.Record v26 with|some (_,v28) =>k34 v28|none =>none)|none =>none)|none =>none else k34 v18|none =>none)|none =>none;bif x.Custody.State==4 then k35 true else k35 (x.Custody.State==9)|none =>none)|none =>none)|none =>none
def qdc (y:Item) (v:Item):Option Bool:=
 let k (v2:Bool):Option Bool:=some v2;bif !(y.ID==v.ID) then match qcz y v.Record with|some r1 =>k r1|none =>none else k false
def qfe {γ0:Type} (p:γ0→Item→Option Bool) (s:List Item) (g:γ0):Option Bool:=
 match qc p s g with|some r1 =>some (decide (0≤r1))|none =>none
def qcr (h:Hold) (v:Item) (v1:Bool):Option Bool:=
 let k (v3:Bool):Option Bool:=some v3;bif h.Item==v.ID then k true else bif v1 then k (h.Record==v.Record) else k false
def qaf (c:Circ) (x:Item):Option Bool:=
 match qfe (fun g x0=>qdc x0 g.2.1) c.Items ((),(x,())) with|some r1 =>(match qcz x x.Record with|some r3 =>let k (v:Bool):Option Bool:=match qb3 (fun g x0=>qcr x0 g.2.1 g.2.2.1) c.Holds ((),(x,v,())) with|some r5 =>some r5|none =>none;bif r3 then k (!r1) else k false|none =>none)|none =>none
def qfj (c:Circ) (item:Int):Option (Circ×Int):=
 match qac c with|some d =>(match qbu item d with|some (r2,v) =>let k26 (v5:Bool):Option (Circ×Int):=let k25 (v8:Circ_desk):Option (Circ×Int):=match qbx r2 15 v8 with|some (_,v10) =>(match qck c.Loans item with|some (r12,r13) =>let k (v20:Circ_desk):Option (Circ×Int):=match qh v20 with|some ((r22,r23),v24) =>some (r22,r23)|none =>none;bif r13 then match qdx c.Loans item with|some (r15,r16,r17) =>(match qca r15 r17 v10 with|some (_,v19) =>k v19|none =>none)|none =>none else k v10|none =>none)|none =>none;bif v5 then match qo 10 v with|some (_,v7) =>k25 v7|none =>none else k25 v;bif decide (0≤r2) then match m7 c.Items r2 with|some x =>(match qaf c x with|some r4 =>k26 r4|none =>none)|none =>none else k26 false|none =>none)|none =>none
def qfu (c:Circ) (item:Int) (partner:Int):Option (Circ×Int):=
 match qac c with|some d =>(match qbu item d with|some (r2,v) =>(bif decide (r2<0) then match qh v with|some ((r4,r5),v6) =>some (r4,r5)|none =>none else match m7 c.Items r2 with|some x =>let k19 (v9:Bool):Option (Circ×Int):=let k (v12:Circ_desk):Option (Circ×Int):=match qam r2 10 x.Custody.Branch partner v12 with|some (_,v14) =>(match qh v14 with|some ((r16,r17),v18) =>some (r16,r17)|none =>none)|none =>none;bif v9 then match qo 16 v with|some (_,v11) =>k v11|none =>none else k v;bif x.Custody.State==3 then match qcw c x with|some r8 =>k19 (!(r8==0))|none =>none else k19 false|none =>none)|none =>none)|none =>none
def qef (c:Circ) (item:Int) (vout:Bool):Option (Circ×Int):=
 match qac c with|some d =>(match qbu item d with|some (r2,v) =>(let k (v10:Circ_desk):Option (Circ×Int):=match qh v10 with|some ((r12,r13),v14) =>some (r12,r13)|none =>none;bif decide (r2<0) then k v else bif vout then match qbx r2 8 v with|some (_,v4) =>k v4|none =>none else match m7 c.Items r2 with|some x =>(match qam r2 9 x.Branch 0 v with|some (_,v6) =>(match qcg r2 v6 with|some (_,v8) =>k v8|none =>none)|none =>none)|none =>none)|none =>none)|none =>none
def b1l:(Int×Int×(List Charge)×Int×Int×(List Charge)×Unit)→Option ((Int×Int×(List Charge)×Int×Int×(List Charge)×Unit)⊕((Int×(List Charge)×Unit))):=fun (patron,rest,v,v1,v2,l,_)=>
 bif decide (v2<v1) then match m7 v v2 with|some x =>let k (rest3:Int) (x4:Int):Option ((Int×Int×(List Charge)×Int×Int×(List Charge)×Unit)⊕((Int×(List Charge)×Unit))):=bif decide (x4<x.Amount) then bif decide (l.length+([(⟨x.ID,x.Patron,x.Item,x.Day,x.Kind,x.Amount,x4⟩:Charge)]:List Charge).length≤LIM) then some (.inl (patron,rest3,v,v1,wr .i64 (v2+1),l++([(⟨x.ID,x.Patron,x.Item,x.Day,x.Kind,x.Amount,x4⟩:Charge)]:List Charge),())) else none else some (.inl (patron,rest3,v,v1,wr .i64 (v2+1),l,()));bif x.Patron==patron then k (wr .i64 (rest-(if wr .i64 (x.Amount-x.Paid)<rest then wr .i64 (x.Amount-x.Paid) else rest))) (wr .i64 (x.Paid+(if wr .i64 (x.Amount-x.Paid)<rest then wr .i64 (x.Amount-x.Paid) else rest))) else k rest x.Paid|none =>none else some (.inr ((rest,l,())))
def qbk (l:List Charge) (patron:Int) (amount:Int):Option ((List Charge)×Int×Int):=
 let k (v:Bool):Option ((List Charge)×Int×Int):=bif v then some ([],0,1) else match b8 b1l (patron,amount,l,(l.length:Int),0,([]:List Charge),()) with|some ((rest,l5,_)) =>some (l5,rest,0)|none =>none;bif decide (amount<1) then k true else k (decide (100000000<amount))
def qfv (c:Circ) (vid:Int) (amount:Int):Option (Circ×Int×Int):=
 match qcd c.Patrons vid with|some (r1,r2) =>(bif !r2 then some (ZN,0,9) else match qbk c.Charges vid amount with|some (r4,r5,r6) =>bif !(r6==0) then some (ZN,0,r6) else some ({c with Charges:=r4},r5,0)|none =>none)|none =>none
def b0c:(Int×(List Hold)×Int×Int×(List Int)×Unit)→Option ((Int×(List Hold)×Int×Int×(List Int)×Unit)⊕(((List Int)×Unit))):=fun (day,v,v1,v2,l,_)=>
 bif decide (v2<v1) then match m7 v v2 with|some x =>let k (v3:Bool):Option ((Int×(List Hold)×Int×Int×(List Int)×Unit)⊕(((List Int)×Unit))):=bif v3 then bif decide (l.length+([x.ID]:List Int).length≤LIM) then some (.inl (day,v,v1,wr .i64 (v2+1),l++([x.ID]:List Int),())) else none else some (.inl (day,v,v1,wr .i64 (v2+1),l,()));bif x.State==3 then k (decide (x.Until<day)) else k false|none =>none else some (.inr ((l,())))
def qbo (l:List Hold) (day:Int):Option (List Int):=
 match b8 b0c (day,l,(l.length:Int),0,([]:List Int),()) with|some ((l4,_)) =>some l4|none =>none
def b8p:((List Item)×Int×Int×(List Int)×Unit)→Option (((List Item)×Int×Int×(List Int)×Unit)⊕(((List Int)×Unit))):=fun (v,v1,v2,l,_)=>
 bif decide (v2<v1) then match m7 v v2 with|some x =>bif x.Custody.State==3 then bif decide (l.length+([x.Record]:List Int).length≤LIM) then some (.inl (v,v1,wr .i64 (v2+1),l++([x.Record]:List Int),())) else none else some (.inl (v,v1,wr .i64 (v2+1),l,()))|none =>none else some (.inr ((l,())))
def qbp (c:Circ):Option (List Int):=
 match b8 b8p (c.Items,(c.Items.length:Int),0,([]:List Int),()) with|some ((l,_)) =>(match qc3 l with|some l3 =>(match qdk l3 with|some l5 =>some l5|none =>none)|none =>none)|none =>none
def a42:((List Int)×Int×Int×Circ×Circ_desk×Unit)→Option (((List Int)×Int×Int×Circ×Circ_desk×Unit)⊕((Circ×Circ_desk×Unit))):=fun (v,v3,v4,v5,v6,_)=>
 bif decide (v4<v3) then match m7 v v4 with|some x =>(match qci v6.c.Holds x with|some (r7,r8) =>let k (v11:Circ_desk):Option (((List Int)×Int×Int×Circ×Circ_desk×Unit)⊕((Circ×Circ_desk×Unit))):=some (.inl (v,v3,wr .i64 (v4+1),v5,v11,()));bif r8 then match qc6 r7 v6 with|some (_,v10) =>k v10|none =>none else k v6|none =>none)|none =>none else some (.inr ((v5,v6,())))
def a2c:((List Int)×Int×Int×Circ×Circ_desk×Unit)→Option (((List Int)×Int×Int×Circ×Circ_desk×Unit)⊕((Circ×Circ_desk×Unit))):=fun (v,v15,v16,v17,v18,_)=>
 bif decide (v16<v15) then match m7 v v16 with|some x =>(match qas x v18 with|some (_,v19) =>some (.inl (v,v15,wr .i64 (v16+1),v17,v19,()))|none =>none)|none =>none else some (.inr ((v17,v18,())))
def qah (c:Circ):Option (Circ×Int):=
 bif decide (109572≤c.Today) then some (ZN,2) else match qac c with|some d =>(match qbo d.c.Holds (wr .i64 (d.c.Today+1)) with|some r2 =>(match b8 a42 (r2,(r2.length:Int),0,ZN,(⟨⟨wr .i64 (d.c.Today+1),d.c.Items,d.c.Patrons,d.c.Loans,d.c.Holds,d.c.Charges,d.c.Rules,d.c.Cals,d.c.Moves,d.c.NextHold,d.c.NextCharge,d.c.Local⟩,d.err⟩:Circ_desk),()) with|some ((v,v12,_)) =>(match qbp v12.c with|some r14 =>(match b8 a2c (r14,(r14.length:Int),0,v,v12,()) with|some ((v20,v21,_)) =>(match qh v21 with|some ((r23,r24),v25) =>some (r23,r24)|none =>none)|none =>none)|none =>none)|none =>none)|none =>none)|none =>none
def qeb (d:Librarylaw33_Deed) (c:Circ):Option (Circ×Int):=
 let k (v99:Int) (v100:Circ):Option (Circ×Int):=some (v100,v99);let k103 (e101:Int) (c102:Circ):Option (Circ×Int):=some (c102,e101);bif d.Kind==0 then match qct c d.A d.B with|some (r1,r2) =>k r2 r1|none =>none else bif d.Kind==1 then match qbe c d.A d.B d.C with|some (r4,r5,r6) =>k103 r6 r4|none =>none else bif d.Kind==2 then match qel c d.A d.B with|some (r8,r9,r10) =>k103 r10 r8|none =>none else bif d.Kind==3 then match qbv c d.A with|some (r12,r13,r14) =>k103 r14 r12|none =>none else bif d.Kind==4 then match qdy c d.A d.B d.C d.D with|some (r16,r17,r18) =>k103 r18 r16|none =>none else bif d.Kind==5 then match qfn c d.A with|some (r20,r21) =>k r21 r20|none =>none else bif d.Kind==6 then match qey c d.A with|some (r23,r24,r25) =>k103 r25 r23|none =>none else bif d.Kind==7 then match qfq c d.A with|some (r27,r28) =>k r28 r27|none =>none else bif d.Kind==8 then match qft c d.A with|some (r30,r31) =>k r31 r30|none =>none else bif d.Kind==9 then match qfj c d.A with|some (r33,r34) =>k r34 r33|none =>none else bif d.Kind==10 then match qfu c d.A d.B with|some (r36,r37) =>k r37 r36|none =>none else bif d.Kind==11 then match qef c d.A true with|some (r39,r40) =>k r40 r39|none =>none else bif d.Kind==12 then match qef c d.A false with|some (r42,r43) =>k r43 r42|none =>none else bif d.Kind==13 then match qfv c d.A d.B with|some (r45,r46,r47) =>k103 r47 r45|none =>none else bif d.Kind==14 then match qah c with|some (r49,r50) =>k r50 r49|none =>none else k103 21 c
def b4x:((List Librarylaw33_Deed)×Int×Circ×Unit)→Option (((List Librarylaw33_Deed)×Int×Circ×Unit)⊕((Unit)⊕(Bool×Unit))):=fun (l,i,c,_)=>
 bif decide (i<(l.length:Int)) then match m7 l i with|some x =>(match qeb x c with|some (r7,r8) =>(bif !(r8==0) then some (.inl (l,wr .i64 (i+1),c,())) else match qbj r7 with|some r10 =>bif !r10 then some (.inr (.inr (false,()))) else some (.inl (l,wr .i64 (i+1),r7,()))|none =>none)|none =>none)|none =>none else some (.inr (.inl (())))
def qa0 (c:Circ) (l:List Librarylaw33_Deed):Option Bool:=
 match qfc c with|some r1 =>let k14 (v:Bool):Option Bool:=let k (v4:Bool):Option Bool:=bif v4 then match qew with|some r6 =>some r6|none =>none else match b8 b4x (l,0,c,()) with|some (.inl (_)) =>(match qew with|some r12 =>some r12|none =>none)|some (.inr (v13,_)) =>some v13|none =>none;bif v then k true else match qbj c with|some r3 =>k (!r3)|none =>none;bif !r1 then k14 true else k14 (decide (12<(l.length:Int)))|none =>none
end
end Go.Proofs.YtdahfgialanmpabGreatDoor
