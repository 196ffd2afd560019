/- OfflineContinues: a part of the proof of the given statement, which is proved without conditions. -/
import Derived.Test.YtnajckeiaobmkabGreatDoorJ2
import Derived.Conc.MuLone
import Derived.ChangeMade
import Derived.DataReads
import GoSem.ClaimChange
import Derived.Below
set_option linter.all false
namespace Go.Proofs.YtnajckeiaobmkabGreatDoor.Ev
open Go
section
section
variable {κ:Type} {El:κ→Type} {S:Sg κ El} {P:Program}
variable {c:Cx} {st:St κ El} {g:Gh} {a:Act} {w:World}
inductive HasPtr {κ:Type} {El:κ→Type}:D κ El→Nat→Prop
 |here (b off):HasPtr (.ptr b off) b
 |agg (cs d b):d∈cs→HasPtr d b→HasPtr (.agg cs) b
 |tup (cs d b):d∈cs→HasPtr d b→HasPtr (.tup cs) b
 |fnp (f p c d b):d∈p→HasPtr d b→HasPtr (.fn f p c) b
 |fnc (f p c d b):d∈c→HasPtr d b→HasPtr (.fn f p c) b
inductive HasArr {κ:Type} {El:κ→Type}:D κ El→Nat→Nat→Prop
 |arr (a v):HasArr (.arr a v) a v
 |aptr (a v i off):HasArr (.aptr a v i off) a v
 |agg (cs d a v):d∈cs→HasArr d a v→HasArr (.agg cs) a v
 |tup (cs d a v):d∈cs→HasArr d a v→HasArr (.tup cs) a v
 |fnp (f p c d a v):d∈p→HasArr d a v→HasArr (.fn f p c) a v
 |fnc (f p c d a v):d∈c→HasArr d a v→HasArr (.fn f p c) a v
def VR.reg {g g':Gh} (hI:g'.I=g.I) (hJ:g'.J=g.J) {v:Value} {d:D κ El} (h:VR S w g v d) :
 (∀b,HasPtr d b→∀blk,g.bl b=some blk→g'.bl b=some blk)→
 (∀a ver,HasArr d a ver→g.ad a→ver≤g.vc a→g'.ad a∧ver≤g'.vc a∧(∀v,g'.av a ver=some v→g.av a ver=some v)∧g'.az a=g.az a)→VR S w g' v d:=by
 induction h with
 |undef v=>intro _ _;exact .undef v
 |data h=>intro _ _;exact .data (by rw[hI,hJ];exact h)
 |arr v a ver hs hd hv h=>
  intro _ ha;obtain ⟨h1,h2,h3,h4⟩:=ha a ver (.arr a ver) hd hv;exact .arr v a ver hs h1 h2 (λv' hv'=>h v' (h3 v' hv'))
 |agg vs cs hl h ih=>
  intro hb ha;exact .agg vs cs hl (λi v d h1 h2=>ih i v d h1 h2 (λb hp=>hb b (.agg cs d b (yag h2) hp)) (λa ver hp=>ha a ver (.agg cs d a ver (yag h2) hp)))
 |tup vs cs hl h ih=>
  intro hb ha;exact .tup vs cs hl (λi v d h1 h2=>ih i v d h1 h2 (λb hp=>hb b (.tup cs d b (yag h2) hp)) (λa ver hp=>ha a ver (.tup cs d a ver (yag h2) hp)))
 |ptr b off blk h=>intro hb _;exact .ptr b off blk (hb b (.here b off) blk h)
 |aptr p a ver i off hd hv h=>
  intro _ ha;obtain ⟨h1,h2,h3,h4⟩:=ha a ver (.aptr a ver i off) hd hv;refine .aptr p a ver i off h1 h2 (λv' hv'=>?_);rw[h4];exact h v' (h3 v' hv')
 |gptr i=>intro _ _;exact .gptr i
 |fn f p c ps cs hp hc h1 h2 ih1 ih2=>
  intro hb ha;exact .fn f p c ps cs hp hc (λi v d e1 e2=>ih1 i v d e1 e2 (λb hp=>hb b (.fnp f ps cs d b (yag e2) hp)) (λa ver hp=>ha a ver (.fnp f ps cs d a ver (yag e2) hp)))
   (λi v d e1 e2=>ih2 i v d e1 e2 (λb hp=>hb b (.fnc f ps cs d b (yag e2) hp)) (λa ver hp=>ha a ver (.fnc f ps cs d a ver (yag e2) hp)))
def a3u {α:Type} (l:List (Nat×α)) (s:Nat):∀(ns:List Nat),c8 s (a5l l ns)=if s∈ns then c8 s l else none:=by
 intro ns
 induction ns with
 |nil=>rfl
 |cons n ns ih=>
  simp only[a5l];cases hn:c8 n l with
  |some v=>
   simp only;rw[e8];by_cases hs:s=n
   ·subst hs;simp[hn]
   ·rw[yap hs,ih];simp[hs]
  |none=>
   simp only;rw[ih];by_cases hs:s=n
   ·subst hs;simp[hn]
   ·simp[hs]
def c1h {α:Type} {l:List (Nat×α)} {s:Nat} {v:α} (h:c8 s l=some v):(s,v)∈l:=by
 induction l with
 |nil=>cases h
 |cons p l ih=>
  obtain ⟨n,u⟩:=p;rw[e8]at h;split at h
  ·rename_i e;subst e;cases h;simp
  ·exact yaN _ (ih h)
def a5o {α:Type} {l:List (Nat×α)} {s:Nat}:(c8 s l).isSome=true↔s∈l.map (·.1):=by
 induction l with
 |nil=>simp[c8]
 |cons p l ih=>
  obtain ⟨n,u⟩:=p;rw[e8];by_cases e:s=n
  ·subst e;simp
  ·rw[yap e];simp[ih,e]
def a3g {l:List Nat} {b:Nat}:l.any (Nat.beq b)=true↔b∈l:=by
 simp only[List.any_eq_true,a82,yad];exact ⟨λ⟨x,h,e⟩=>e▸h,λh=>⟨b,h,rfl⟩⟩
def a1p {bs as:List Nat} {d:D κ El} (h:c87.refLeaf bs as d=true):(∀b,HasPtr d b→b∈bs)∧(∀a v,HasArr d a v→a∈as):=by
 cases d with
 |ptr b off=>exact ⟨λb' h'=>(by cases h';exact a3g.1 h),λa v h'=>(by cases h')⟩
 |arr a v=>exact ⟨λb' h'=>(by cases h'),λa v h'=>(by cases h';exact a3g.1 h)⟩
 |int k n=>exact ⟨λb' h'=>(by cases h'),λa v h'=>(by cases h')⟩
 |bool b=>exact ⟨λb' h'=>(by cases h'),λa v h'=>(by cases h')⟩
 |str s=>exact ⟨λb' h'=>(by cases h'),λa v h'=>(by cases h')⟩
 |nil=>exact ⟨λb' h'=>(by cases h'),λa v h'=>(by cases h')⟩
 |lst k xs=>exact ⟨λb' h'=>(by cases h'),λa v h'=>(by cases h')⟩
 |lsn k xs=>exact ⟨λb' h'=>(by cases h'),λa v h'=>(by cases h')⟩
 |cptr cs off=>exact ⟨λb' h'=>(by cases h'),λa v h'=>(by cases h')⟩
 |undef=>exact ⟨λb' h'=>(by cases h'),λa v h'=>(by cases h')⟩
 |ifc b=>exact ⟨λb' h'=>(by cases h'),λa v h'=>(by cases h')⟩
 |_=>simp[c87.refLeaf]at h
def b8q {bs as:List Nat} {d:D κ El} (h:c87 bs as d=true):(∀b,HasPtr d b→b∈bs)∧(∀a v,HasArr d a v→a∈as):=by
 cases d with
 |ptr b off=>exact ⟨λb' h'=>(by cases h';exact a3g.1 h),λa v h'=>(by cases h')⟩
 |arr a v=>exact ⟨λb' h'=>(by cases h'),λa v h'=>(by cases h';exact a3g.1 h)⟩
 |aptr a v i o=>exact ⟨λb' h'=>(by cases h'),λa v h'=>(by cases h';exact a3g.1 h)⟩
 |agg cs=>
  refine ⟨λb' h'=>?_,λa v h'=>?_⟩
  ·cases h' with|agg _ d b hm hp=>exact (a1p (yaj.1 h d hm)).1 _ hp
  ·cases h' with|agg _ d a v hm hp=>exact (a1p (yaj.1 h d hm)).2 _ _ hp
 |tup cs=>
  refine ⟨λb' h'=>?_,λa v h'=>?_⟩
  ·cases h' with|tup _ d b hm hp=>exact (a1p (yaj.1 h d hm)).1 _ hp
  ·cases h' with|tup _ d a v hm hp=>exact (a1p (yaj.1 h d hm)).2 _ _ hp
 |fn f p c=>
  unfold c87 at h;rw[yae]at h;refine ⟨λb' h'=>?_,λa v h'=>?_⟩
  ·cases h' with
   |fnp _ _ _ d b hm hp=>exact (a1p (yaj.1 h.1 d hm)).1 _ hp
   |fnc _ _ _ d b hm hp=>exact (a1p (yaj.1 h.2 d hm)).1 _ hp
  ·cases h' with
   |fnp _ _ _ d b v hm hp=>exact (a1p (yaj.1 h.1 d hm)).2 _ _ hp
   |fnc _ _ _ d b v hm hp=>exact (a1p (yaj.1 h.2 d hm)).2 _ _ hp
 |undef=>exact ⟨λb' h'=>(by cases h'),λa v h'=>(by cases h')⟩
 |ifc b=>exact ⟨λb' h'=>(by cases h'),λa v h'=>(by cases h')⟩
 |int k n=>exact ⟨λb' h'=>(by cases h'),λa v h'=>(by cases h')⟩
 |bool b=>exact ⟨λb' h'=>(by cases h'),λa v h'=>(by cases h')⟩
 |str s=>exact ⟨λb' h'=>(by cases h'),λa v h'=>(by cases h')⟩
 |nil=>exact ⟨λb' h'=>(by cases h'),λa v h'=>(by cases h')⟩
 |lst k xs=>exact ⟨λb' h'=>(by cases h'),λa v h'=>(by cases h')⟩
 |lsn k xs=>exact ⟨λb' h'=>(by cases h'),λa v h'=>(by cases h')⟩
 |cptr cs off=>exact ⟨λb' h'=>(by cases h'),λa v h'=>(by cases h')⟩
 |gptr n=>exact ⟨λb' h'=>(by cases h'),λa v h'=>(by cases h')⟩
def c9r.reg {g g':Gh} (hI:g'.I=g.I) (hJ:g'.J=g.J) {blk:Nat} {cs:List (D κ El)} (h:c9r S w g blk cs)
 (hb:∀d∈cs,∀b,HasPtr d b→∀blk,g.bl b=some blk→g'.bl b=some blk)
 (ha:∀d∈cs,∀a ver,HasArr d a ver→g.ad a→ver≤g.vc a→g'.ad a∧ver≤g'.vc a∧(∀v,g'.av a ver=some v→g.av a ver=some v)∧g'.az a=g.az a):c9r S w g' blk cs:=by
 obtain ⟨vals,t,h1,h2,h3⟩:=h;exact ⟨vals,t,h1,h2,λi v d e1 e2=>(h3 i v d e1 e2).reg hI hJ (hb d (yag e2)) (ha d (yag e2))⟩
def b2g {ss bs as:List Nat} {st1:St κ El} (h:c9c ss bs as st=some st1) (hr:Rel S c st g a w) (hm:(∀j,j<c.mb.length→MB+j∈bs)∧(c.pv≠none→MA∈as)) :
 ∃g',Rel S c st1 g' a w:=by
 unfold c9c at h;simp only[d7]at h;split at h
 rotate_left
 ·cases h
 rename_i hok;cases h
 rw[yae]at hok;have hen:∀s d,c8 s (a5l st.env ss)=some d→c8 s st.env=some d:=λs d hd=>by
  rw[a3u]at hd;split at hd
  ·exact hd
  ·cases hd
 have hbn:∀b cs,c8 b (a5l st.bx bs)=some cs→c8 b st.bx=some cs:=λb cs hd=>by
  rw[a3u]at hd;split at hd
  ·exact hd
  ·cases hd
 have han:∀n A,c8 n (a5l st.ar as)=some A→c8 n st.ar=some A:=λn A hd=>by
  rw[a3u]at hd;split at hd
  ·exact hd
  ·cases hd
 let g':Gh:={g with bl:=λb=>if (c8 b (a5l st.bx bs)).isSome then g.bl b else none,ad:=λn=>g.ad n∧(c8 n (a5l st.ar as)).isSome=true}
 have hbl:∀b blk,g'.bl b=some blk→g.bl b=some blk∧(c8 b (a5l st.bx bs)).isSome=true:=by
  intro b blk hb;have hb:(if (c8 b (a5l st.bx bs)).isSome then g.bl b else none)=some blk:=hb;split at hb
  ·rename_i hs;exact ⟨hb,hs⟩
  ·cases hb
 have hbl':∀b,(c8 b (a5l st.bx bs)).isSome=true→∀blk,g.bl b=some blk→g'.bl b=some blk:=by
  intro b hs blk hb;show (if (c8 b (a5l st.bx bs)).isSome then g.bl b else none)=some blk
  rw[yaF hs];exact hb
 have har':∀n ver,(c8 n (a5l st.ar as)).isSome=true→g.ad n→ver≤g.vc n→g'.ad n∧ver≤g'.vc n∧(∀v,g'.av n ver=some v→g.av n ver=some v)∧g'.az n=g.az n:=
  λn ver hs ha hv=>⟨⟨ha,hs⟩,hv,λ_ h=>h,rfl⟩
 refine ⟨g',{hr with env:=λs d hd=>?_,bx:=λb cs hb=>?_,bd:=λb blk hb=>?_,ar:=λn A hn=>?_,ad:=λn hn=>?_,mb:=λj blk hj=>?_,pa:=λhp=>⟨hr.pa hp,?_⟩}⟩
 ·have hd:c8 s (a5l st.env ss)=some d:=hd;have h1:=b8q (yaj.1 hok.1 _ (c1h hd));exact (hr.env s d (hen s d hd)).reg (g:=g) (g':=g') rfl rfl (λb hb=>hbl' b (a5o.2 (h1.1 b hb))) (λn v hn=>har' n v (a5o.2 (h1.2 n v hn)))
 ·have hb:c8 b (a5l st.bx bs)=some cs:=hb;obtain ⟨blk,e1,e2,e3,e4⟩:=hr.bx b cs (hbn b cs hb);have h0:∀d∈cs,_:=λd hd=>b8q (yaj.1 (yaj.1 hok.2 _ (c1h hb)) d hd)
  exact ⟨blk,hbl' b (by rw[hb];rfl) blk e1,e2,e3,e4.reg (g:=g) (g':=g') rfl rfl (λd hd b' hb'=>hbl' b' (a5o.2 ((h0 d hd).1 b' hb'))) (λd hd n v hn=>har' n v (a5o.2 ((h0 d hd).2 n v hn)))⟩
 ·have:=(hbl b blk hb).2;exact yb0.1 this
 ·have hn:c8 n (a5l st.ar as)=some A:=hn;have h1:=hr.ar n A (han n A hn);exact ⟨⟨h1.ad,by rw[hn];rfl⟩,h1.az,h1.vc,h1.live,h1.ver,h1.own,h1.mp⟩
 ·exact yb0.1 hn.2
 ·have h1:=hr.mb j blk hj;obtain ⟨cs,hcs⟩:=hr.bd _ _ h1;refine hbl' _ ?_ blk h1;rw[a3u,yaF (hm.1 j (zL hj)),hcs];rfl
 ·obtain ⟨A,hA⟩:=hr.ad _ (hr.pa hp);rw[a3u,yaF (hm.2 hp),hA];rfl
def d75 {b o n:Nat} {kd:κ} {st1:St κ El} (h:c1s st b o n kd=some st1) (hr:Rel S c st g a w):∃g',Rel S c st1 g' a w:=by
 unfold c1s at h;split at h
 rotate_left
 ·cases h
 rename_i cs hcs;split at h
 ·rename_i hnil;split at h
  rotate_left
  ·cases h
  rename_i hn;cases h
  have hnad:=hr.ad_not hn;have g0:Grow w w g.I g.I:=⟨yav _,rfl,rfl,rfl,λ_ _=>rfl,λ_ _ h=>h,λ_ _ h=>.inl h,hr.ib⟩
  have s0:=g0.stepArr (n:=n) (z:=S.sz kd) (v:=.slice none 0 0) (blk:=none) hr.ol (λb hb=>by cases hb) hnad (λb hb=>by cases hb);have le:=s0.le hr;refine ⟨a9r (gI g g.I) n (.slice none 0 0) (S.sz kd) none,hr.step s0 hr.nt hr.df (λs' d' hs'=>hr.env_le le hs') (λb' cs' hb'=>?_) (λb' blk hb'=>?_) (λm A hA=>?_) (λm hm=>?_)⟩
  ·replace hb':c8 b' (a1z b (cs.set o (.arr n 0)) st.bx)=some cs':=hb';rw[c6 hcs]at hb';split at hb'
   ·rename_i e;subst e;cases hb'
    obtain ⟨blk,e1,e2,e3,vals,t,h1,h2,h3⟩:=hr.bx b' cs hcs;refine .inr ⟨blk,s0.bl _ _ e1,(s0.keep blk (hr.bx_lt e1) (λhf=>hf)).2.trans e2,e3,vals,t,h1,by rw[h2,List.length_set],λi v d f1 f2=>?_⟩;by_cases ho:o=i
    ·subst ho;have hl:o<cs.length:=(zL hnil)
     rw[ybx hl]at f2;cases f2
     have hv:=h3 o v _ f1 hnil;have e:=hv.nil_inv;rw[e];refine .slc none 0 0 n 0 (.inl rfl) (ybY _) (λv' hv'=>?_);have hv':(if n=n then (if (0:Nat)=0 then some (Value.slice none 0 0) else none) else g.av n 0)=some v':=hv';rw[yaF rfl,yaF rfl]at hv';cases hv';rfl
    ·rw[List.getElem?_set_ne ho]at f2;exact (h3 i v d f1 f2).mono le
   ·exact .inl ⟨hb',λ_ _ hf=>hf⟩
  ·obtain ⟨cs0,hcs0⟩:=hr.bd b' blk hb';show ∃cs',c8 b' (a1z b (cs.set o (.arr n 0)) st.bx)=some cs'
   rw[c6 hcs];split
   ·exact ⟨_,rfl⟩
   ·exact ⟨_,hcs0⟩
  ·replace hA:c8 m ((n,⟨kd,[],0,false,false⟩)::st.ar)=some A:=hA;rw[e8]at hA;split at hA
   ·rename_i e;subst e;cases hA
    refine .inr ⟨.inl rfl,by simp[a9r],by simp[a9r],λ_=>⟨none,0,by simp[a9r],yav _,.inl rfl⟩,λver v hv=>?_,λ_=>⟨rfl,rfl⟩,λh=>(by cases h)⟩;have hv:(if m=m then (if ver=0 then some (Value.slice none 0 0) else none) else g.av m ver)=some v:=hv;rw[yaF rfl]at hv;split at hv
    ·rename_i e;exact ⟨e,.inl rfl⟩
    ·cases hv
   ·rename_i e;refine .inl ⟨hA,λver=>?_,?_,λ_ _ hf=>hf,λ_ _ _ h=>h⟩
    ·show (if m=n then _ else g.av m ver)=_
     rw[yap e]
    ·show (if m=n then 0 else g.vc m)=_
     rw[yap e]
  ·show ∃A,c8 m ((n,_)::st.ar)=some A
   rw[e8];split
   ·exact ⟨_,rfl⟩
   ·rename_i e;rcases hm with hm|hm
    ·exact absurd hm e
    ·exact hr.ad m hm
 ·rw[d7]at h;split at h
  ·cases h;exact ⟨g,hr⟩
  ·cases h
 ·cases h
def f1a:∀{ta:List (Nat×Nat×κ)} {st st1:St κ El} {g:Gh},c50 st ta=some st1→Rel S c st g a w→∃g',Rel S c st1 g' a w:=by
 intro ta
 induction ta with
 |nil=>intro st st1 g h hr;cases h;exact ⟨g,hr⟩
 |cons t ta ih=>
  obtain ⟨s,n,kd⟩:=t;intro st st1 g h hr;simp only[c50]at h;rw[d7]at h;split at h
  ·split at h
   ·rename_i st2 h2;obtain ⟨g2,r2⟩:=d75 h2 hr;exact ih h r2
   ·cases h
  split at h
  ·rename_i hs;split at h
   ·rename_i hn;have hnad:=hr.ad_not hn;have g0:Grow w w g.I g.I:=⟨yav _,rfl,rfl,rfl,λ_ _=>rfl,λ_ _ h=>h,λ_ _ h=>.inl h,hr.ib⟩
    have s0:=g0.stepArr (n:=n) (z:=S.sz kd) (v:=.slice none 0 0) (blk:=none) hr.ol (λb hb=>by cases hb) hnad (λb hb=>by cases hb);have le:=s0.le hr;refine ih h (g:=a9r (gI g g.I) n (.slice none 0 0) (S.sz kd) none) (hr.step s0 hr.nt hr.df (λs' d' hs'=>?_) (λb cs' hb'=>.inl ⟨hb',λ_ _ hf=>hf⟩) hr.bd (λm A hA=>?_) (λm hm=>?_))
    ·replace hs':c8 s' (a1z s (.arr n 0) st.env)=some d':=hs';rw[c6 hs]at hs';split at hs'
     ·rename_i e;subst e;cases hs'
      have hv:=hr.env s' _ hs;have e:=hv.nil_inv;rw[e];refine .slc none 0 0 n 0 (.inl rfl) (ybY _) (λv' hv'=>?_);have hv':(if n=n then (if (0:Nat)=0 then some (Value.slice none 0 0) else none) else g.av n 0)=some v':=hv';rw[yaF rfl,yaF rfl]at hv';cases hv';rfl
     ·exact hr.env_le le hs'
    ·replace hA:c8 m ((n,⟨kd,[],0,false,false⟩)::st.ar)=some A:=hA;rw[e8]at hA;split at hA
     ·rename_i e;subst e;cases hA
      refine .inr ⟨.inl rfl,by simp[a9r],by simp[a9r],λ_=>⟨none,0,by simp[a9r],yav _,.inl rfl⟩,λver v hv=>?_,λ_=>⟨rfl,rfl⟩,λh=>(by cases h)⟩;have hv:(if m=m then (if ver=0 then some (Value.slice none 0 0) else none) else g.av m ver)=some v:=hv;rw[yaF rfl]at hv;split at hv
      ·rename_i e;exact ⟨e,.inl rfl⟩
      ·cases hv
     ·rename_i e;refine .inl ⟨hA,λver=>?_,?_,λ_ _ hf=>hf,λ_ _ _ h=>h⟩
      ·show (if m=n then _ else g.av m ver)=_
       rw[yap e]
      ·show (if m=n then 0 else g.vc m)=_
       rw[yap e]
    ·show ∃A,c8 m ((n,_)::st.ar)=some A
     rw[e8];split
     ·exact ⟨_,rfl⟩
     ·rename_i e;rcases hm with hm|hm
      ·exact absurd hm e
      ·exact hr.ad m hm
   ·cases h
  ·rw[d7]at h;split at h
   ·exact ih h hr
   ·cases h
  ·cases h
def f0y (sgk:SgOk S):∀{l:List Nat} {st st1:St κ El} {g:Gh},d6k st l=some st1→Rel S c st g a w→∃g',Rel S c st1 g' a w:=by
 intro l
 induction l with
 |nil=>intro st st1 g h hr;cases h;exact ⟨g,hr⟩
 |cons n l ih=>
  intro st st1 g h hr;simp only[d6k]at h;split at h
  ·rename_i A hA;rw[d7]at h;split at h
   ·cases h
   ·rename_i hd;simp only[ybr,not_or,Bool.not_eq_true]at hd;obtain ⟨g',hr',-⟩:=hr.sealx sgk hA hd.1 (λe=>by have:=hd.2;rw[e]at this;simp at this);exact ih h hr'
  ·cases h
def a4a {n:Nat} {d:D κ El} (h:a44 n d=true):∀v,¬HasArr d n v:=by
 cases d with
 |arr b u=>intro v h';cases h';simp[a44,a82]at h
 |aptr b u i o=>intro v h';cases h';simp[a44,a82]at h
 |agg _=>simp[a44]at h
 |tup _=>simp[a44]at h
 |fn _ _ _=>simp[a44]at h
 |_=>intro v h';cases h'
def c6i {n:Nat} {d:D κ El} (h:d7w n d=true):∀v,¬HasArr d n v:=by
 cases d with
 |agg cs=>intro v h';cases h' with|agg _ d a v hm hp=>exact a4a (yaj.1 h d hm) _ hp
 |tup cs=>intro v h';cases h' with|tup _ d a v hm hp=>exact a4a (yaj.1 h d hm) _ hp
 |fn f p c=>
  intro v h';unfold d7w at h;rw[yae]at h;cases h' with
  |fnp _ _ _ d b v hm hp=>exact a4a (yaj.1 h.1 d hm) _ hp
  |fnc _ _ _ d b v hm hp=>exact a4a (yaj.1 h.2 d hm) _ hp
 |_=>exact a4a h
def d0v (g:Gh) (n V:Nat):Gh:={g with av:=λm ver=>if m=n then (if ver=0 then g.av n V else none) else g.av m ver,vc:=λm=>if m=n then 0 else g.vc m}
def VR.verFree {n V:Nat} {v:Value} {d:D κ El} (h:VR S w g v d) (hf:∀v,¬HasArr d n v):VR S w (d0v g n V) v d:=by
 refine h.reg (g:=g) (g':=d0v g n V) rfl rfl (λ_ _ _ h=>h) (λa ver ha had hver=>?_);have hne:¬a=n:=λe=>by subst e;exact hf ver ha
 refine ⟨had,by simp only[d0v,yap hne];exact hver,λv hv=>?_,rfl⟩;simp only[d0v,yap hne]at hv;exact hv
def b07 {n V:Nat} {d d':D κ El} (h:b5x n V d=some d') {v:Value} (hv:VR S w g v d):VR S w (d0v g n V) v d':=by
 unfold b5x at h;split at h
 ·rename_i b u;rw[d7]at h;split at h
  ·rename_i hb;rw[yaS]at hb;subst hb;rw[d7]at h;split at h
   ·rename_i hu;rw[yaS]at hu;subst hu;cases h
    obtain ⟨hs,h1,h2,h3⟩:=hv.arr_inv;refine .arr _ b 0 hs h1 (ybY _) (λv' hv'=>h3 v' ?_);simpa[d0v]using hv'
   ·cases h
  ·rename_i hb;rw[yaS]at hb;cases h
   exact hv.verFree (λv h'=>by cases h';exact hb rfl)
 ·rw[d7]at h;split at h
  ·rename_i hf;cases h
   exact hv.verFree (c6i hf)
  ·cases h
def b5w {n V:Nat}:∀{cs cs':List (D κ El)},a8j n V cs=some cs'→cs'.length=cs.length∧∀(i:Nat) d',cs'[i]?=some d'→∃d,cs[i]?=some d∧b5x n V d=some d':=by
 intro cs
 induction cs with
 |nil=>intro cs' h;cases h;exact ⟨rfl,λi d h=>by simp at h⟩
 |cons c cs ih=>
  intro cs' h;simp only[a8j]at h;split at h
  ·rename_i c1 cs1 h1 h2;cases h
   obtain ⟨hl,hall⟩:=ih h2;refine ⟨by simp[hl],λi d' hd=>?_⟩;cases i with
   |zero=>simp only[yas,yam]at hd ⊢;subst hd;exact ⟨c,rfl,h1⟩
   |succ i=>simp only[yaL]at hd ⊢;exact hall i d' hd
  ·cases h
def e52 {n V:Nat}:∀{l l':List (Nat×D κ El)},d27 n V l=some l'→∀s d',c8 s l'=some d'→∃d,c8 s l=some d∧∀(v:Value),VR S w g v d→VR S w (d0v g n V) v d':=by
 intro l
 induction l with
 |nil=>intro l' h s d' hd;cases h;cases hd
 |cons p l ih=>
  obtain ⟨s0,d0⟩:=p;intro l' h s d' hd;simp only[d27]at h;split at h
  ·rename_i cs l1 h1;split at h
   ·rename_i cs1 h2;cases h
    rw[e8]at hd ⊢;split at hd
    ·rename_i e;rw[yaF e];cases hd
     refine ⟨_,rfl,λv hv=>?_⟩;obtain ⟨vs,rfl,hs,hall⟩:=hv.agg_inv;obtain ⟨hl,h3⟩:=b5w h2;refine .agg vs cs1 (by rw[hs,hl]) (λi v d e1 e2=>?_);obtain ⟨d1,e3,e4⟩:=h3 i d e2;exact b07 e4 (hall i v d1 e1 e3)
    ·rename_i e;rw[yap e];exact ih h1 s d' hd
   ·cases h
  ·rename_i l1 hne h1;split at h
   ·rename_i d1 h2;cases h
    rw[e8]at hd ⊢;split at hd
    ·rename_i e;rw[yaF e];cases hd
     exact ⟨_,rfl,λv hv=>b07 h2 hv⟩
    ·rename_i e;rw[yap e];exact ih h1 s d' hd
   ·cases h
  ·cases h
def c04 {n V:Nat}:∀{l l':List (Nat×List (D κ El))},f1c n V l=some l'→(∀b,(c8 b l').isSome=(c8 b l).isSome)∧∀b cs',c8 b l'=some cs'→∃cs,c8 b l=some cs∧a8j n V cs=some cs':=by
 intro l
 induction l with
 |nil=>intro l' h;cases h;exact ⟨λb=>rfl,λb cs h=>by cases h⟩
 |cons p l ih=>
  obtain ⟨b0,cs0⟩:=p;intro l' h;simp only[f1c]at h;split at h
  ·rename_i cs1 l1 h1 h2;cases h
   obtain ⟨i1,i2⟩:=ih h2;refine ⟨λb=>?_,λb cs' hb=>?_⟩
   ·rw[e8,e8];split
    ·rfl
    ·exact i1 b
   ·rw[e8]at hb ⊢;split at hb
    ·rename_i e;rw[yaF e];cases hb;exact ⟨_,rfl,h1⟩
    ·rename_i e;rw[yap e];exact i2 b cs' hb
  ·cases h
def f0v:∀{l:List Nat} {st st1:St κ El} {g:Gh},c84 st l=some st1→Rel S c st g a w→∃g',Rel S c st1 g' a w:=by
 intro l
 induction l with
 |nil=>intro st st1 g h hr;cases h;exact ⟨g,hr⟩
 |cons n l ih=>
  intro st st1 g h hr;simp only[c84]at h;split at h
  ·rename_i A hA;split at h
   ·rename_i env bx hd he hb;have hrA:=hr.ar n A hA;refine ih h (g:=d0v g n A.ver) {hr with env:=λs d hs=>?_,bx:=λb cs hb'=>?_,bd:=λb blk hb'=>?_,ar:=λm B hB=>?_,ad:=λm hm=>?_,pn:=λv hp hv=>?_}
    ·obtain ⟨d0,h1,h2⟩:=e52 (S:=S) (w:=w) (g:=g) he s d hs;exact h2 _ (hr.env s d0 h1)
    ·obtain ⟨i1,i2⟩:=c04 hb;obtain ⟨cs0,h1,h2⟩:=i2 b cs hb';obtain ⟨blk,e1,e2,e3,vals,t,e4,e5,e6⟩:=hr.bx b cs0 h1;obtain ⟨hl,h3⟩:=b5w h2;refine ⟨blk,e1,e2,e3,vals,t,e4,by rw[e5,hl],λi v d f1 f2=>?_⟩;obtain ⟨d1,f3,f4⟩:=h3 i d f2;exact b07 f4 (e6 i v d1 f1 f3)
    ·obtain ⟨i1,i2⟩:=c04 hb;obtain ⟨cs,hcs⟩:=hr.bd b blk hb';have:=i1 b;rw[hcs]at this;exact yb0.1 this
    ·replace hB:c8 m (a1z n {A with ver:=0} st.ar)=some B:=hB;rw[c6 hA]at hB;split at hB
     ·rename_i e;subst e;cases hB
      refine ⟨hrA.ad,hrA.az,by simp[d0v],λ_=>?_,λver v hv=>?_,λe=>⟨rfl,(hrA.own e).2⟩,λh=>(by simp only at h;rw[hd]at h;cases h)⟩
      ·obtain ⟨base,cap,f1,f2,f3⟩:=hrA.live hd;refine ⟨base,cap,by simp only[d0v,ybD];exact f1,f2,f3⟩
      ·have hv:(if m=m then (if ver=0 then g.av m A.ver else none) else g.av m ver)=some v:=hv;rw[yaF rfl]at hv;split at hv
       ·rename_i e;exact ⟨e,.inl hd⟩
       ·cases hv
     ·rename_i e;have hrB:=hr.ar m B hB;refine ⟨hrB.ad,hrB.az,?_,λhdB=>?_,λver v hv=>?_,hrB.own,λhx hy=>?_⟩
      ·simp only[d0v,yap e];exact hrB.vc
      ·obtain ⟨base,cap,f1,f2,f3⟩:=hrB.live hdB;exact ⟨base,cap,by simp only[d0v,yap e];exact f1,f2,f3⟩
      ·simp only[d0v,yap e]at hv;exact hrB.ver ver v hv
      ·exact (hrB.mp hx hy).mono (by simp only[d0v,yap e]) (λblk _ ho=>⟨rfl,ho,λo hi=>hi⟩) (λv d h=>h)
    ·obtain ⟨B,hB⟩:=hr.ad m hm;show ∃B,c8 m (a1z n {A with ver:=0} st.ar)=some B
     rw[c6 hA];split
     ·exact ⟨_,rfl⟩
     ·exact ⟨_,hB⟩
    ·replace hv:(if MA=n then (if (0:Nat)=0 then g.av n A.ver else none) else g.av MA 0)=some v:=hv;split at hv
     ·rename_i e;rw[yaF rfl,(hrA.own e.symm).1,←e]at hv;exact hr.pn v hp hv
     ·exact hr.pn v hp hv
   ·rw[d7]at h;split at h
    ·exact ih h hr
    ·cases h
   ·cases h
  ·cases h
def f0m (sgk:SgOk S) {ta:List (Nat×Nat×κ)} {se ss bs as:List Nat} {st1:St κ El} (h:e2j ta se ss bs as st=some st1) (hr:Rel S c st g a w) (hm:(∀j,j<c.mb.length→MB+j∈bs)∧(c.pv≠none→MA∈as)) :
 ∃g',Rel S c st1 g' a w:=by
 unfold e2j at h;split at h
 ·rename_i st2 h2;split at h
  ·rename_i st3 h3;split at h
   ·rename_i st4 h4;obtain ⟨g2,r2⟩:=b2g h2 hr hm;obtain ⟨g3,r3⟩:=f1a h3 r2;obtain ⟨g4,r4⟩:=f0y sgk h4 r3;exact f0v h r4
   ·cases h
  ·cases h
 ·cases h
end
end
section
section
variable {κ:Type} {El:κ→Type} {S:Sg κ El} {P:Program}
variable {c:Cx} {st:St κ El} {g:Gh} {a:Act} {w:World}
inductive Wd {κ:Type} {El:κ→Type}:D κ El→D κ El→Prop
 |leaf (d d') (h:Wk d d'):Wd d d'
 |agg (cs cs') (hl:cs.length=cs'.length) (h:∀(i:Nat) d d',cs[i]?=some d→cs'[i]?=some d'→Wd d d'):Wd (.agg cs) (.agg cs')
 |tup (cs cs') (hl:cs.length=cs'.length) (h:∀(i:Nat) d d',cs[i]?=some d→cs'[i]?=some d'→Wd d d'):Wd (.tup cs) (.tup cs')
 |cptr (cs cs' off) (hl:cs.length=cs'.length) (h:∀(i:Nat) d d',cs[i]?=some d→cs'[i]?=some d'→Wd d d'):Wd (.cptr cs off) (.cptr cs' off)
 |fn (f p p' c c') (hp:p.length=p'.length) (hc:c.length=c'.length) (h1:∀(i:Nat) d d',p[i]?=some d→p'[i]?=some d'→Wd d d') (h2:∀(i:Nat) d d',c[i]?=some d→c'[i]?=some d'→Wd d d') :
  Wd (.fn f p c) (.fn f p' c')
def Wd.refl (d:D κ El):Wd d d:=.leaf d d (.same d)
def WL (cs cs':List (D κ El)):Prop:=cs.length=cs'.length∧∀(i:Nat) d d',cs[i]?=some d→cs'[i]?=some d'→Wd d d'
def WL.refl (cs:List (D κ El)):WL cs cs:=⟨rfl,λi d d' h1 h2=>by rw[h1]at h2;cases h2;exact .refl d⟩
def WL.nil:WL ([]:List (D κ El)) []:=.refl _
def WL.cons {d d':D κ El} {cs cs':List (D κ El)} (h:Wd d d') (hs:WL cs cs'):WL (d::cs) (d'::cs'):=by
 refine ⟨by simp[hs.1],λi e e' h1 h2=>?_⟩;cases i with
 |zero=>simp only[yas,yam]at h1 h2;subst h1 h2;exact h
 |succ i=>exact hs.2 i e e' (by simpa using h1) (by simpa using h2)
def WL.app {cs cs' ds ds':List (D κ El)} (h:WL cs cs') (hs:WL ds ds'):WL (cs++ds) (cs'++ds'):=by
 refine ⟨by simp[h.1,hs.1],λi e e' h1 h2=>?_⟩;by_cases hi:i<cs.length
 ·rw[yat hi]at h1;rw[yat (by rw[←h.1];exact hi)]at h2;exact h.2 i e e' h1 h2
 ·rw[yaG (by omega)]at h1;rw[yaG (by rw[←h.1];omega),←h.1]at h2;exact hs.2 _ e e' h1 h2
def WL.get {cs cs':List (D κ El)} (h:WL cs cs') {i:Nat} {d':D κ El} (hd:cs'[i]?=some d'):∃d,cs[i]?=some d∧Wd d d':=by
 have hi:i<cs.length:=by rw[h.1];exact (zL hd)
 exact ⟨cs[i],yab hi,h.2 i _ _ (yab hi) hd⟩
def Wd.dr {I J:Nat→Nat→Prop} {d d':D κ El} (h:Wd d d'):∀{v:Value},DR S w I J v d→DR S w I J v d':=by
 induction h with
 |leaf d d' h=>intro v hv;exact h.dr hv
 |agg cs cs' hl h ih=>
  intro v hv;cases hv with
  |agg vs _ hs h1=>
   refine .agg vs cs' (by rw[hs,hl]) (λi v d' e1 e2=>?_);obtain ⟨d,e3,_⟩:=WL.get ⟨hl,h⟩ e2;exact ih i d d' e3 e2 (h1 i v d e1 e3)
 |tup cs cs' hl h ih=>
  intro v hv;cases hv with
  |tup vs _ hs h1=>
   refine .tup vs cs' (by rw[hs,hl]) (λi v d' e1 e2=>?_);obtain ⟨d,e3,_⟩:=WL.get ⟨hl,h⟩ e2;exact ih i d d' e3 e2 (h1 i v d e1 e3)
 |cptr cs cs' off hl h ih=>
  intro v hv;cases hv with
  |cptr b o _ _ cv hc h1=>
   refine .cptr b o cs' off cv (λj hj=>hc j (by rw[hl];exact hj)) (λj d' e2=>?_);obtain ⟨d,e3,_⟩:=WL.get ⟨hl,h⟩ e2;exact ih j d d' e3 e2 (h1 j d e3)
 |fn f p p' c c' hp hc h1 h2 ih1 ih2=>
  intro v hv;cases hv with
  |fn _ pv cv _ _ hpv hcv g1 g2=>
   refine .fn f pv cv p' c' (by rw[hpv,hp]) (by rw[hcv,hc]) (λi v d' e1 e2=>?_) (λi v d' e1 e2=>?_)
   ·obtain ⟨d,e3,_⟩:=WL.get ⟨hp,h1⟩ e2;exact ih1 i d d' e3 e2 (g1 i v d e1 e3)
   ·obtain ⟨d,e3,_⟩:=WL.get ⟨hc,h2⟩ e2;exact ih2 i d d' e3 e2 (g2 i v d e1 e3)
def Wk.vr {d d':D κ El} (h:Wk d d') {v:Value} (hv:VR S w g v d):VR S w g v d':=by
 cases h with
 |same=>exact hv
 |lsn k xs=>exact .data (hv.lsn_inv.lsn_lst.1)
 |nil k=>rw[hv.nil_inv];exact .data (.lst0 _ _ _ (λ_=>rfl))
def Wd.vr {d d':D κ El} (h:Wd d d'):∀{v:Value},VR S w g v d→VR S w g v d':=by
 induction h with
 |leaf d d' h=>intro v hv;exact h.vr hv
 |agg cs cs' hl h ih=>
  intro v hv;obtain ⟨vs,rfl,hs,h1⟩:=hv.agg_inv;refine .agg vs cs' (by rw[hs,hl]) (λi v d' e1 e2=>?_);obtain ⟨d,e3,_⟩:=WL.get ⟨hl,h⟩ e2;exact ih i d d' e3 e2 (h1 i v d e1 e3)
 |tup cs cs' hl h ih=>
  intro v hv;obtain ⟨vs,rfl,hs,h1⟩:=hv.tup_inv;refine .tup vs cs' (by rw[hs,hl]) (λi v d' e1 e2=>?_);obtain ⟨d,e3,_⟩:=WL.get ⟨hl,h⟩ e2;exact ih i d d' e3 e2 (h1 i v d e1 e3)
 |cptr cs cs' off hl h ih=>
  intro v hv;exact .data ((Wd.cptr cs cs' off hl h).dr hv.cptr_inv)
 |fn f p p' c c' hp hc h1 h2 ih1 ih2=>
  intro v hv;obtain ⟨pv,cv,rfl,hpv,hcv,g1,g2⟩:=hv.fn_inv;refine .fn f pv cv p' c' (by rw[hpv,hp]) (by rw[hcv,hc]) (λi v d' e1 e2=>?_) (λi v d' e1 e2=>?_)
  ·obtain ⟨d,e3,_⟩:=WL.get ⟨hp,h1⟩ e2;exact ih1 i d d' e3 e2 (g1 i v d e1 e3)
  ·obtain ⟨d,e3,_⟩:=WL.get ⟨hc,h2⟩ e2;exact ih2 i d d' e3 e2 (g2 i v d e1 e3)
def WL.box {blk:Nat} {cs cs':List (D κ El)} (h:WL cs cs') (hb:c9r S w g blk cs):c9r S w g blk cs':=by
 obtain ⟨vals,t,h1,h2,h3⟩:=hb;refine ⟨vals,t,h1,by rw[h2,h.1],λi v d' e1 e2=>?_⟩;obtain ⟨d,e3,e4⟩:=h.get e2;exact e4.vr (h3 i v d e1 e3)
def WL.boxD {I J:Nat→Nat→Prop} {blk:Nat} {cs cs':List (D κ El)} (h:WL cs cs') (hb:d60 S w I J blk cs):d60 S w I J blk cs':=by
 obtain ⟨vals,t,h1,h2,h3⟩:=hb;refine ⟨vals,t,h1,by rw[h2,h.1],λi v d' e1 e2=>?_⟩;obtain ⟨d,e3,e4⟩:=h.get e2;exact e4.dr (h3 i v d e1 e3)
def WL.args {I J:Nat→Nat→Prop} {vs:Array Value} {cs cs':List (D κ El)} (h:WL cs cs') (ha:b50 S w I J vs cs):b50 S w I J vs cs':=by
 refine ⟨by rw[ha.1,h.1],λi v d' e1 e2=>?_⟩;obtain ⟨d,e3,e4⟩:=h.get e2;exact e4.dr (ha.2 i v d e1 e3)
end
section
variable {κ:Type} {El:κ→Type} {α β γ:Type}
def g9 (c:Cod κ El α):Prop:=∀d a,c.dec d=some a→Wd d (c.enc a)
def n5 (c:CC κ El α):Prop:=∀ds a,c.dec ds=some a→WL ds (c.enc a)
def e59 (c:BC κ El α):Prop:=∀bs b,c.dec bs=some b→bs.length=(c.enc b).length∧∀(j:Nat) cs cs',bs[j]?=some cs→(c.enc b)[j]?=some cs'→WL cs cs'
def g9.int (k:IntKind):g9 (Cod.int k:Cod κ El Int):=by
 intro d a h;unfold Cod.int at h ⊢;simp only at h ⊢;split at h
 ·rename_i k' n;rw[d7]at h;split at h
  ·rename_i hk;rw[a8f hk];cases h;exact .refl _
  ·cases h
 ·cases h
def g9.bool:g9 (Cod.bool:Cod κ El Bool):=by
 intro d a h;unfold Cod.bool at h ⊢;simp only at h ⊢;split at h
 ·cases h;exact .refl _
 ·cases h
def g9.ifc:g9 (Cod.ifc:Cod κ El Bool):=by
 intro d a h;unfold Cod.ifc at h ⊢;simp only at h ⊢;split at h
 ·cases h;exact .refl _
 ·cases h
def g9.str:g9 (Cod.str:Cod κ El (List UInt8)):=by
 intro d a h;unfold Cod.str at h ⊢;simp only at h ⊢;split at h
 ·cases h;exact .refl _
 ·cases h
def a2i [KdEq κ] {k k':κ} {xs:List (El k)} {ys:List (El k')} (h:a56 xs=some ys):∃e:k=k',e▸xs=ys:=by
 unfold a56 at h;split at h
 ·rename_i e _;cases h
  exact ⟨e.down,rfl⟩
 ·cases h
def g9.lst [KdEq κ] (k:κ):g9 (Cod.lst k:Cod κ El (List (El k))):=by
 intro d a h;unfold Cod.lst at h ⊢;simp only at h ⊢;split at h
 ·obtain ⟨e,h'⟩:=a2i h;subst e;cases h';exact .refl _
 ·obtain ⟨e,h'⟩:=a2i h;subst e;cases h';exact .leaf _ _ (.lsn _ _)
 ·cases h;exact .leaf _ _ (.nil _)
 ·cases h
def g9.lsn [KdEq κ] (k:κ):g9 (Cod.lsn k:Cod κ El (List (El k))):=by
 intro d a h;unfold Cod.lsn at h ⊢;simp only at h ⊢;split at h
 ·obtain ⟨e,h'⟩:=a2i h;subst e;cases h';exact .refl _
 ·cases h
def g9.agg {c:CC κ El α} (hc:n5 c):g9 (Cod.agg c):=by
 intro d a h;unfold Cod.agg at h ⊢;simp only at h ⊢;split at h
 ·have:=hc _ _ h;exact .agg _ _ this.1 this.2
 ·cases h
def g9.cptr {c:CC κ El α} (hc:n5 c):g9 (Cod.cptr c):=by
 intro d a h;unfold Cod.cptr at h ⊢;simp only at h ⊢;split at h
 ·have:=hc _ _ h;exact .cptr _ _ _ this.1 this.2
 ·cases h
def g9.tup {c:CC κ El α} (hc:n5 c):g9 (Cod.tup c):=by
 intro d a h;unfold Cod.tup at h ⊢;simp only at h ⊢;split at h
 ·have:=hc _ _ h;exact .tup _ _ this.1 this.2
 ·cases h
def g9.unit:g9 (Cod.unit:Cod κ El Unit):=by
 intro d a h;unfold Cod.unit at h ⊢;simp only at h ⊢;split at h
 ·exact .refl _
 ·cases h
def g9.ptro (n o:Nat):g9 (Cod.ptro n o:Cod κ El Unit):=by
 intro d a h;unfold Cod.ptro at h ⊢;simp only at h ⊢;split at h
 ·rw[d7]at h;split at h
  ·rename_i hb;rw[yae,yaS,yaS]at hb;rw[hb.1,hb.2];exact .refl _
  ·cases h
 ·cases h
def g9.ptrc (n:Nat):g9 (Cod.ptrc n:Cod κ El Unit):=by
 intro d a h;unfold Cod.ptrc at h ⊢;simp only at h ⊢;split at h
 ·rw[d7]at h;split at h
  ·rename_i hb;rw[yaS]at hb;rw[hb];exact .refl _
  ·cases h
 ·cases h
def g9.fnc (f:Nat) {p:CC κ El α} {c:CC κ El β} (hp:n5 p) (hc:n5 c):g9 (Cod.fnc f p c):=by
 intro d a h;unfold Cod.fnc at h ⊢;simp only at h ⊢;split at h
 ·rw[d7]at h;split at h
  ·rename_i hf;rw[yaS]at hf;subst hf;split at h
   ·rename_i x hx;split at h
    ·rename_i y hy;cases h
     have h1:=hp _ _ hx;have h2:=hc _ _ hy;exact .fn _ _ _ _ _ h1.1 h2.1 h1.2 h2.2
    ·cases h
   ·cases h
  ·cases h
 ·cases h
def g9.iso {c:Cod κ El β} {to:β→α} {frm:α→β} (hc:g9 c) (h0:∀b,frm (to b)=b):g9 (c.iso to frm):=by
 intro d a h;unfold Cod.iso at h ⊢;simp only at h ⊢;split at h
 ·rename_i b hb;cases h
  rw[h0];exact hc _ _ hb
 ·cases h
def g9.tup2 {c:CC κ El (α×β×Unit)} (hc:n5 c):g9 (Cod.tup2 c):=(g9.tup hc).iso (λ_=>rfl)
def g9.tup3 {c:CC κ El (α×β×γ×Unit)} (hc:n5 c):g9 (Cod.tup3 c):=(g9.tup hc).iso (λ_=>rfl)
def g9.tup4 {δ:Type} {c:CC κ El (α×β×γ×δ×Unit)} (hc:n5 c):g9 (Cod.tup4 c):=(g9.tup hc).iso (λ_=>rfl)
def n5.nil:n5 (CC.nil:CC κ El Unit):=by
 intro d a h;unfold CC.nil at h ⊢;simp only at h ⊢;split at h
 ·exact .nil
 ·cases h
def n5.cons {c:Cod κ El α} {r:CC κ El β} (hc:g9 c) (hr:n5 r):n5 (CC.cons c r):=by
 intro d a h;unfold CC.cons at h ⊢;simp only at h ⊢;split at h
 ·split at h
  ·rename_i x hx;split at h
   ·rename_i y hy;cases h
    exact .cons (hc _ _ hx) (hr _ _ hy)
   ·cases h
  ·cases h
 ·cases h
def n5.part (n:Nat) {c:CC κ El α} {r:CC κ El β} (hc:n5 c) (hr:n5 r):n5 (CC.part n c r):=by
 intro d a h;unfold CC.part at h ⊢;simp only at h ⊢;split at h
 ·rename_i x hx;split at h
  ·rename_i y hy;cases h
   have:=(hc _ _ hx).app (hr _ _ hy)
   rwa [ya2]at this
  ·cases h
 ·cases h
def n5.iso {c:CC κ El β} {enc:α→List (D κ El)} {to:β→α} (hc:n5 c) (h0:∀b,enc (to b)=c.enc b):n5 (c.iso enc to):=by
 intro d a h;unfold CC.iso at h ⊢;simp only at h ⊢;split at h
 ·rename_i b hb;cases h
  rw[h0];exact hc _ _ hb
 ·cases h
def n5.one {c:Cod κ El α} (hc:g9 c):n5 (CC.one c):=(n5.cons hc n5.nil).iso (λ_=>rfl)
def e59.one {c:CC κ El α} (hc:n5 c):e59 (BC.one c):=by
 intro d a h;unfold BC.one at h ⊢;simp only at h ⊢;split at h
 ·refine ⟨rfl,λj cs cs' h1 h2=>?_⟩;cases j with
  |zero=>simp only[yas,yam]at h1 h2;subst h1 h2;exact hc _ _ h
  |succ j=>simp at h1
 ·cases h
def e59.nil:e59 (BC.nil:BC κ El Unit):=by
 intro d a h;unfold BC.nil at h ⊢;simp only at h ⊢;split at h
 ·exact ⟨rfl,λj cs cs' h1 h2=>by simp at h1⟩
 ·cases h
def e59.cons {c:CC κ El α} {r:BC κ El β} (hc:n5 c) (hr:e59 r):e59 (BC.cons c r):=by
 intro d a h;unfold BC.cons at h ⊢;simp only at h ⊢;split at h
 ·split at h
  ·rename_i x hx;split at h
   ·rename_i y hy;cases h
    have h1:=hr _ _ hy;refine ⟨by simp[h1.1],λj cs cs' e1 e2=>?_⟩;cases j with
    |zero=>simp only[yas,yam]at e1 e2;subst e1 e2;exact hc _ _ hx
    |succ j=>exact h1.2 j cs cs' (by simpa using e1) (by simpa using e2)
   ·cases h
  ·cases h
 ·cases h
def b80 (n:Nat) (A A':Ar κ El):Prop:=(A.dead=false∧((A'=A)∨(A'={A with sealed:=true}∧n≠MA)))∨(A.dead=true∧A'=A)
structure FW (st st':St κ El) (bs as:List Nat):Prop where
 env:∀s d',c8 s st'.env=some d'→∃d,c8 s st.env=some d∧Wd d d'
 bx:∀b cs',c8 b st'.bx=some cs'→∃cs,c8 b st.bx=some cs∧WL cs cs'
 bn:∀b,b∈bs→(c8 b st'.bx).isSome=true
 ar:∀n A',c8 n st'.ar=some A'→∃A,c8 n st.ar=some A∧b80 n A A'
 an:∀n,n∈as→(c8 n st'.ar).isSome=true
def a4r (fc:FC κ El α):Prop:=∀st a,fc.dec st=some a→FW st (fc.enc a) fc.bs fc.as
def a4r.nil:a4r (FC.nil:FC κ El Unit):=λst a h=>⟨λs d h=>(by cases h),λs d h=>(by cases h),λb h=>(by cases h),λs d h=>(by cases h),λb h=>(by cases h)⟩
def FW.slot {st st':St κ El} {bs as:List Nat} (h:FW st st' bs as) {s:Nat} {d d':D κ El} (hs:c8 s st.env=some d) (hd:Wd d d'):FW st {st' with env:=(s,d')::st'.env} bs as where
 env:=λs0 d0 h0=>by
  replace h0:c8 s0 ((s,d')::st'.env)=some d0:=h0;rw[e8]at h0;split at h0
  ·rename_i e;subst e;cases h0;exact ⟨d,hs,hd⟩
  ·exact h.env s0 d0 h0
 bx:=h.bx
 bn:=h.bn
 ar:=h.ar
 an:=h.an
def a4r.slot (s:Nat) {c:Cod κ El α} {r:FC κ El β} (hc:g9 c) (hr:a4r r):a4r (FC.slot s c r):=by
 intro st a h;unfold FC.slot at h ⊢;simp only at h ⊢;split at h
 ·rename_i d hd;split at h
  ·rename_i x hx;split at h
   ·rename_i y hy;cases h
    exact (hr _ _ hy).slot hd (hc _ _ hx)
   ·cases h
  ·cases h
 ·cases h
def a4r.ptr (s b:Nat) {r:FC κ El β} (hr:a4r r):a4r (FC.ptr s b r):=by
 intro st a h;unfold FC.ptr at h ⊢;simp only at h ⊢;split at h
 ·rename_i b' hd;rw[d7]at h;split at h
  ·rename_i hb;rw[yaS]at hb;subst hb;exact (hr _ _ h).slot hd (.refl _)
  ·cases h
 ·cases h
def a4r.arr (s b:Nat) {r:FC κ El β} (hr:a4r r):a4r (FC.arr s b r):=by
 intro st a h;unfold FC.arr at h ⊢;simp only at h ⊢;split at h
 ·rename_i b' hd;rw[d7]at h;split at h
  ·rename_i hb;rw[yaS]at hb;subst hb;exact (hr _ _ h).slot hd (.refl _)
  ·cases h
 ·cases h
def a4r.nilS (s:Nat) {r:FC κ El β} (hr:a4r r):a4r (FC.nilS s r):=by
 intro st a h;unfold FC.nilS at h ⊢;simp only at h ⊢;split at h
 ·rename_i hd;exact (hr _ _ h).slot hd (.refl _)
 ·cases h
def b2y:∀{l:List (D κ El)} {ns:List Nat},c1w l ns=true→l=ns.map (λb=>.ptr b 0):=by
 intro l
 induction l with
 |nil=>intro ns h;cases ns with|nil=>rfl|cons n ns=>cases h
 |cons d l ih=>
  intro ns h;unfold c1w at h;split at h
  ·rename_i heq;first|cases heq|(rename_i heq;cases heq)
  ·rename_i b l' b' ns' heq;obtain ⟨rfl,rfl⟩:=yce heq;rw[yae,yaS]at h;obtain ⟨rfl,h2⟩:=h;rw[ih h2];rfl
  ·cases h
def a4r.clo (s f:Nat) (pre caps:List Nat) {r:FC κ El β} (hr:a4r r):a4r (FC.clo s f pre caps r):=by
 intro st a h;unfold FC.clo at h ⊢;simp only at h ⊢;split at h
 ·rename_i f' ps cs hd;rw[d7]at h;split at h
  ·rename_i hb;rw[yae,yae,yaS]at hb;obtain ⟨rfl,h1,h2⟩:=hb;rw[b2y h1,b2y h2]at hd;exact (hr _ _ h).slot hd (.refl _)
  ·cases h
 ·cases h
def FL.chk_eq {x:FL} {d:D κ El} (h:x.chk d=true):d=x.enc:=by
 unfold FL.chk at h;split at h
 ·rw[yae]at h;rw[ya6.1 h.2,a8f h.1];rfl
 ·rfl
 ·rw[yaS]at h;subst h;rfl
 ·rfl
 ·cases h
def d8h:∀{xs:List FL} {ds:List (D κ El)},g85 xs ds=true→ds=xs.map FL.enc:=by
 intro xs
 induction xs with
 |nil=>intro ds h;cases ds with|nil=>rfl|cons d ds=>cases h
 |cons x xs ih=>
  intro ds h;cases ds with
  |nil=>cases h
  |cons d ds=>
   simp only[g85,yae]at h;rw[FL.chk_eq h.1,ih h.2];rfl
def a4r.fix (s:Nat) (x:FL) {r:FC κ El β} (hr:a4r r):a4r (FC.fix s x r):=by
 intro st a h;unfold FC.fix at h ⊢;simp only at h ⊢;split at h
 ·rename_i d hd;rw[d7]at h;split at h
  ·rename_i hb;rw[FL.chk_eq hb]at hd;exact (hr _ _ h).slot hd (.refl _)
  ·cases h
 ·cases h
def a4r.fixa (s:Nat) (xs:List FL) {r:FC κ El β} (hr:a4r r):a4r (FC.fixa s xs r):=by
 intro st a h;unfold FC.fixa at h ⊢;simp only at h ⊢;split at h
 ·rename_i ds hd;rw[d7]at h;split at h
  ·rename_i hb;rw[d8h hb]at hd;exact (hr _ _ h).slot hd (.refl _)
  ·cases h
 ·cases h
def a4r.fixb (b:Nat) (xs:List FL) {r:FC κ El β} (hr:a4r r):a4r (FC.fixb b xs r):=by
 intro st a h;unfold FC.fixb at h ⊢;simp only at h ⊢;split at h
 ·rename_i ds hd;rw[d7]at h;split at h
  ·rename_i hb;rw[d8h hb]at hd;have h1:=hr _ _ h;refine ⟨h1.env,λb0 cs0 h0=>?_,λb0 h0=>?_,h1.ar,h1.an⟩
   ·replace h0:c8 b0 ((b,xs.map FL.enc)::(r.enc a).bx)=some cs0:=h0;rw[e8]at h0;split at h0
    ·rename_i e;subst e;cases h0;exact ⟨_,hd,.refl _⟩
    ·exact h1.bx b0 cs0 h0
   ·show (c8 b0 ((b,xs.map FL.enc)::(r.enc a).bx)).isSome=true
    rw[e8];split
    ·rfl
    ·rename_i e;rcases yaM.1 h0 with h0|h0
     ·exact absurd h0 e
     ·exact h1.bn b0 h0
  ·cases h
 ·cases h
def a4r.box (b:Nat) {c:CC κ El α} {r:FC κ El β} (hc:n5 c) (hr:a4r r):a4r (FC.box b c r):=by
 intro st a h;unfold FC.box at h ⊢;simp only at h ⊢;split at h
 ·rename_i d hd;split at h
  ·rename_i x hx;split at h
   ·rename_i y hy;cases h
    have h1:=hr _ _ hy;refine ⟨h1.env,λb0 cs0 h0=>?_,λb0 h0=>?_,h1.ar,h1.an⟩
    ·replace h0:c8 b0 ((b,c.enc x)::(r.enc y).bx)=some cs0:=h0;rw[e8]at h0;split at h0
     ·rename_i e;subst e;cases h0;exact ⟨d,hd,hc _ _ hx⟩
     ·exact h1.bx b0 cs0 h0
    ·show (c8 b0 ((b,c.enc x)::(r.enc y).bx)).isSome=true
     rw[e8];split
     ·rfl
     ·rename_i e;rcases yaM.1 h0 with h0|h0
      ·exact absurd h0 e
      ·exact h1.bn b0 h0
   ·cases h
  ·cases h
 ·cases h
def a4r.own [KdEq κ] (n:Nat) (k:κ) (sealed:Bool) {r:FC κ El β} (hr:a4r r):a4r (FC.own n k sealed r):=by
 intro st a h;unfold FC.own at h ⊢;simp only at h ⊢;split at h
 ·rename_i A hA;rw[d7]at h;split at h
  ·rename_i hok;simp only[yae,yan,yaS]at hok;split at h
   ·rename_i xs hx;split at h
    ·rename_i y hy;cases h
     have h1:=hr _ _ hy;obtain ⟨e,h'⟩:=a2i hx;have hS:b80 n A (⟨k,xs,0,sealed,false⟩:Ar κ El):=by
      obtain ⟨Ak,Axs,Av,As,Ad⟩:=A;simp only at e h' hok;subst e;cases h'
      obtain ⟨⟨rfl,rfl⟩,h3⟩:=hok;refine .inl ⟨rfl,?_⟩;cases sealed with
      |true=>exact .inr ⟨rfl,λe=>by rw[e]at h3;simp at h3⟩
      |false=>simp at h3;subst h3;exact .inl rfl
     refine ⟨h1.env,h1.bx,h1.bn,λn0 A0 h0=>?_,λn0 h0=>?_⟩
     ·replace h0:c8 n0 ((n,(⟨k,xs,0,sealed,false⟩:Ar κ El))::(r.enc y).ar)=some A0:=h0;rw[e8]at h0;split at h0
      ·rename_i e;subst e;cases h0;exact ⟨A,hA,hS⟩
      ·exact h1.ar n0 A0 h0
     ·show (c8 n0 ((n,(⟨k,xs,0,sealed,false⟩:Ar κ El))::(r.enc y).ar)).isSome=true
      rw[e8];split
      ·rfl
      ·rename_i e;rcases yaM.1 h0 with h0|h0
       ·exact absurd h0 e
       ·exact h1.an n0 h0
    ·cases h
   ·cases h
  ·cases h
 ·cases h
def a4r.map [KdEq κ] (n:Nat) (k:κ) {r:FC κ El β} (hr:a4r r):a4r (FC.map n k r):=by
 intro st a h;unfold FC.map at h ⊢;simp only at h ⊢;split at h
 ·rename_i A hA;rw[d7]at h;split at h
  ·rename_i hok;unfold d2m at hok;simp only[yae,yaS]at hok;split at h
   ·rename_i xs hx;split at h
    ·rename_i y hy;cases h
     have h1:=hr _ _ hy;obtain ⟨e,h'⟩:=a2i hx;have hS:b80 n A (⟨k,xs,0,true,true⟩:Ar κ El):=by
      obtain ⟨Ak,Axs,Av,As,Ad⟩:=A;simp only at e h' hok;subst e;cases h'
      obtain ⟨rfl,rfl,rfl⟩:=hok;exact .inr ⟨rfl,rfl⟩
     refine ⟨h1.env,h1.bx,h1.bn,λn0 A0 h0=>?_,λn0 h0=>?_⟩
     ·replace h0:c8 n0 ((n,(⟨k,xs,0,true,true⟩:Ar κ El))::(r.enc y).ar)=some A0:=h0;rw[e8]at h0;split at h0
      ·rename_i e;subst e;cases h0;exact ⟨A,hA,hS⟩
      ·exact h1.ar n0 A0 h0
     ·show (c8 n0 ((n,(⟨k,xs,0,true,true⟩:Ar κ El))::(r.enc y).ar)).isSome=true
      rw[e8];split
      ·rfl
      ·rename_i e;rcases yaM.1 h0 with h0|h0
       ·exact absurd h0 e
       ·exact h1.an n0 h0
    ·cases h
   ·cases h
  ·cases h
 ·cases h
end
end
section
section
variable {κ:Type} {El:κ→Type} {S:Sg κ El} {P:Program}
variable {c:Cx} {st:St κ El} {g:Gh} {a:Act} {w:World} {α β:Type}
def Rel.sealSome (sgk:SgOk S) {st':St κ El}:∀(l:List Nat) {st:St κ El} {g:Gh},Rel S c st g a w→(∀n∈l,n≠MA∧∃A,c8 n st.ar=some A∧A.dead=false)→
 ∃g' st2,Rel S c st2 g' a w∧st2.env=st.env∧st2.bx=st.bx∧∀n,c8 n st2.ar=if n∈l then (c8 n st.ar).map (λA=>{A with sealed:=true}) else c8 n st.ar:=by
 intro l
 induction l with
 |nil=>intro st g hr _;exact ⟨g,st,hr,rfl,rfl,λn=>by simp⟩
 |cons m l ih=>
  intro st g hr hl;obtain ⟨hne,A,hA,hd⟩:=hl m (by simp);obtain ⟨g1,r1,-⟩:=hr.sealx sgk hA hd hne;obtain ⟨g2,st2,r2,e1,e2,e3⟩:=ih r1 (λn hn=>by
   obtain ⟨hne',B,hB,hdB⟩:=hl n (by simp[hn]);refine ⟨hne',?_⟩;show ∃A',c8 n (a1z m {A with sealed:=true} st.ar)=some A'∧A'.dead=false
   rw[c6 hA];split
   ·exact ⟨_,rfl,hd⟩
   ·exact ⟨B,hB,hdB⟩)
  refine ⟨g2,st2,r2,e1,e2,λn=>?_⟩;rw[e3];show (if n∈l then (c8 n (a1z m {A with sealed:=true} st.ar)).map (λA=>{A with sealed:=true}) else c8 n (a1z m {A with sealed:=true} st.ar))=_
  rw[c6 hA];by_cases hm:n=m
  ·subst hm;simp only[ybD,yaM,true_or,hA];split<;>rfl
  ·simp only[yap hm,yaM,hm,false_or];by_cases hl':n∈l<;>simp only[hl',ybD,ybd]
def FW.rel (sgk:SgOk S) {st st':St κ El} {bs as:List Nat} (h:FW st st' bs as) (hb:∀b,(c8 b st.bx).isSome=true→b∈bs) (ha:∀n,(c8 n st.ar).isSome=true→n∈as) (hr:Rel S c st g a w) :
 ∃g',Rel S c st' g' a w:=by
 have hfil:∀n∈as.filter (λn=>match c8 n st'.ar with|some A=>A.sealed&&!A.dead|none=>false),∃A A',c8 n st.ar=some A∧c8 n st'.ar=some A'∧A'.sealed=true∧A.dead=false∧((A'=A)∨(A'={A with sealed:=true}∧n≠MA)):=by
  intro n hn;rw[yaE]at hn;have hn2:=hn.2;split at hn2
  ·rename_i A' hA';obtain ⟨A,hA,hs⟩:=h.ar n A' hA';rw[yae,yan]at hn2;rcases hs with ⟨h1,h2⟩|⟨h1,rfl⟩
   ·exact ⟨A,A',hA,hA',hn2.1,h1,h2⟩
   ·rw[h1]at hn2;cases hn2.2
  ·cases hn2
 obtain ⟨g2,st2,r2,e1,e2,e3⟩:=hr.sealSome sgk (st':=st') (as.filter (λn=>match c8 n st'.ar with|some A=>A.sealed&&!A.dead|none=>false)) (λn hn=>by
  obtain ⟨A,A',hA,-,hse,hs⟩:=hfil n hn;refine ⟨λe=>?_,A,hA,hs.1⟩;rcases hs.2 with h2|h2
  ·rw[h2,((hr.ar n A hA).own e).2]at hse;cases hse
  ·exact h2.2 e)
 have hlk:∀n,c8 n st2.ar=c8 n st'.ar:=by
  intro n;rw[e3];split
  ·rename_i hn;obtain ⟨A,A',hA,hA',hse,hs⟩:=hfil n hn;rw[hA,hA'];rcases hs.2 with rfl|⟨rfl,-⟩
   ·obtain ⟨Ak,Axs,Av,As,Ad⟩:=A';simp only at hse;subst hse;rfl
   ·rfl
  ·rename_i hn;cases hA':c8 n st'.ar with
   |none=>
    cases hA:c8 n st.ar with
    |none=>rfl
    |some A=>
     have:=h.an n (ha n (by rw[hA];rfl));rw[hA']at this;cases this
   |some A'=>
    obtain ⟨A,hA,hs⟩:=h.ar n A' hA';rw[hA];rcases (show A'=A∨(A.dead=false∧A'={A with sealed:=true}) from hs.elim (λh=>h.2.imp id λq=>⟨h.1,q.1⟩) λh=>.inl h.2) with e|⟨hdd,e⟩
    ·rw[e]
    ·exfalso;apply hn;rw[yaE];exact ⟨ha n (by rw[hA];rfl),by rw[hA'];rw[e];simp[hdd]⟩
 refine ⟨g2,{r2 with env:=λs d hs=>?_,bx:=λb cs hb'=>?_,bd:=λb blk hb'=>?_,ar:=λn A hn=>r2.ar n A (by rw[hlk];exact hn),ad:=λn hn=>by rw[←hlk];exact r2.ad n hn}⟩
 ·obtain ⟨d0,h1,h2⟩:=h.env s d hs;exact h2.vr (r2.env s d0 (by rw[e1];exact h1))
 ·obtain ⟨cs0,h1,h2⟩:=h.bx b cs hb';obtain ⟨blk,f1,f2,f3,f4⟩:=r2.bx b cs0 (by rw[e2];exact h1);exact ⟨blk,f1,f2,f3,h2.box f4⟩
 ·obtain ⟨cs,hcs⟩:=r2.bd b blk hb';rw[e2]at hcs;exact yb0.1 (h.bn b (hb b (by rw[hcs];rfl)))
def b4k {γ:Type} {l:List (Nat×γ)} {ns:List Nat} {b:Nat} (h:(c8 b (a5l l ns)).isSome=true):b∈ns:=by
 rw[a3u]at h;split at h
 ·assumption
 ·cases h
def b5e {ss bs as:List Nat} {st1:St κ El} (h:c9c ss bs as st=some st1):(∀b,(c8 b st1.bx).isSome=true→b∈bs)∧(∀n,(c8 n st1.ar).isSome=true→n∈as):=by
 unfold c9c at h;simp only[d7]at h;split at h
 ·cases h;exact ⟨λb h=>b4k h,λn h=>b4k h⟩
 ·cases h
def c1t {st st1:St κ El} {b o m:Nat} {kd:κ} (h:c1s st b o m kd=some st1):(∀b',(c8 b' st1.bx).isSome=(c8 b' st.bx).isSome)∧∀n,(c8 n st1.ar).isSome=true→(c8 n st.ar).isSome=true∨m=n:=by
 unfold c1s at h;split at h
 rotate_left
 ·cases h
 rename_i cs hcs;split at h
 ·split at h
  ·cases h
   refine ⟨λb'=>?_,λn hn=>?_⟩
   ·show (c8 b' (a1z b _ st.bx)).isSome=_
    rw[c6 hcs];split
    ·rename_i e;rw[e,hcs];rfl
    ·rfl
   ·replace hn:(c8 n ((m,(⟨kd,[],0,false,false⟩:Ar κ El))::st.ar)).isSome=true:=hn;rw[e8]at hn;split at hn
    ·rename_i e;exact .inr e.symm
    ·exact .inl hn
  ·cases h
 ·rw[d7]at h;split at h
  ·cases h;exact ⟨λ_=>rfl,λn h=>.inl h⟩
  ·cases h
 ·cases h
def c9q:∀{ta:List (Nat×Nat×κ)} {st st1:St κ El},c50 st ta=some st1→(∀b,(c8 b st1.bx).isSome=(c8 b st.bx).isSome)∧∀n,(c8 n st1.ar).isSome=true→(c8 n st.ar).isSome=true∨∃t∈ta,t.2.1=n:=by
 intro ta
 induction ta with
 |nil=>intro st st1 h;cases h;exact ⟨λ_=>rfl,λn h=>.inl h⟩
 |cons t ta ih=>
  obtain ⟨s,m,kd⟩:=t;intro st st1 h;simp only[c50]at h;rw[d7]at h;split at h
  ·split at h
   ·rename_i st2 h2;obtain ⟨h1,h3⟩:=ih h;obtain ⟨h4,h5⟩:=c1t h2;refine ⟨λb=>(h1 b).trans (h4 b),λn hn=>?_⟩;rcases h3 n hn with h6|⟨t,ht,h6⟩
    ·rcases h5 n h6 with h7|h7
     ·exact .inl h7
     ·exact .inr ⟨_,yaK ..,h7⟩
    ·exact .inr ⟨t,by simp[ht],h6⟩
   ·cases h
  split at h
  ·split at h
   ·obtain ⟨h1,h2⟩:=ih h;refine ⟨h1,λn hn=>?_⟩;rcases h2 n hn with h3|⟨t,ht,h3⟩
    ·replace h3:(c8 n ((m,(⟨kd,[],0,false,false⟩:Ar κ El))::st.ar)).isSome=true:=h3;rw[e8]at h3;split at h3
     ·rename_i e;exact .inr ⟨_,yaK ..,e.symm⟩
     ·exact .inl h3
    ·exact .inr ⟨t,by simp[ht],h3⟩
   ·cases h
  ·rw[d7]at h;split at h
   ·obtain ⟨h1,h2⟩:=ih h;exact ⟨h1,λn hn=>(h2 n hn).imp id (λ⟨t,ht,h3⟩=>⟨t,by simp[ht],h3⟩)⟩
   ·cases h
  ·cases h
def c9d:∀{l:List Nat} {st st1:St κ El},d6k st l=some st1→st1.bx=st.bx∧∀n,(c8 n st1.ar).isSome=true→(c8 n st.ar).isSome=true:=by
 intro l
 induction l with
 |nil=>intro st st1 h;cases h;exact ⟨rfl,λn h=>h⟩
 |cons m l ih=>
  intro st st1 h;simp only[d6k]at h;split at h
  ·rename_i A hA;rw[d7]at h;split at h
   ·cases h
   ·obtain ⟨h1,h2⟩:=ih h;refine ⟨h1,λn hn=>?_⟩;have h3:=h2 n hn;replace h3:(c8 n (a1z m {A with sealed:=true} st.ar)).isSome=true:=h3;rw[c6 hA]at h3;split at h3
    ·rename_i e;rw[e,hA];rfl
    ·exact h3
  ·cases h
def c86:∀{l:List Nat} {st st1:St κ El},c84 st l=some st1→(∀b,(c8 b st1.bx).isSome=true→(c8 b st.bx).isSome=true)∧∀n,(c8 n st1.ar).isSome=true→(c8 n st.ar).isSome=true:=by
 intro l
 induction l with
 |nil=>intro st st1 h;cases h;exact ⟨λn h=>h,λn h=>h⟩
 |cons m l ih=>
  intro st st1 h;simp only[c84]at h;split at h
  ·rename_i A hA;split at h
   ·rename_i env bx hd he hb;obtain ⟨h1,h2⟩:=ih h;refine ⟨λb hb'=>?_,λn hn=>?_⟩
    ·rw[←(c04 hb).1 b];exact h1 b hb'
    ·have h3:=h2 n hn;replace h3:(c8 n (a1z m {A with ver:=0} st.ar)).isSome=true:=h3;rw[c6 hA]at h3;split at h3
     ·rename_i e;rw[e,hA];rfl
     ·exact h3
   ·rw[d7]at h;split at h
    ·exact ih h
    ·cases h
   ·cases h
  ·cases h
def c73 {ta:List (Nat×Nat×κ)} {se ss bs as:List Nat} {st1:St κ El} (h:e2j ta se ss bs as st=some st1) (hta:∀t∈ta,t.2.1∈as) :
 (∀b,(c8 b st1.bx).isSome=true→b∈bs)∧(∀n,(c8 n st1.ar).isSome=true→n∈as):=by
 unfold e2j at h;split at h
 ·rename_i st2 h2;split at h
  ·rename_i st3 h3;split at h
   ·rename_i st4 h4;obtain ⟨a1,a2⟩:=b5e h2;obtain ⟨b1,b2⟩:=c9q h3;obtain ⟨c1,c2⟩:=c9d h4;obtain ⟨d1,d2⟩:=c86 h;refine ⟨λb hb=>a1 b (by rw[←b1 b,←c1];exact d1 b hb),λn hn=>?_⟩;rcases b2 n (c2 n (d2 n hn)) with h5|⟨t,ht,h5⟩
    ·exact a2 n h5
    ·rw[←h5];exact hta t ht
   ·cases h
  ·cases h
 ·cases h
def b6b (m:Nat) (ta:List (Nat×Nat×κ)) (bs as fbs fas:List Nat):Bool:=
 ta.all (λt=>as.any (Nat.beq t.2.1))&&(bs.all (λb=>fbs.any (Nat.beq b))&&(as.all (λn=>fas.any (Nat.beq n))&&(bif Nat.beq m MA then as.any (Nat.beq MA) else Nat.ble m 1000&&(List.range m).all (λj=>bs.any (Nat.beq (MB+j))))))
def b64 {m:Nat} {ta:List (Nat×Nat×κ)} {bs as fbs fas:List Nat} (h:b6b m ta bs as fbs fas=true) :
 (∀t∈ta,t.2.1∈as)∧(∀b∈bs,b∈fbs)∧(∀n∈as,n∈fas)∧∀c:Cx,c.ar=m→(∀j,j<c.mb.length→MB+j∈bs)∧(c.pv≠none→MA∈as):=by
 unfold b6b at h;simp only[yae]at h;refine ⟨λt ht=>a3g.1 (yaj.1 h.1 t ht),λb hb=>a3g.1 (yaj.1 h.2.1 b hb),λn hn=>a3g.1 (yaj.1 h.2.2.1 n hn),
  λc hc=>?_⟩
 have h4:=h.2.2.2;rw[d7]at h4;split at h4
 ·rename_i hm;rw[yaS]at hm;subst hm;have hb:=(Cx.ar_own hc).2;exact ⟨λj hj=>(by rw[hb]at hj;cases hj),λ_=>a3g.1 h4⟩
 ·rw[yae,Nat.ble_eq]at h4;obtain ⟨h5,h6⟩:=Cx.ar_box hc (Nat.lt_of_le_of_lt h4.1 (by decide));exact ⟨λj hj=>a3g.1 (yaj.1 h4.2 j (by simpa[h6]using hj)),λhp=>absurd h5 hp⟩
def d9w (sgk:SgOk S) {d d':D κ El} {st':St κ El} (h:d9v st d=some (st',d')) (hr:Rel S c st g a w) :
 ∃g',Rel S c st' g' a w∧Le w g w g'∧st'.env=st.env∧st'.bx=st.bx∧(∀v,VR S w g v d→VR S w g' v d'):=by
 unfold d9v at h;split at h
 ·rename_i cs;split at h
  ·rename_i s1 cs1 h1;cases h
   obtain ⟨g1,r1,l1,b1,e1,x1,n1,v1⟩:=a0y sgk h1 hr;refine ⟨g1,r1,l1,e1,x1,λv hv=>?_⟩;obtain ⟨vs,rfl,hs,hall⟩:=hv.agg_inv;refine .agg vs cs1 (by rw[hs,n1]) (λi v d e2 e3=>?_);have hi:i<cs.length:=by rw[←n1];exact (zL e3)
   obtain ⟨d2,h3,h4⟩:=v1 i _ (yab hi);rw[e3]at h3;cases h3
   exact .data (h4 v (hall i v _ e2 (yab hi)))
  ·cases h
 ·cases h;exact ⟨g,hr,.refl w g,rfl,rfl,λv hv=>hv⟩
 ·obtain ⟨g1,r1,l1,b1,e1,x1,v1⟩:=a6h sgk h hr;exact ⟨g1,r1,l1,e1,x1,λv hv=>.data (v1 v hv)⟩
def g57 (s:Nat) (hr:Rel S c st g a w):Rel S c (h4f st s) g a w∧(h4f st s).bx=st.bx:=by
 unfold h4f;split
 ·rename_i cs hs;refine ⟨{hr with env:=λs0 d0 h0=>?_},rfl⟩;replace h0:c8 s0 ((s,.agg (cs.map (h5o st.ar)))::st.env)=some d0:=h0;rw[e8]at h0;split at h0
  ·rename_i e;subst e;cases h0
   obtain ⟨vs,h1,h2,h3⟩:=(hr.env s0 _ hs).agg_inv;rw[h1];refine .agg vs _ (by rw[h2,ybn]) (λi v d e1 e2=>?_);rw[yaO,yaT]at e2;obtain ⟨x,hx,rfl⟩:=e2;have hv:=h3 i v x e1 hx;unfold h5o;split
   ·split
    ·rw[d7];split
     ·exact .undef _
     ·exact hv
    ·exact .undef _
   ·exact hv
  ·exact hr.env s0 d0 h0
 ·exact ⟨hr,rfl⟩
def b3i (sgk:SgOk S):∀{l:List Nat} {st st1:St κ El} {g:Gh},a77 st l=some st1→Rel S c st g a w→(∃g',Rel S c st1 g' a w)∧st1.bx=st.bx:=by
 intro l
 induction l with
 |nil=>intro st st1 g h hr;cases h;exact ⟨⟨g,hr⟩,rfl⟩
 |cons s l ih=>
  intro st st1 g h hr;simp only[a77]at h;rw[d7]at h;split at h
  ·obtain ⟨r2,e2⟩:=g57 (s-200000) hr;obtain ⟨h2,h3⟩:=ih h r2;exact ⟨h2,h3.trans e2⟩
  split at h
  ·rename_i d hd;split at h
   ·rename_i s1 d1 h1;obtain ⟨g1,r1,l1,e1,x1,v1⟩:=d9w sgk h1 hr;have r2:Rel S c {s1 with env:=(s,d1)::s1.env} g1 a w:=by
     refine {r1 with env:=λs0 d0 h0=>?_};replace h0:c8 s0 ((s,d1)::s1.env)=some d0:=h0;rw[e8]at h0;split at h0
     ·rename_i e;subst e;cases h0
      exact v1 _ (hr.env s0 d hd)
     ·exact r1.env s0 d0 h0
    obtain ⟨h2,h3⟩:=ih h r2;exact ⟨h2,h3.trans x1⟩
   ·cases h
  ·cases h
def g2x (sgk:SgOk S) {m:Nat} {ta:List (Nat×Nat×κ)} {se ss bs as:List Nat} {fc:FC κ El α} (hf:a4r fc) (hh:b6b m ta bs as fc.bs fc.as=true) :
 ∀st st1 x,g6n ta se ss bs as st=some st1→fc.dec st1=some x→c9v P S m st (fc.enc x):=by
 intro st st1 x h hd c g a w hr hm;obtain ⟨k1,k2,k3,k4⟩:=b64 hh;unfold g6n at h;split at h
 rotate_left
 ·cases h
 rename_i st0 h0;obtain ⟨⟨g0,r0⟩,-⟩:=b3i sgk h0 hr;obtain ⟨g1,r1⟩:=f0m sgk h r0 (k4 c hm);obtain ⟨n1,n2⟩:=c73 h k1;exact (hf _ _ hd).rel sgk (λb hb=>k2 b (n1 b hb)) (λn hn=>k3 n (n2 n hn)) r1
def c65 (sgk:SgOk S):∀{l:List Nat} {st st1:St κ El} {g:Gh},b13 st l=some st1→Rel S c st g a w→∃g',Rel S c st1 g' a w:=by
 intro l
 induction l with
 |nil=>intro st st1 g h hr;cases h;exact ⟨g,hr⟩
 |cons b l ih=>
  intro st st1 g h hr;simp only[b13]at h;split at h
  ·rename_i cs hb;split at h
   ·rename_i s1 cs1 h1;obtain ⟨g1,r1,l1,b1,e1,x1,n1,v1⟩:=a0y sgk h1 hr;have hb1:c8 b s1.bx=some cs:=by rw[x1];exact hb
    refine ih h (g:=g1) {r1 with bx:=λb0 cs0 h0=>?_,bd:=λb0 blk h0=>?_}
    ·replace h0:c8 b0 (a1z b cs1 s1.bx)=some cs0:=h0;rw[c6 hb1]at h0;split at h0
     ·rename_i e;subst e;cases h0
      obtain ⟨blk,f1,f2,f3,vals,t,f4,f5,f6⟩:=r1.bx b0 cs hb1;obtain ⟨blk0,q1,q2,q3,vals0,t0,q4,q5,q6⟩:=hr.bx b0 cs hb;have eb:blk0=blk:=by rw[b1]at f1;rw[f1]at q1;cases q1;rfl
      subst eb;rw[q4]at f4;cases f4
      refine ⟨blk0,f1,f2,f3,vals,t,q4,by rw[q5,n1],λi v d k1 k2=>?_⟩;have hi:i<cs.length:=by rw[←n1];exact (zL k2)
      obtain ⟨d2,h3,h4⟩:=v1 i _ (yab hi);rw[k2]at h3;cases h3
      exact .data (h4 v (q6 i v _ k1 (yab hi)))
     ·exact r1.bx b0 cs0 h0
    ·obtain ⟨cs0,hcs0⟩:=r1.bd b0 blk h0;show ∃cs,c8 b0 (a1z b cs1 s1.bx)=some cs
     rw[c6 hb1];split
     ·exact ⟨_,rfl⟩
     ·exact ⟨_,hcs0⟩
   ·cases h
  ·cases h
def d5m (sgk:SgOk S) {m:Nat} {rs ps bs:List Nat} {fc:FC κ El α} (hf:a4r fc) (hh:b6b (κ:=κ) m [] bs [] fc.bs fc.as=true) :
 ∀st st1 x,c0u rs ps bs st=some st1→fc.dec st1=some x→c9v P S m st (fc.enc x):=by
 intro st st1 x h hd c g a w hr hm;obtain ⟨k1,k2,k3,k4⟩:=b64 hh;unfold c0u at h;split at h
 ·rename_i s1 h1;split at h
  ·rename_i s2 h2;obtain ⟨⟨g1,r1⟩,-⟩:=b3i sgk h1 hr;obtain ⟨g2,r2⟩:=c65 sgk h2 r1;obtain ⟨g3,r3⟩:=b2g h r2 (k4 c hm);obtain ⟨n1,n2⟩:=b5e h;exact (hf _ _ hd).rel sgk (λb hb=>k2 b (n1 b hb)) (λn hn=>k3 n (n2 n hn)) r3
  ·cases h
 ·cases h
def a7s {m:Nat} {pr:St κ El→Option (St κ El)} {fc:FC κ El α} {k:α→β} {b:β} (hp:∀st st1 x,pr st=some st1→fc.dec st1=some x→c9v P S m st (fc.enc x)) (h:b4h pr fc st k=some b) :
 ∃x,b=k x∧c9v P S m st (fc.enc x):=by
 unfold b4h at h;split at h
 ·rename_i st1 h1;split at h
  ·rename_i x h2;cases h;exact ⟨x,rfl,hp _ _ _ h1 h2⟩
  ·cases h
 ·cases h
end
end
section
def a68.mono {nt nt':Nat} (hle:nt≤nt'):∀{c:Code},a68 nt c→a68 nt' c:=by
 intro c
 induction c with
 |region id ops draw=>intro h o ho t ht;exact yaQ (h o ho t ht) hle
 |seq a b iha ihb=>intro h;exact ⟨iha h.1,ihb h.2⟩
 |cond c a b iha ihb=>intro h;exact ⟨iha h.1,ihb h.2⟩
 |block id c ih=>intro h;exact ih h
 |loop c ih=>intro h;exact ih h
 |scope c ih=>intro h;exact ih h
 |_=>intro _;trivial
structure FnOk (P:Program) (f:Nat) (fn:Func) (code:Code):Prop where
 at_:P.funcs[f]?=some fn
 name:(fn.name == "runtime.NumGoroutine")=false
 body:fn.body=some code
 dst:a68 fn.ntmps code
def a7q:List Nat→Bool
 | []=>true
 |n::l=>!l.any (Nat.beq n)&&a7q l
def a91 {fn:Func} {code:Code} (hb:fn.body=some code) (hn:a7q ((j6 code).map m9)=true):∀b∈j6 code,a08 fn (m9 b)=b:=by
 intro b hm;have key:∀{l:List Code},a7q (l.map m9)=true→∀b∈l,(l.find? λc=>Nat.beq (m9 c) (m9 b))=some b:=by
  intro l
  induction l with
  |nil=>intro _ b h;cases h
  |cons c l ih=>
   intro hn b hb;simp only[ybu,a7q,yae,yan]at hn;rw[List.find?_cons];rcases yaM.1 hb with rfl|hb
   ·simp[a82]
   ·have hne:Nat.beq (m9 c) (m9 b)=false:=by
     cases h:Nat.beq (m9 c) (m9 b) with
     |false=>rfl
     |true=>
      have:=ybL.1 hn.1 (m9 b) (ybe.2 ⟨b,hb,rfl⟩);exact absurd h this
    rw[hne];exact ih hn.2 b hb
 unfold a08;simp only[hb,key hn b hm]
section
variable {κ:Type} {El:κ→Type} {S:Sg κ El} {P:Program}
variable {c:Cx} {st:St κ El} {g:Gh} {a:Act} {w:World}
def g55 {t:TypeId} {v0 v:Value} (h:(Instr.loadAt t v0).run P w=.ok v w):(do loadVar t (←asAddr v0):Sem Value).run P w=.ok v w:=by
 unfold Instr.loadAt at h;cases v0 with
 |pointer a=>
  cases a with
  |some a=>exact h
  |none=>exact absurd h (by simp[Instr.sureAddr,stuck])
 |_=>exact absurd h (by simp[Instr.sureAddr,stuck])
def b8r (tmps:Array Value):ResultVar→Sem Value
 |.tmp t=>pure (tmps.getD t undef)
 |.cell a t=>do loadVar t (←asAddr (tmps.getD a undef))
def c5n (ok:PrOk P) (sgk:SgOk S) {rv:ResultVar} {d:D κ El} (h:c5m P S st rv=some d) (hr:Rel S c st g a w) :
 ∃v,(b8r a.tmps rv).run P w=.ok v w∧VR S w g v d:=by
 cases rv with
 |tmp t=>
  simp only[c5m,yam]at h;subst h;exact ⟨_,rfl,hr.opd (.tmp t)⟩
 |cell p t=>
  simp only[c5m]at h;obtain ⟨d',hd,hl⟩:=d17 ok sgk h;cases hd
  obtain ⟨v,h1,h2⟩:=hl c g a w (a.tmps.getD p undef) hr (hr.opd (.tmp p));exact ⟨v,g55 h1,h2⟩
def LB (g:Gh) (b o:Nat):Prop:=∃n,n<MB∧g.bl n=some b
def b3f {st':St κ El} {d d':D κ El} (h:a1b st d=some (st',d')):noC.noCl d'=true∧noC d'=true:=by
 unfold a1b at h;split at h
 case h_7=>
  split at h
  ·rw[d7]at h;split at h
   ·cases h;exact ⟨rfl,rfl⟩
   ·cases h
  ·cases h
 case h_8=>cases h
 all_goals (cases h;exact ⟨rfl,rfl⟩)
def a5t:∀{cs cs':List (D κ El)} {st st':St κ El},a0k st cs=some (st',cs')→∀d∈cs',noC.noCl d=true:=by
 intro cs
 induction cs with
 |nil=>intro cs' st st' h d hd;cases h;cases hd
 |cons c cs ih=>
  intro cs' st st' h d hd;simp only[a0k]at h;split at h
  ·rename_i s1 d1 h1;split at h
   ·rename_i s2 cs2 h2;cases h
    rcases yaM.1 hd with rfl|hd
    ·exact (b3f h1).1
    ·exact ih h2 d hd
   ·cases h
  ·cases h
def b6y (sgk:SgOk S) {d d':D κ El} {st':St κ El} (hd:c5l.resC d=true) (h:a7d st d=some (st',d')) (hr:Rel S c st g a w) :
 ∃g',Rel S c st' g' a w∧Le w g w g'∧g'.bl=g.bl∧st'.env=st.env∧st'.bx=st.bx∧(∀v,VR S w g v d→DR S w g'.I (LB g') v d'):=by
 unfold a7d at h;split at h
 ·rename_i cs;split at h
  ·rename_i st1 cs1 hd;cases h
   obtain ⟨g1,r1,l1,b1,e1,x1,n1,v1⟩:=a0y sgk hd hr;refine ⟨g1,r1,l1,b1,e1,x1,λv hv=>?_⟩;obtain ⟨vs,rfl,hl,hvs⟩:=hv.agg_inv;refine .agg vs cs1 (by rw[hl,n1]) (λi v d' hv' hd'=>?_);have hi:i<cs.length:=by rw[←n1];exact (zL hd')
   obtain ⟨d2,h2,h3⟩:=v1 i cs[i] (yab hi);rw[hd']at h2;cases h2
   exact (h3 v (hvs i v _ hv' (yab hi))).relendL sgk (a5t hd d' (yag hd'))
  ·cases h
 ·cases hd
 ·rename_i b off;split at h
  ·rename_i cs hb;split at h
   ·rename_i st1 cs1 hdc;cases h
    obtain ⟨g1,r1,l1,b1,e1,x1,n1,v1⟩:=a0y sgk hdc hr;refine ⟨g1,r1,l1,b1,e1,x1,λv hv=>?_⟩;obtain ⟨blk,rfl,hbl⟩:=hv.ptr_inv;obtain ⟨blk',hbl',_,_,vals,t,hh,hs,hvals⟩:=hr.bx b cs hb;rw[hbl]at hbl';cases hbl'
    have hbm:b<MB:=by
     simp only[c5l.resC,yan]at hd;rcases ybv b MB with h|h
     ·exact h
     ·rw[Nat.ble_eq_true_of_le h]at hd;cases hd
    have key:DR S w g1.I (LB g1) (.pointer (some ⟨blk,0+off,none⟩)) (.cptr cs1 off):=by
     refine .cptr blk 0 cs1 off (λj=>vals.getD j undef) (λj hj=>?_) (λj d' hd'=>?_)
     ·have hj':j<vals.size:=by rw[hs,←n1];exact hj
      refine ⟨by simp[World.cell?,hh,hj'],⟨b,hbm,by rw[b1];simpa using hbl⟩⟩
     ·have hi:j<cs.length:=by rw[←n1];exact (zL hd')
      have hi':j<vals.size:=by rw[hs];exact hi
      obtain ⟨d2,h2,h3⟩:=v1 j cs[j] (yab hi);rw[hd']at h2;cases h2
      exact (h3 _ (hvals j _ _ (by simp[hi']) (yab hi))).relendL sgk (a5t hdc d' (yag hd'))
    rwa [yaI]at key
   ·cases h
  ·cases h
 ·obtain ⟨g1,r1,l1,b1,e1,x1,v1⟩:=a6h sgk h hr;exact ⟨g1,r1,l1,b1,e1,x1,λv hv=>(v1 v hv).relend sgk (b3f h).2⟩
def LB.mono {g g':Gh} (hbl:g'.bl=g.bl) (H:Le w g w g') {v:Value} {d:D κ El} (h:DR S w g.I (LB g) v d):DR S w g'.I (LB g') v d:=
 h.mono H.I (λb o ⟨n,hn,hb⟩=>⟨rfl,n,hn,by rw[hbl];exact hb⟩)
def b3h (sgk:SgOk S):∀{cs cs':List (D κ El)} {st st':St κ El} {g:Gh},(∀d∈cs,c5l.resC d=true)→a58 st cs=some (st',cs')→Rel S c st g a w→
 ∃g',Rel S c st' g' a w∧Le w g w g'∧g'.bl=g.bl∧st'.env=st.env∧st'.bx=st.bx∧Dat S w g g' (LB g') cs cs':=by
 intro cs
 induction cs with
 |nil=>
  intro cs' st st' g hN h hr;cases h
  exact ⟨g,hr,.refl w g,rfl,rfl,rfl,rfl,λi d hd=>by simp at hd⟩
 |cons d cs ih=>
  intro cs' st st' g hN h hr;simp only[a58]at h;split at h
  ·rename_i st1 d1 hd1;split at h
   ·rename_i st2 cs2 hd2;cases h
    obtain ⟨g1,r1,l1,b1,e1,x1,v1⟩:=b6y sgk (hN d (by simp)) hd1 hr;obtain ⟨g2,r2,l2,b2,e2,x2,n2,v2⟩:=ih (λd' hd'=>hN d' (by simp[hd'])) hd2 r1;refine ⟨g2,r2,l1.trans l2,b2.trans b1,e2.trans e1,x2.trans x1,by simp[n2],λi d' hd'=>?_⟩;cases i with
    |zero=>
     simp only[yas,yam]at hd';subst hd';exact ⟨d1,rfl,λv hv=>LB.mono b2 l2 (v1 v hv)⟩
    |succ i=>
     simp only[yaL]at hd' ⊢;obtain ⟨d2,h2,h3⟩:=v2 i d' hd';exact ⟨d2,h2,λv hv=>h3 v (hv.mono l1)⟩
   ·cases h
  ·cases h
def b6v (sgk:SgOk S) {d d':D κ El} {st':St κ El} (hd:c5l d=true) (h:a6g st d=some (st',d')) (hr:Rel S c st g a w) :
 ∃g',Rel S c st' g' a w∧Le w g w g'∧g'.bl=g.bl∧st'.env=st.env∧st'.bx=st.bx∧(∀v,VR S w g v d→DR S w g'.I (LB g') v d'):=by
 unfold a6g at h;split at h
 ·rename_i f pre caps;unfold c5l at hd;rw[yae]at hd;split at h
  ·rename_i st1 pre1 hd1;split at h
   ·rename_i st2 caps1 hd2;cases h
    obtain ⟨g1,r1,l1,b1,e1,x1,n1,v1⟩:=b3h sgk (λd hm=>yaj.1 hd.1 d hm) hd1 hr;obtain ⟨g2,r2,l2,b2,e2,x2,n2,v2⟩:=b3h sgk (λd hm=>yaj.1 hd.2 d hm) hd2 r1;refine ⟨g2,r2,l1.trans l2,b2.trans b1,e2.trans e1,x2.trans x1,λv hv=>?_⟩;obtain ⟨p,cp,rfl,hp,hc,w1,w2⟩:=hv.fn_inv;refine .fn f p cp pre1 caps1 (by rw[hp,n1]) (by rw[hc,n2]) (λi v d e1 e2=>?_) (λi v d e1 e2=>?_)
    ·have hi:i<pre.length:=by rw[←n1];exact (zL e2)
     obtain ⟨d2,h3,h4⟩:=v1 i _ (yab hi);rw[e2]at h3;cases h3
     exact LB.mono b2 l2 (h4 v (w1 i v _ e1 (yab hi)))
    ·have hi:i<caps.length:=by rw[←n2];exact (zL e2)
     obtain ⟨d2,h3,h4⟩:=v2 i _ (yab hi);rw[e2]at h3;cases h3
     exact h4 v ((w2 i v _ e1 (yab hi)).mono l1)
   ·cases h
  ·cases h
 ·rename_i hne;refine b6y sgk ?_ h hr;cases d<;>first|rfl|(simp[c5l]at hd;done)|exact absurd rfl (hne _ _ _)
def e3o (ok:PrOk P) (sgk:SgOk S):∀{rs:List ResultVar} {ds:List (D κ El)} {st st':St κ El} {g:Gh},c5k P S st rs=some (st',ds)→Rel S c st g a w→
 ∃g' vs,Rel S c st' g' a w∧Le w g w g'∧g'.bl=g.bl∧st'.env=st.env∧st'.bx=st.bx∧(rs.mapM (b8r a.tmps)).run P w=.ok vs w∧vs.length=ds.length∧
  ∀(i:Nat) v d,vs[i]?=some v→ds[i]?=some d→DR S w g'.I (LB g') v d:=by
 intro rs
 induction rs with
 |nil=>
  intro ds st st' g h hr;cases h
  exact ⟨g,[],hr,.refl w g,rfl,rfl,rfl,rfl,rfl,λi v d h=>by simp at h⟩
 |cons rv rs ih=>
  intro ds st st' g h hr;simp only[c5k]at h;split at h
  ·rename_i d hd;rw[d7]at h;split at h
   ·rename_i hok;split at h
    ·rename_i st1 d1 h1;split at h
     ·rename_i st2 ds2 h2;cases h
      obtain ⟨v,e0,hv⟩:=c5n ok sgk hd hr;obtain ⟨g1,r1,l1,b1,e1,x1,v1⟩:=b6v sgk hok h1 hr;obtain ⟨g2,vs,r2,l2,b2,e2,x2,e3,hl,hall⟩:=ih h2 r1;refine ⟨g2,v::vs,r2,l1.trans l2,b2.trans b1,e2.trans e1,x2.trans x1,?_,by simp[hl],λi v' d' k1 k2=>?_⟩
      ·simp only[List.mapM_cons,Sem.run_bind,e0,e3,Sem.run_pure,Result.andThen_ok]
      ·cases i with
       |zero=>
        simp only[yas,yam]at k1 k2;subst k1 k2;exact LB.mono b2 l2 (v1 v hv)
       |succ i=>exact hall i v' d' (by simpa using k1) (by simpa using k2)
     ·cases h
    ·cases h
   ·cases h
  ·cases h
def d6h (fn:Func) (tmps:Array Value):results fn tmps=(fn.results.mapM (b8r tmps) >>= λvs=>pure (if h:vs.size=1 then vs[0] else .tuple vs)):=by
 unfold results;have e:(fun | .tmp t=>pure (tmps.getD t undef) | .cell p t=>do loadVar t (←asAddr (tmps.getD p undef)):ResultVar→Sem Value)=b8r tmps:=funext λrv=>by cases rv<;>rfl
 rw[←e];rfl
def h43:List Value→Value
 | [v]=>v
 |vs=>.tuple vs.toArray
def a61 {fn:Func} {vs:List Value} (h:(fn.results.toList.mapM (b8r a.tmps)).run P w=.ok vs w) :
 (results fn a.tmps).run P w=.ok (h43 vs) w:=by
 rw[d6h,Sem.run_bind,Array.mapM_eq_mapM_toList,Sem.run_map,h];simp only[Result.andThen_ok,Sem.run_pure]
 match vs with
 | []=>rfl
 | [v]=>rfl
 |v::u::vs=>rfl
def d74 (sgk:SgOk S):∀{m j:Nat} {bs:List (List (D κ El))} {st:St κ El} {g:Gh},c1r st m j=some bs→Rel S c st g a w→
 ∃g' st',Rel S c st' g' a w∧Le w g w g'∧g'.bl=g.bl∧bs.length=m∧∀(i:Nat) cs,bs[i]?=some cs→∃blk,g.bl (MB+(j+i))=some blk∧d60 S w g'.I (LB g') blk cs:=by
 intro m
 induction m with
 |zero=>intro j bs st g h hr;cases h;exact ⟨g,st,hr,.refl w g,rfl,rfl,λi cs h=>by simp at h⟩
 |succ m ih=>
  intro j bs st g h hr;simp only[c1r]at h;split at h
  ·rename_i cs hb;split at h
   ·rename_i st1 cs1 h1;split at h
    ·rename_i l h2;cases h
     obtain ⟨g1,r1,l1,b1,e1,x1,n1,v1⟩:=a0y sgk h1 hr;obtain ⟨g2,st2,r2,l2,b2,hl,hall⟩:=ih h2 r1;refine ⟨g2,st2,r2,l1.trans l2,b2.trans b1,by simp[hl],λi cs' hi=>?_⟩;cases i with
     |zero=>
      simp only[yas,yam]at hi;subst hi;obtain ⟨blk,f1,f2,f3,vals,t,f4,f5,f6⟩:=hr.bx _ cs hb;refine ⟨blk,f1,vals,t,f4,by rw[f5,n1],λi v d k1 k2=>?_⟩;have hi:i<cs.length:=by rw[←n1];exact (zL k2)
      obtain ⟨d2,h3,h4⟩:=v1 i _ (yab hi);rw[k2]at h3;cases h3
      exact ((h4 v (f6 i v _ k1 (yab hi))).mono l2.I l2.J).relendL sgk (a5t h1 d (yag k2))
     |succ i=>
      obtain ⟨blk,f1,f2⟩:=hall i cs' (by simpa using hi);refine ⟨blk,?_,f2⟩;rw[←b1,show j+(i+1)=j+1+i by omega];exact f1
    ·cases h
   ·cases h
  ·cases h
def a7a (ds:List (D κ El)) (bs:List (List (D κ El))) (s:Nat):c8 s (enter ds bs).env=ds[s]?:=by
 have key:∀(l:List (D κ El)) (k s:Nat),c8 s ((l.zipIdx k).map (λp=>(p.2,p.1)))=if k≤s then l[s-k]? else none:=by
  intro l
  induction l with
  |nil=>intro k s;simp[c8]
  |cons x l ih=>
   intro k s;simp only[List.zipIdx_cons,ybu];rw[e8,ih];by_cases h:s=k
   ·subst h;simp
   ·rw[yap h];by_cases h2:k≤s
    ·rw[yaF (by omega),yaF h2,show s-k=(s-(k+1))+1 by omega,yaL]
    ·rw[yap (by omega),yap h2]
 have:=key ds 0 s;simpa[enter]using this
def a8o (ds:List (D κ El)) (bs:List (List (D κ El))) (s:Nat):c8 s (enter ds bs).bx=if MB≤s then bs[s-MB]? else none:=by
 have key:∀(l:List (List (D κ El))) (k s:Nat),c8 s ((l.zipIdx k).map (λp=>(MB+p.2,p.1)))=if MB+k≤s then l[s-(MB+k)]? else none:=by
  intro l
  induction l with
  |nil=>intro k s;simp[c8]
  |cons x l ih=>
   intro k s;simp only[List.zipIdx_cons,ybu];rw[e8,ih];by_cases h:s=MB+k
   ·subst h;simp
   ·rw[yap h];by_cases h2:MB+k≤s
    ·rw[yaF (by omega),yaF h2,show s-(MB+k)=(s-(MB+(k+1)))+1 by omega,yaL]
    ·rw[yap (by omega),yap h2]
 have:=key bs 0 s;simpa[enter]using this
def a9s (I J:Nat→Nat→Prop) (bls:List Nat):Gh where
 I:=I
 J:=J
 bl:=λn=>if MB≤n then bls[n-MB]? else none
 av:=λ_ _=>none
 vc:=λ_=>0
 ad:=λ_=>False
 az:=λ_=>0
 ow:=λb=>(bls.findIdx? (· == b)).map (λj=>.box (MB+j))
def c2q {I J:Nat→Nat→Prop} {bls:List Nat} {j:Nat}:(a9s I J bls).bl (MB+j)=bls[j]?:=by
 unfold a9s;simp only;generalize MB=M;rw[yaF (Nat.le_add_right _ _),ybS]
def f0j {I J:Nat→Nat→Prop} {bls:List Nat} (hn:bls.Nodup) {j blk:Nat} (h:bls[j]?=some blk):(a9s I J bls).ow blk=some (.box (MB+j)):=by
 obtain ⟨hj,rfl⟩:=yaA.1 h;have:bls.findIdx? (· == bls[j])=some j:=by
  rw[List.findIdx?_eq_some_iff_getElem];refine ⟨hj,by simp,λi hi=>?_⟩;have hne:bls[i]≠bls[j]:=λe=>by
   exact (ya3.1 hn) i j (by omega) hj hi e
  simpa using hne
 simp[a9s,this]
def Rel.enter {I J:Nat→Nat→Prop} {vs:Array Value} {ds:List (D κ El)} {bs:List (List (D κ El))} {bls:List Nat} {n:Nat} (hp:Pre S w I J bls) (hn:bls.Nodup) (hbl:bls.length=bs.length) (hvs:vs.size=ds.length)
 (ha:∀(i:Nat) v d,vs[i]?=some v→ds[i]?=some d→g6q S w I J bls v d) (hb:∀(j:Nat) blk cs,bls[j]?=some blk→bs[j]?=some cs→d60 S w I J blk cs) (hlt:∀b∈bls,b<w.heap.size) :
 Rel S ⟨w,bls,vs.size+(n-vs.size),I,J,[],none⟩ (Ev.enter ds bs) (a9s I J bls) {tmps:=vs++Array.replicate (n-vs.size) undef,defers:=[]} w where
 nt:=by simp
 df:=rfl
 env:=λs d hs=>by
  rw[a7a]at hs;have hlt:s<vs.size:=by rw[hvs];exact (zL hs)
  have e:(vs++Array.replicate (n-vs.size) undef).getD s undef=vs[s]:=by
   simp[ybG,Array.getElem?_append,hlt]
  show VR S w _ ((vs++Array.replicate (n-vs.size) undef).getD s undef) d
  rw[e];rcases ha s vs[s] d (yao hlt) hs with ⟨j,blk,off,rfl,h1,h2⟩|h1
  ·rw[h2];exact .ptr _ _ _ (by rw[c2q];exact h1)
  ·exact .data h1
 bx:=λb cs hs=>by
  rw[a8o]at hs;split at hs
  ·rename_i hm;have hlt:b-MB<bls.length:=by rw[hbl];exact (zL hs)
   have h1:bls[b-MB]?=some bls[b-MB]:=yab hlt;refine ⟨bls[b-MB],by simp only[a9s,yaF hm];exact h1,?_,λo hi=>?_,?_⟩
   ·rw[f0j hn h1,Nat.add_sub_cancel' hm]
   ·exact (hp.jb _ _ (hp.ij _ _ hi)).2 (ybB hlt)
   ·obtain ⟨vals,t,k1,k2,k3⟩:=hb _ _ _ h1 hs;exact ⟨vals,t,k1,k2,λi v d e1 e2=>.data (k3 i v d e1 e2)⟩
  ·cases hs
 bd:=λb blk hs=>by
  simp only[a9s]at hs;split at hs
  ·rename_i hm;have hlt:b-MB<bs.length:=by rw[←hbl];exact (zL hs)
   exact ⟨bs[b-MB],by rw[a8o,yaF hm];exact yab hlt⟩
  ·cases hs
 ar:=λn A h=>by cases h
 ad:=λn h=>by cases h
 ib:=hp.ib
 ol:=λb x h=>by
  simp only[a9s,yaT]at h;obtain ⟨j,hj,-⟩:=h;obtain ⟨h1,h2,-⟩:=List.findIdx?_eq_some_iff_getElem.1 hj;have:bls[j]=b:=by simpa using h2
  rw[←this];exact hlt _ (ybB h1)
 i0:=λ_ _ h=>h
 i1:=λ_ _ h=>.inl h
 ij:=hp.ij
 j0:=λ_ _ h=>h
 j1:=λ_ _ h=>.inr h
 jm:=λb o h=>⟨(hp.jb b o h).1,(hp.jb b o h).2,by simp⟩
 old:=λb _ hm _=>⟨rfl,by
  simp only[a9s,Option.map_eq_none_iff,List.findIdx?_eq_none_iff];intro x hx;simp;exact λe=>hm (e▸hx)⟩
 mb:=λj blk h=>by rw[c2q];exact h
 mo:=λb h=>by cases h
 pa:=λh=>absurd rfl h
 pn:=λv h=>absurd rfl h
 sz:=yav _
 os:=rfl
 out:=rfl
 tape:=rfl
 gl:=hp.gl
 gb:=λn k xs hg hx=>(hp.gb n k xs hg hx).imp_left (λh hm=>h (by simpa using hm))
def a7n (I J:Nat→Nat→Prop) (sz:Nat) (v0:Value) (mo:List Nat):Gh where
 I:=I
 J:=J
 bl:=λ_=>none
 av:=λn ver=>if n=MA then (if ver=0 then some v0 else none) else none
 vc:=λ_=>0
 ad:=λn=>n=MA
 az:=λ_=>sz
 ow:=λb=>if b∈mo then some (.arr MA) else none
def c1g (kd:κ) (xs:List (El kd)) (ds:List (D κ El)) (s:Nat):c8 s (enterA kd xs ds).env=(D.arr MA 0::ds)[s]?:=a7a (D.arr MA 0::ds) [] s
def Rel.enterA {I J:Nat→Nat→Prop} {vs:Array Value} {kd:κ} {xs:List (El kd)} {ds:List (D κ El)} {base:Option Addr} {cap:Nat} {mo:List Nat} {n:Nat} (hp:Pre S w I J mo) (hcap:xs.length≤cap)
 (ho:(cap=0∧mo=[])∨∃blk vals t,mo=[blk]∧base=some ⟨blk,0,none⟩∧w.heap[blk]?=some (.cells vals t (0,0))∧vals.size=cap*S.sz kd∧
  ∀i (hi:i<xs.length) j d,(S.enc kd xs[i])[j]?=some d→∃v,vals[i*S.sz kd+j]?=some v∧DR S w I J v d) (ha:b50 S w I J vs ds) :
 Rel S ⟨w,[],(#[Value.slice base xs.length cap]++vs).size+(n-(#[Value.slice base xs.length cap]++vs).size),I,J,mo,some (.slice base xs.length cap)⟩ (Ev.enterA kd xs ds) (a7n I J (S.sz kd) (.slice base xs.length cap) mo)
  {tmps:=(#[Value.slice base xs.length cap]++vs)++Array.replicate (n-(#[Value.slice base xs.length cap]++vs).size) undef,defers:=[]} w where
 nt:=by simp only[Array.size_append,Array.size_replicate]
 df:=rfl
 env:=λs d hs=>by
  rw[c1g]at hs;obtain ⟨us,hus⟩:∃us,us=(#[Value.slice base xs.length cap]++vs):=⟨_,rfl⟩
  have hlt:s<us.size:=by
   have:=(zL hs)
   rw[hus];simp only[yaR]at this;have:=ha.1;simp;omega
  show VR S w _ (((#[Value.slice base xs.length cap]++vs)++Array.replicate (n-(#[Value.slice base xs.length cap]++vs).size) undef).getD s undef) d
  rw[←hus];have e:(us++Array.replicate (n-us.size) undef).getD s undef=us[s]:=by
   simp[ybG,Array.getElem?_append,hlt]
  rw[e];have h1:us[s]?=some us[s]:=yao hlt;cases s with
  |zero=>
   simp only[yas,yam]at hs;subst hs;have e0:us[0]?=some (.slice base xs.length cap):=by rw[hus,ybJ (by simp)];rfl
   rw[h1]at e0;rw[ybi e0];refine .slc base xs.length cap MA 0 rfl (yav _) (λv' hv=>?_);replace hv:(if MA=MA then (if (0:Nat)=0 then some (Value.slice base xs.length cap) else none) else none)=some v':=hv;rw[yaF rfl,yaF rfl]at hv;exact ybi hv
  |succ s=>
   simp only[yaL]at hs;have e1:us[s+1]?=vs[s]?:=by rw[hus,ybT (by simp)];simp
   rw[h1]at e1;exact .data (ha.2 s _ d e1.symm hs)
 bx:=λb cs hs=>by cases hs
 bd:=λb blk hs=>by cases hs
 ar:=λm A h=>by
  replace h:c8 m [(MA,(⟨kd,xs,0,false,false⟩:Ar κ El))]=some A:=h;rw[e8]at h;split at h
  ·rename_i e;subst e;cases h
   refine ⟨rfl,rfl,rfl,λ_=>⟨base,cap,by simp[a7n],hcap,?_⟩,λver v hv=>?_,λ_=>⟨rfl,rfl⟩,λh=>(by cases h)⟩
   ·rcases ho with ⟨h0,-⟩|⟨blk,vals,t,hmo,hb,hh,hs,hel⟩
    ·exact .inl h0
    ·refine .inr ⟨blk,vals,t,hb,hh,hs,by simp[a7n,hmo],λo hi=>?_,λhf=>(by cases hf),hel⟩;exact absurd (by rw[hmo];simp) (hp.jb blk o (hp.ij blk o hi)).2
   ·simp only[a7n,ybD]at hv;split at hv
    ·rename_i e;exact ⟨e,.inl rfl⟩
    ·cases hv
  ·cases h
 ad:=λm h=>by
  replace h:m=MA:=h;exact ⟨⟨kd,xs,0,false,false⟩,by rw[h];show c8 MA [(MA,_)]=_;rw[e8,yaF rfl]⟩
 ib:=hp.ib
 ol:=λb x h=>by
  simp only[a7n]at h;split at h
  ·rename_i hm;rcases ho with ⟨-,h0⟩|⟨blk,vals,t,hmo,hb,hh,hs,hel⟩
   ·rw[h0]at hm;cases hm
   ·rw[hmo]at hm;simp only[yba]at hm;subst hm;exact (yah.1 hh).1
  ·cases h
 i0:=λ_ _ h=>h
 i1:=λ_ _ h=>.inl h
 ij:=hp.ij
 j0:=λ_ _ h=>h
 j1:=λ_ _ h=>.inr h
 jm:=λb o h=>⟨(hp.jb b o h).1,by simp,(hp.jb b o h).2⟩
 old:=λb _ _ hm=>⟨rfl,by simp only[a7n];rw[yap hm]⟩
 mb:=λj blk h=>by simp at h
 mo:=λb hb=>by simp only[a7n];rw[yaF hb]
 pa:=λ_=>rfl
 pn:=λv _ hv=>by simpa[a7n]using hv
 sz:=yav _
 os:=rfl
 out:=rfl
 tape:=rfl
 gl:=hp.gl
 gb:=λn k xs hg hx=>(hp.gb n k xs hg hx).imp_left (λh hm=>h (by simpa using hm))
end
end
section
section
variable {κ:Type} {El:κ→Type} {S:Sg κ El} {P:Program}
variable [KdEq κ]
def i6 (P:Program) (S:Sg κ El) (m:Nat) (fn:Func) (loops:{R:Type}→Nat→St κ El→(Ex→St κ El→Option R)→Option R) (id:Nat):Prop:=
 ∀nt,fn.ntmps≤nt→c9u P S nt m fn @loops id
def Rel.final {c:Cx} {st:St κ El} {g:Gh} {a:Act} {w:World} (hr:Rel S c st g a w) (hmo:c.mo=[]):GrowM c.mb c.w0 w c.I0 (λb o=>g.I b o∨LB g b o) where
 size:=hr.sz
 os:=hr.os
 out:=hr.out
 tape:=hr.tape
 keep:=λb hb hm=>(hr.old b hb hm (by rw[hmo];simp)).1
 hI:=λb o hi=>.inl (hr.i0 b o hi)
 new:=λb o hi=>by
  rcases hi with hi|⟨n,hn,hb⟩
  ·exact hr.i1 b o hi
  ·rcases ybv b c.w0.heap.size with hlt|hge
   ·exfalso;have how:=hr.bx_ow hb;by_cases hm:b∈c.mb
    ·obtain ⟨j,hj⟩:=yaw hm;have h2:=hr.bx_ow (hr.mb j b hj);rw[how]at h2;cases h2
     exact absurd hn (by omega)
    ·rw[(hr.old b hlt hm (by rw[hmo];simp)).2]at how;cases how
   ·exact .inr hge
 ib:=λb o hi=>by
  rcases hi with hi|⟨n,hn,hb⟩
  ·exact hr.ib b o hi
  ·exact hr.bx_lt hb
def DR.fin {w:World} {g:Gh} {v:Value} {d:D κ El} (h:DR S w g.I (LB g) v d):DR S w (λb o=>g.I b o∨LB g b o) (λb o=>g.I b o∨LB g b o) v d:=
 h.mono (λb o hi=>⟨rfl,.inl hi⟩) (λb o hj=>⟨rfl,.inr hj⟩)
def d0a {f:Nat} {fn:Func} {code:Code} {loops:{R:Type}→Nat→St κ El→(Ex→St κ El→Option R)→Option R} (G:GoodP P S) (hmix:P.follows .mixedOrders=true) (fok:FnOk P f fn code)
 {R:Type} {r:R} {call:Nat→List (D κ El)→List (List (D κ El))→(D κ El→List (List (D κ El))→Option R)→Option R} (cn:z7 call) (cok:a02 P S call)
 {st0:St κ El} {m:Nat} (hl:∀b∈j6 code,a08 fn (m9 b)=b∧i6 P S m fn @loops (m9 b))
 {fin:St κ El→Option R} (h:evc P S call (loops (R:=R)) code st0 (λe st=>match e with | .exit _=>none | .normal=>fin st | .ret=>fin st)=some r)
 {c:Cx} {g:Gh} {w:World} {vs:Array Value} (hr:Rel S c st0 g {tmps:=vs++Array.replicate (fn.ntmps-vs.size) undef,defers:=[]} w) (hnt:c.nt=vs.size+(fn.ntmps-vs.size)) (hm:c.ar=m)
 {Qv:Value→World→Prop} (hfin:∀st,fin st=some r→∀g a w,Rel S c st g a w→∃v,(results fn a.tmps).run P w=.ok v w∧Qv v w):a1r P f vs w Qv:=by
 have hle:fn.ntmps≤vs.size+(fn.ntmps-vs.size):=by omega
 obtain ⟨e,st',hk,hev⟩:=d91 (nt:=vs.size+(fn.ntmps-vs.size)) G hmix cn cok (fok.dst.mono hle) (λb hb=>⟨(hl b hb).1,(hl b hb).2 _ hle⟩) h;unfold a1r;rw[MuLone.run_callFunc_enter fok.at_ fok.name fok.body vs w];simp only;refine calls_of_wp fok.at_ fok.body (hev hr hnt hm (λg' a' w' hr'=>?_));have post:fin st'=some r→a'.defers=[]∧∃v,(results fn a'.tmps).run P w'=.ok v w'∧Qv v w':=
  λhf=>⟨hr'.df,hfin st' hf g' a' w' hr'⟩
 cases e with
 |normal=>exact post hk
 |ret=>exact post hk
 |exit i=>cases hk
def b2v {f:Nat} {fn:Func} {code:Code} {loops:{R:Type}→Nat→St κ El→(Ex→St κ El→Option R)→Option R} (G:GoodP P S) (hmix:P.follows .mixedOrders=true) (fok:FnOk P f fn code)
 {R:Type} {r:R} {call:Nat→List (D κ El)→List (List (D κ El))→(D κ El→List (List (D κ El))→Option R)→Option R} (cn:z7 call) (cok:a02 P S call)
 {ds:List (D κ El)} {bs:List (List (D κ El))} (hl:∀b∈j6 code,a08 fn (m9 b)=b∧i6 P S bs.length fn @loops (m9 b))
 {fin:St κ El→Option R} (h:evc P S call (loops (R:=R)) code (enter ds bs) (λe st=>match e with | .exit _=>none | .normal=>fin st | .ret=>fin st)=some r)
 {Qc:Cx→Value→World→Prop} (hfin:∀st,fin st=some r→∀(c:Cx) g a w,Rel S c st g a w→c.mb.length=bs.length→c.mo=[]→∃v,(results fn a.tmps).run P w=.ok v w∧Qc c v w) (hlt1:bs.length<MA)
 {w:World} {I J:Nat→Nat→Prop} {vs:Array Value} {bls:List Nat} (hp:Pre S w I J bls) (hn:bls.Nodup) (hbl:bls.length=bs.length) (hvs:vs.size=ds.length)
 (ha:∀(i:Nat) v d,vs[i]?=some v→ds[i]?=some d→g6q S w I J bls v d) (hb:∀(j:Nat) blk cs,bls[j]?=some blk→bs[j]?=some cs→d60 S w I J blk cs) :
 a1r P f vs w λv w'=>Qc ⟨w,bls,vs.size+(fn.ntmps-vs.size),I,J,[],none⟩ v w':=by
 have hlt:∀b∈bls,b<w.heap.size:=by
  intro b hm;obtain ⟨j,hj⟩:=yaw hm;have hj2:j<bs.length:=by rw[←hbl];exact (zL hj)
  obtain ⟨vals,t,h1,-⟩:=hb j b _ hj (yab hj2);exact (yah.1 h1).1
 have hr:=Rel.enter (n:=fn.ntmps) hp hn hbl hvs ha hb hlt;refine d0a G hmix fok cn cok hl h hr rfl ?_ (λst hf g a w hr=>hfin st hf _ g a w hr hbl rfl);show (if (none:Option Value).isSome then _ else if bls.length<MA then bls.length else MA+2)=bs.length
 simp only[yb5,yaz,ybd];rw[yaF (by rw[hbl];exact hlt1),hbl]
def h4d:List (D κ El)→D κ El
 | [d]=>d
 |ds=>.tup ds
def g2v {w:World} {I J:Nat→Nat→Prop} {vs:List Value} {ds:List (D κ El)} (hl:vs.length=ds.length) (h:∀(i:Nat) v d,vs[i]?=some v→ds[i]?=some d→DR S w I J v d):DR S w I J (h43 vs) (h4d ds):=by
 match vs,ds,hl with
 | [v],[d],_=>exact h 0 v d rfl rfl
 | [],[],_=>exact .tup #[] [] rfl (λi v d h1=>by simp at h1)
 |v::u::vs,d::e::ds,hl=>exact .tup _ _ (by simp at hl ⊢;exact hl) (λi v' d' h1 h2=>h i v' d' (by simpa using h1) h2)
def g0x {fn:Func} {m:Nat} {st:St κ El} {R:Type} {k:D κ El→List (List (D κ El))→Option R} {r:R} (h:h0d P S fn m st k=some r) :
 ∃st1 ds bs,c5k P S st fn.results.toList=some (st1,ds)∧c1r st1 m 0=some bs∧k (h4d ds) bs=some r:=by
 unfold h0d at h;split at h
 ·rename_i st1 ds h1;split at h
  ·rename_i bs h2;refine ⟨st1,ds,bs,h1,h2,?_⟩;split at h
   ·exact h
   ·rename_i hne;have:h4d ds=.tup ds:=by
     match ds,hne with
     | [],_=>rfl
     | [d],hne=>exact absurd rfl (hne d)
     |_::_::_,_=>rfl
    rw[this];exact h
  ·cases h
 ·cases h
def d95 (ok:PrOk P) (sgk:SgOk S) {fn:Func} {m:Nat} {st:St κ El} {R:Type} {k:D κ El→List (List (D κ El))→Option R} {r:R} (h:h0d P S fn m st k=some r) {c:Cx} {g:Gh} {a:Act} {w:World}
 (hr:Rel S c st g a w) (hm:c.mb.length=m) (hmo:c.mo=[]) :
 ∃d bs v I',k d bs=some r∧(results fn a.tmps).run P w=.ok v w∧GrowM c.mb c.w0 w c.I0 I'∧DR S w I' I' v d∧bs.length=m∧∀(j:Nat) blk cs,c.mb[j]?=some blk→bs[j]?=some cs→d60 S w I' I' blk cs:=by
 obtain ⟨st1,ds,bs,h1,h2,h3⟩:=g0x h;obtain ⟨g1,vs,r1,l1,b1,e1,x1,hrun,hlen,hall⟩:=e3o ok sgk h1 hr;obtain ⟨g2,st2,r2,l2,b2,hbl,hbox⟩:=d74 sgk h2 r1;refine ⟨h4d ds,bs,h43 vs,_,h3,a61 hrun,r2.final hmo,(LB.mono b2 l2 (g2v hlen hall)).fin,hbl,λj blk cs hj hcs=>?_⟩;obtain ⟨blk',f1,vals,t,f2,f3,f4⟩:=hbox j cs hcs;have:=r1.mb j blk hj;rw[yaI,this]at f1;cases f1
 exact ⟨vals,t,f2,f3,λi v d k1 k2=>(f4 i v d k1 k2).fin⟩
variable {f:Nat} {fn:Func} {code:Code} {α β ρ:Type}
def Wd.argM {w:World} {I J:Nat→Nat→Prop} {bls:List Nat} {v:Value} {d d':D κ El} (hw:Wd d d') (h:g6q S w I J bls v d):g6q S w I J bls v d':=by
 rcases h with ⟨j,blk,off,rfl,h1,h2⟩|h
 ·cases hw with
  |leaf _ _ h=>cases h with|same=>exact .inl ⟨j,blk,off,rfl,h1,h2⟩
 ·exact .inr (hw.dr h)
def d8m {loops:{R:Type}→Nat→St κ El→(Ex→St κ El→Option R)→Option R} {call:{R:Type}→Nat→List (D κ El)→List (List (D κ El))→(D κ El→List (List (D κ El))→Option R)→Option R}
 (G:GoodP P S) (hmix:P.follows .mixedOrders=true) (fok:FnOk P f fn code) (cn:∀{R:Type},z7 (R:=R) call) (cok:∀{R:Type},a02 (R:=R) P S call)
 {ac:CC κ El α} {bc:BC κ El β} {rc:Cod κ El ρ} {F:α→β→Option (ρ×β)} (hac:n5 ac) (hbc:e59 bc) (hrc:g9 rc) {m:Nat} (hm:∀b,(bc.enc b).length=m) (hmlt:m<MA) (hmd:S.md f=.mut)
 (hl:∀b∈j6 code,a08 fn (m9 b)=b∧i6 P S m fn @loops (m9 b))
 (e:∀a b,d6j P S call (loops (R:=ρ×β)) fn (ac.enc a) (bc.enc b) (h3c rc bc)=F a b) :
 ∀ds bs a b r b',ac.dec ds=some a→bc.dec bs=some b→F a b=some (r,b')→Con P S f ds bs (rc.enc r) (bc.enc b'):=by
 intro ds bs a b r b' hds hbs hF;unfold Con;rw[hmd];intro w I J vs bls hp hn hbl hvs ha hb;rw[←e a b]at hF;unfold d6j at hF;simp only[fok.body]at hF;have hw:=hac _ _ hds;have hwb:=hbc _ _ hbs;have key:=b2v (Qc:=λc v w'=>∃I',GrowM c.mb c.w0 w' c.I0 I'∧DR S w' I' I' v (rc.enc r)∧(bc.enc b').length=(bc.enc b).length∧∀(j:Nat) blk cs,c.mb[j]?=some blk→(bc.enc b')[j]?=some cs→d60 S w' I' I' blk cs)
  G hmix fok cn cok (ds:=ac.enc a) (bs:=bc.enc b) (by rw[hm];exact hl) hF (λst hf c g a w hr hmb hmo=>?_) (by rw[hm];exact hmlt) hp hn (hbl.trans hwb.1) (hvs.trans hw.1) (λi v d h1 h2=>?_) (λj blk cs h1 h2=>?_)
 ·refine key.mono (λv w' hq=>?_);obtain ⟨I',h1,h2,h3,h4⟩:=hq;exact ⟨I',h1,h2,by rw[h3,hwb.1],h4⟩
 ·obtain ⟨d,bs2,v,I',h1,h2,h3,h4,h5,h6⟩:=d95 G.ok G.sgk hf hr hmb hmo;refine ⟨v,h2,I',h3,?_⟩;unfold h3c at h1;split at h1
  ·rename_i r' hr';split at h1
   ·rename_i b2 hb2;cases h1
    have hwr:=hrc _ _ hr';have hwb2:=hbc _ _ hb2;refine ⟨hwr.dr h4,by rw[hm,hm],λj blk cs k1 k2=>?_⟩;have hj:j<bs2.length:=by rw[hwb2.1];exact (zL k2)
    exact (hwb2.2 j _ cs (yab hj) k2).boxD (h6 j blk _ k1 (yab hj))
   ·cases h1
  ·cases h1
 ·obtain ⟨d0,h3,h4⟩:=hw.get h2;exact h4.argM (ha i v d0 h1 h3)
 ·have hj:j<bs.length:=by rw[hwb.1];exact (zL h2)
  exact (hwb.2 j _ cs (yab hj) h2).boxD (hb j blk _ h1 (yab hj))
def d0l {loops:{R:Type}→Nat→St κ El→(Ex→St κ El→Option R)→Option R} {call:{R:Type}→Nat→List (D κ El)→List (List (D κ El))→(D κ El→List (List (D κ El))→Option R)→Option R}
 (G:GoodP P S) (hmix:P.follows .mixedOrders=true) (fok:FnOk P f fn code) (cn:∀{R:Type},z7 (R:=R) call) (cok:∀{R:Type},a02 (R:=R) P S call)
 {ac:CC κ El α} {rc:Cod κ El ρ} {F:α→Option ρ} (hac:n5 ac) (hrc:g9 rc) (hmd:S.md f=.data)
 (hl:∀b∈j6 code,a08 fn (m9 b)=b∧i6 P S 0 fn @loops (m9 b))
 (e:∀a,d6j P S call (loops (R:=ρ)) fn (ac.enc a) [] (b6l rc)=F a) :
 ∀ds a r,ac.dec ds=some a→F a=some r→Con P S f ds [] (rc.enc r) []:=by
 intro ds a r hds hF;unfold Con;rw[hmd];intro _ w I J vs hp ha;rw[←e a]at hF;unfold d6j at hF;simp only[fok.body]at hF;have hw:=hac _ _ hds;have key:=b2v (Qc:=λc v w'=>∃I',GrowM c.mb c.w0 w' c.I0 I'∧DR S w' I' I' v (rc.enc r)) G hmix fok cn cok (ds:=ac.enc a) (bs:=[]) (bls:=[]) hl hF (λst hf c g a w hr hmb hmo=>?_) (by show 0<MA;decide) hp List.nodup_nil rfl (ha.1.trans hw.1)
  (λi v d h1 h2=>?_) (λj blk cs h1 h2=>by simp at h1)
 ·refine key.mono (λv w' hq=>?_);obtain ⟨I',h1,h2⟩:=hq;exact ⟨I',h1.grow,h2⟩
 ·obtain ⟨d,bs2,v,I',h1,h2,h3,h4,h5,h6⟩:=d95 G.ok G.sgk hf hr hmb hmo;refine ⟨v,h2,I',h3,?_⟩;unfold b6l at h1;split at h1
  ·exact (hrc _ _ h1).dr h4
  ·cases h1
 ·obtain ⟨d0,h3,h4⟩:=hw.get h2;exact .inr (h4.dr (ha.2 i v d0 h1 h3))
def Rel.ow_new0 {c:Cx} {st:St κ El} {g:Gh} {a:Act} {w:World} (hr:Rel S c st g a w) (hnil:c.mb=[]) (hmo:c.mo=[]) {blk n:Nat} (ho:g.ow blk=some (.arr n)):c.w0.heap.size≤blk:=by
 rcases ybv blk c.w0.heap.size with hlt|hge
 ·have:=(hr.old blk hlt (by rw[hnil];simp) (by rw[hmo];simp)).2;rw[ho]at this;cases this
 ·exact hge
def c0s {tmps:Array Value} {t:Nat} {fn:Func} (h:fn.results.toList=[.tmp t]) {a:Act} {w:World}:(results fn a.tmps).run P w=.ok (a.tmps.getD t undef) w:=by
 have:=a61 (fn:=fn) (a:=a) (P:=P) (w:=w) (vs:=[a.tmps.getD t undef]) (by rw[h];rfl);exact this
def c7e (sgk:SgOk S) {fn:Func} {st:St κ El} {R:Type} {k:D κ El→List (List (D κ El))→Option R} {r:R} (h:b19 P S fn st k=some r) {c:Cx} {g:Gh} {a:Act} {w:World} (hr:Rel S c st g a w) (hmb:c.mb.length=0) (hmo:c.mo=[]) :
 ∃kd xs v I',k (.lst kd xs) []=some r∧(results fn a.tmps).run P w=.ok v w∧Grow c.w0 w c.I0 I'∧e6b S w I' c.w0.heap.size kd xs v:=by
 have hnil:c.mb=[]:=yaq hmb;have hg:Grow c.w0 w c.I0 g.I:=⟨hr.sz,hr.os,hr.out,hr.tape,λb hb=>(hr.old b hb (by rw[hnil];simp) (by rw[hmo];simp)).1,hr.i0,hr.i1,hr.ib⟩
 unfold b19 at h;split at h
 ·rename_i t ht;have hv:=hr.opd (.tmp t);split at h
  ·rename_i n ver hopd;rw[hopd]at hv;split at h
   ·rename_i A hA;rw[d7]at h;split at h
    ·rename_i hc;rw[yae,yan]at hc;obtain ⟨h1,h2⟩:=a2r hc.1;obtain ⟨-,ha1,ha2,ha3⟩:=hv.arr_inv;obtain ⟨base,cap',f1,f2,f3⟩:=(hr.ar n A hA).live h2;have e2:a.tmps.getD t undef=.slice base A.xs.length cap':=by
      refine ha3 _ ?_;rw[←h1];exact f1
     refine ⟨A.k,A.xs,_,g.I,h,c0s (tmps:=a.tmps) ht,hg,?_⟩;rw[e2];refine ⟨base,cap',rfl,f2,f3.imp id ?_⟩;rintro ⟨blk,vals,ty,q1,q2,q3,q4,q5,q6,q7⟩;refine ⟨blk,vals,ty,q1,q2,q3,hr.ow_new0 hnil hmo q4,λo hi=>?_,λi hi j d hj=>?_⟩
     ·have:=(q5 o hi).1;rw[hc.2]at this;cases this
     ·obtain ⟨u,a1,a2⟩:=q7 i hi j d hj;exact ⟨u,a1,a2.relendL sgk (a2z (sgk.plain _ _ _ (yag hj)))⟩
    ·cases h
   ·cases h
  ·rename_i hopd;rw[hopd]at hv;split at h
   ·rename_i u hu;split at h
    ·rename_i e he;split at h
     ·rename_i kd hkd;refine ⟨kd,[],_,g.I,h,c0s (tmps:=a.tmps) ht,hg,?_⟩;have:=hv.nil_inv;have e2:a.tmps.getD t undef=.slice none 0 0:=this;rw[e2];exact ⟨none,0,rfl,yav _,.inl rfl⟩
     ·cases h
    ·cases h
   ·cases h
  ·cases h
 ·cases h
def b0g {loops:{R:Type}→Nat→St κ El→(Ex→St κ El→Option R)→Option R} {call:{R:Type}→Nat→List (D κ El)→List (List (D κ El))→(D κ El→List (List (D κ El))→Option R)→Option R}
 (G:GoodP P S) (hmix:P.follows .mixedOrders=true) (fok:FnOk P f fn code) (cn:∀{R:Type},z7 (R:=R) call) (cok:∀{R:Type},a02 (R:=R) P S call)
 {kr:κ} (hmd:S.md f=.fresh)
 (hl:∀b∈j6 code,a08 fn (m9 b)=b∧i6 P S 0 fn @loops (m9 b))
 {ds ds0:List (D κ El)} {ys:List (El kr)} (hw:WL ds ds0) (hF:a3o P S call (loops (R:=List (El kr))) fn ds0 (b6l (Cod.lst kr))=some ys):Con P S f ds [] (.lst kr ys) []:=by
 unfold Con;rw[hmd];intro _ k' xs' he w I J vs hp ha;cases he
 unfold a3o at hF;simp only[fok.body]at hF;have key:=b2v (Qc:=λc v w'=>∃I',Grow c.w0 w' c.I0 I'∧e6b S w' I' c.w0.heap.size kr ys v) G hmix fok cn cok (ds:=ds0) (bs:=[]) (bls:=[]) hl hF (λst hf c g a w hr hmb hmo=>?_) (by show 0<MA;decide) hp List.nodup_nil rfl (ha.1.trans hw.1)
  (λi v d h1 h2=>?_) (λj blk cs h1 h2=>by simp at h1)
 ·exact key
 ·obtain ⟨kd,xs,v,I',h1,h2,h3,h4⟩:=c7e G.sgk hf hr hmb hmo;refine ⟨v,h2,I',h3,?_⟩;unfold b6l at h1;simp only[Cod.lst]at h1;obtain ⟨e,he⟩:=a2i h1;subst e;cases he
  exact h4
 ·obtain ⟨d0,h3,h4⟩:=hw.get h2;exact .inr (h4.dr (ha.2 i v d0 h1 h3))
def d0n {loops:{R:Type}→Nat→St κ El→(Ex→St κ El→Option R)→Option R} {call:{R:Type}→Nat→List (D κ El)→List (List (D κ El))→(D κ El→List (List (D κ El))→Option R)→Option R}
 (G:GoodP P S) (hmix:P.follows .mixedOrders=true) (fok:FnOk P f fn code) (cn:∀{R:Type},z7 (R:=R) call) (cok:∀{R:Type},a02 (R:=R) P S call)
 {ac:CC κ El α} {kr:κ} {F:List (El kr)×α→Option (List (El kr))} (hac:n5 ac) (hmd:S.md f=.inpl)
 (hl:∀b∈j6 code,a08 fn (m9 b)=b∧i6 P S MA fn @loops (m9 b))
 (e:∀a,b03 P S call (loops (R:=List (El kr))) fn kr a.1 (ac.enc a.2) (b6l (Cod.lst kr))=F a) :
 ∀ds a r,(CC.cons (Cod.lst kr) ac).dec ds=some a→F a=some r→Con P S f ds [] ((Cod.lst kr).enc r) []:=by
 intro ds a r hds hF;obtain ⟨ys,a⟩:=a;unfold Con;rw[hmd];intro _ k xs ds0 hd xs' hxs w I J mb v0 vs hp hown ha;subst hd;unfold CC.cons at hds;simp only at hds;split at hds
 ·rename_i x hx;split at hds
  ·rename_i b hb;cases hds
   obtain ⟨ek,hx2⟩:=a2i hx;subst ek;cases hx2
   cases hxs
   replace hF:F (xs,a)=some xs':=hF;rw[←e (xs,a)]at hF;unfold b03 at hF;simp only[fok.body]at hF;have hw:=hac _ _ hb;have ha2:b50 S w I J vs (ac.enc a):=⟨ha.1.trans hw.1,λi v d h1 h2=>by
    obtain ⟨d0,h3,h4⟩:=hw.get h2;exact h4.dr (ha.2 i v d0 h1 h3)⟩
   obtain ⟨base,cap,rfl,hcap,ho⟩:=hown;obtain ⟨mo,hmo,hsub,hcase⟩:∃mo:List Nat,((cap=0∧mo=[])∨∃blk vals t,mo=[blk]∧base=some ⟨blk,0,none⟩∧w.heap[blk]?=some (.cells vals t (0,0))∧vals.size=cap*S.sz k∧
    ∀i (hi:i<xs.length) j d,(S.enc k xs[i])[j]?=some d→∃v,vals[i*S.sz k+j]?=some v∧DR S w I J v d)∧(∀b∈mo,b∈mb)∧(cap=0→mo=[]):=by
    by_cases h0:cap=0
    ·exact ⟨[],.inl ⟨h0,rfl⟩,λb h=>(by cases h),λ_=>rfl⟩
    ·exact ⟨mb,ho.imp (λh=>absurd h.1 h0) id,λb h=>h,λh=>absurd h h0⟩
   have hp':Pre S w I J mo:=⟨hp.gl,hp.ib,hp.ij,λb o hj=>⟨(hp.jb b o hj).1,λhm=>(hp.jb b o hj).2 (hsub b hm)⟩,λn k xs hg hx=>(hp.gb n k xs hg hx).imp_left (λh hm=>h (hsub n hm))⟩
   refine d0a G hmix fok cn cok hl hF (Rel.enterA (n:=fn.ntmps) hp' hcap hmo ha2) rfl (by rfl) (λst hf g a' w' hr=>?_);unfold c7f at hf;split at hf
   rotate_left
   ·cases hf
   rename_i hres;split at hf
   rotate_left
   ·cases hf
   rename_i A hA;rw[d7]at hf;split at hf
   ·cases hf
   rename_i hdead;have hdead:A.dead=false:=by simpa using hdead
   unfold b6l at hf;simp only[Cod.lst]at hf;obtain ⟨ek,hx4⟩:=a2i hf;have hrun:(results fn a'.tmps).run P w'=.ok (.tuple #[]) w':=a61 (fn:=fn) (a:=a') (P:=P) (w:=w') (vs:=[]) (by rw[hres];rfl);refine ⟨_,hrun,rfl,?_⟩;have hrA:=hr.ar MA A hA;obtain ⟨hv0,hs0⟩:=hrA.own rfl;obtain ⟨base',cap',hav,hcap',hz⟩:=hrA.live hdead;rw[hv0]at hav;have hpn:=hr.pn _ (by simp) hav;replace hpn:some (Value.slice base xs.length cap)=some (Value.slice base' A.xs.length cap'):=hpn;obtain ⟨Ak,Axs,Av,As,Ad⟩:=A;simp only at ek hx4 hdead hv0 hs0 hcap' hz hpn;subst ek;have hx5:Axs=xs':=hx4;subst hx5;injection hpn with hpn;injection hpn with e1 e2 e3;subst e1 e3;refine ⟨e2.symm,g.I,⟨hr.sz,hr.os,hr.out,hr.tape,λb hb hm=>(hr.old b hb (by simp) (λh=>hm (hsub b h))).1,hr.i0,hr.i1,hr.ib⟩,base,cap,by rw[e2],hcap',?_⟩;by_cases h0:cap=0
   ·refine ho.imp id ?_;rintro ⟨blk,vals,t,q1,q2,q3,q4,q5⟩;have hlen:Axs.length=0:=by omega
    have hmo0:mo=[]:=hcase h0;refine ⟨blk,vals,t,q1,q2,?_,q4,λi hi=>absurd hi (by omega)⟩;rw[←q3];exact (hr.old blk (yah.1 q3).1 (by simp) (by show blk∉mo;rw[hmo0];simp)).1
   ·refine .inr ?_;rcases hz with hz|⟨blk,vals,t,q1,q2,q3,q4,q5,q6,q7⟩
    ·exact absurd hz h0
    ·rcases ho with ⟨h,-⟩|⟨blk0,vals0,t0,p1,p2,-⟩
     ·exact absurd h h0
     ·rw[q1]at p2;injection p2 with p2;injection p2 with p2;refine ⟨blk,vals,t,by rw[p1,p2],q1,q2,q3,λi hi j d hj=>?_⟩;obtain ⟨u,a1,a2⟩:=q7 i hi j d hj;exact ⟨u,a1,a2.relendL G.sgk (a2z (G.sgk.plain _ _ _ (yag hj)))⟩
  ·cases hds
 ·cases hds
def d0o {loops:{R:Type}→Nat→St κ El→(Ex→St κ El→Option R)→Option R} {call:{R:Type}→Nat→List (D κ El)→List (List (D κ El))→(D κ El→List (List (D κ El))→Option R)→Option R}
 (G:GoodP P S) (hmix:P.follows .mixedOrders=true) (fok:FnOk P f fn code) (cn:∀{R:Type},z7 (R:=R) call) (cok:∀{R:Type},a02 (R:=R) P S call)
 {ac:CC κ El α} {cc:CC κ El ρ} {F:α→Option ρ} (hac:n5 ac) (hcc:n5 cc) (hmd:S.md f=.newb)
 (hl:∀b∈j6 code,a08 fn (m9 b)=b∧i6 P S 0 fn @loops (m9 b))
 (e:∀a,b04 P S call (loops (R:=ρ)) fn (ac.enc a) (h4e cc)=F a) :
 ∀ds a r,ac.dec ds=some a→F a=some r→Con P S f ds [] (.tup []) [cc.enc r]:=by
 intro ds a r hds hF;unfold Con;rw[hmd];intro cs hcs w I J vs hp ha;cases hcs
 rw[←e a]at hF;unfold b04 at hF;simp only[fok.body]at hF;have hw:=hac _ _ hds;have key:=b2v (Qc:=λc v w'=>∃I' blk,Grow c.w0 w' c.I0 I'∧v=.pointer (some ⟨blk,0,none⟩)∧c.w0.heap.size≤blk∧(∀o,¬I' blk o)∧d60 S w' I' I' blk (cc.enc r)) G hmix fok cn cok (ds:=ac.enc a) (bs:=[]) (bls:=[]) hl hF
  (λst hf c g a w hr hmb hmo=>?_) (by show 0<MA;decide) hp List.nodup_nil rfl (ha.1.trans hw.1) (λi v d h1 h2=>?_) (λj blk cs h1 h2=>by simp at h1)
 ·exact key
 ·have hnil:c.mb=[]:=yaq hmb;unfold c7g at hf;split at hf
  ·rename_i t ht;have hv:=hr.opd (.tmp t);split at hf
   ·rename_i b hopd;rw[hopd]at hv;rw[d7]at hf;split at hf
    ·cases hf
    ·split at hf
     ·rename_i cs hb;split at hf
      ·rename_i st1 cs1 hdat;obtain ⟨g1,r1,l1,b1,e1,x1,n1,v1⟩:=a0y G.sgk hdat hr;obtain ⟨blk,hve,hbl⟩:=hv.ptr_inv;obtain ⟨blk',q1,q2,q3,vals,ty,q4,q5,q6⟩:=hr.bx b cs hb;rw[hbl]at q1;cases q1
       have hlo:c.w0.heap.size≤blk:=by
        rcases ybv blk c.w0.heap.size with hlt|hge
        ·have:=(hr.old blk hlt (by rw[hnil];simp) (by rw[hmo];simp)).2;rw[q2]at this;cases this
        ·exact hge
       have hg:Grow c.w0 w c.I0 g1.I:=⟨r1.sz,r1.os,r1.out,r1.tape,λb hb=>(r1.old b hb (by rw[hnil];simp) (by rw[hmo];simp)).1,r1.i0,r1.i1,r1.ib⟩
       refine ⟨_,c0s (tmps:=a.tmps) ht,g1.I,blk,hg,hve,hlo,?_,?_⟩
       ·obtain ⟨blk2,p1,p2,p3,p4⟩:=r1.bx b cs (by rw[x1];exact hb);rw[b1,hbl]at p1;cases p1
        exact p3
       ·replace hf:cc.dec cs1=some r:=hf;refine (hcc _ _ hf).boxD ⟨vals,ty,q4,by rw[q5,n1],λi v d k1 k2=>?_⟩;have hi:i<cs.length:=by rw[←n1];exact (zL k2)
        obtain ⟨d2,h3,h4⟩:=v1 i _ (yab hi);rw[k2]at h3;cases h3
        exact (h4 v (q6 i v _ k1 (yab hi))).relendL G.sgk (a5t hdat d (yag k2))
      ·cases hf
     ·cases hf
   ·cases hf
  ·cases hf
 ·obtain ⟨d0,h3,h4⟩:=hw.get h2;exact .inr (h4.dr (ha.2 i v d0 h1 h3))
def h3f [KdEq κ] (rc:Cod κ El ρ) (kr:κ) (d:D κ El) (bs:List (List (D κ El))):Option (ρ×List (El kr)):=match d,bs with
 |.tup [x,.lst _ xs],[]=>(match rc.dec x with|some a=>(match (a56 xs:Option (List (El kr))) with|some xs=>some (a,xs)|none=>none)|none=>none)
 |_,_=>none
def d0p {loops:{R:Type}→Nat→St κ El→(Ex→St κ El→Option R)→Option R} {call:{R:Type}→Nat→List (D κ El)→List (List (D κ El))→(D κ El→List (List (D κ El))→Option R)→Option R}
 (G:GoodP P S) (hmix:P.follows .mixedOrders=true) (fok:FnOk P f fn code) (cn:∀{R:Type},z7 (R:=R) call) (cok:∀{R:Type},a02 (R:=R) P S call)
 {ac:CC κ El α} {rc:Cod κ El ρ} {kr:κ} {F:α→Option (ρ×List (El kr))} (hac:n5 ac) (hrc:g9 rc) (hmd:S.md f=.nmap)
 (hl:∀b∈j6 code,a08 fn (m9 b)=b∧i6 P S 0 fn @loops (m9 b))
 (e:∀a,b05 P S call (loops (R:=ρ×List (El kr))) fn (ac.enc a) (h3f rc kr)=F a) :
 ∀ds a r,ac.dec ds=some a→F a=some r→Con P S f ds [] (.tup [rc.enc r.1,.lst kr r.2]) []:=by
 intro ds a r hds hF;unfold Con;rw[hmd];intro _ x k xs hx w I J vs hp ha;rw[←e a]at hF;unfold b05 at hF;simp only[fok.body]at hF;have hw:=hac _ _ hds;cases hx
 refine b2v (Qc:=λc v w'=>∃I' v1 v2,Grow c.w0 w' c.I0 I'∧v=.tuple #[v1,v2]∧DR S w' I' I' v1 (rc.enc r.1)∧h4g S w' I' c.w0.heap.size kr r.2 v2) G hmix fok cn cok (ds:=ac.enc a) (bs:=[]) (bls:=[]) hl hF
  (λst hf c g a w hr hmb hmo=>?_) (by show 0<MA;decide) hp List.nodup_nil rfl (ha.1.trans hw.1) (λi v d h1 h2=>?_) (λj blk cs h1 h2=>by simp at h1)
 ·have hnil:c.mb=[]:=yaq hmb;unfold c7h at hf;split at hf
  rotate_left
  ·cases hf
  rename_i q t ht;have hv:=hr.opd (.tmp t);split at hf
  rotate_left
  ·cases hf
  rename_i n ver hopd;rw[hopd]at hv;split at hf
  rotate_left
  ·cases hf
  rename_i A hA;rw[d7]at hf;split at hf
  rotate_left
  ·cases hf
  rename_i hmp;split at hf
  rotate_left
  ·cases hf
  rename_i d hd;rw[d7]at hf;split at hf
  rotate_left
  ·cases hf
  rename_i hok;split at hf
  rotate_left
  ·cases hf
  rename_i st1 d1 hdat;unfold d2m at hmp;simp only[yae,yaS,yan]at hmp;obtain ⟨⟨hver,hdead,hseal⟩,hisb⟩:=hmp;obtain ⟨v,e0,hv0⟩:=c5n G.ok G.sgk hd hr;obtain ⟨g1,r1,l1,b1,e1,x1,v1⟩:=b6v G.sgk hok hdat hr;obtain ⟨blk,es,clk,q1,q2,q3,q4,q5⟩:=((hr.ar n A hA).mp hdead hseal).map hisb;obtain ⟨-,ha1,ha2,ha3⟩:=hv.arr_inv;have e2:a.tmps.getD t undef=.map (some blk):=ha3 _ (by rw[←hver];exact q1);have hlo:c.w0.heap.size≤blk:=hr.ow_new0 hnil hmo q3;have hfin:=r1.final hmo;rw[hnil]at hfin;unfold h3f at hf;simp only at hf;split at hf
  rotate_left
  ·cases hf
  rename_i y hy;split at hf
  rotate_left
  ·cases hf
  rename_i zs hzs;cases hf
  obtain ⟨ek,hxs⟩:=a2i hzs;refine ⟨.tuple #[v,.map (some blk)],?_,_,v,.map (some blk),hfin.grow,rfl,(hrc _ _ hy).dr (v1 v hv0).fin,?_,blk,es,clk,rfl,q2,hlo,?_,?_⟩
  ·have:=a61 (fn:=fn) (a:=a) (P:=P) (w:=w) (vs:=[v,.map (some blk)]) (by rw[ht];simp only[List.mapM_cons,List.mapM_nil,Sem.run_bind,e0,Sem.run_pure,Result.andThen_ok];rw[show Sem.run P (b8r a.tmps (.tmp t)) w=.ok (a.tmps.getD t undef) w from rfl,e2];rfl);exact this
  ·rw[←ek];exact hisb
  ·obtain ⟨Ak,Axs,Av,As,Ad⟩:=A;simp only at ek hxs q4;subst ek;subst hxs;exact q4
  ·obtain ⟨Ak,Axs,Av,As,Ad⟩:=A;simp only at ek hxs q5;subst ek;subst hxs;intro i en x h1 h2;obtain ⟨kd,vd,p1,p2,p3⟩:=q5 i en x h1 h2;have hpl:∀d,d∈S.enc Ak x→noC.noCl d=true:=λd hd=>a2z (G.sgk.plain _ _ _ hd)
   have tr:∀{v d},DR S w g.I g.J v d→noC.noCl d=true→DR S w (λb o=>g1.I b o∨LB g1 b o) (λb o=>g1.I b o∨LB g1 b o) v d:=λh hn=>
    (h.relendL (J':=g.I) G.sgk hn).mono (λb o hi=>⟨rfl,.inl (l1.I b o hi).2⟩) (λb o hi=>⟨rfl,.inl (l1.I b o hi).2⟩)
   exact ⟨kd,vd,p1,tr p2 (hpl _ (by rw[p1];simp)),tr p3 (hpl _ (by rw[p1];simp))⟩
 ·obtain ⟨d0,h3,h4⟩:=hw.get h2;exact .inr (h4.dr (ha.2 i v d0 h1 h3))
end
end
section
section
variable {κ:Type} {El:κ→Type} {S:Sg κ El} {P:Program}
variable {R:Type} {f:Nat} {α β ρ:Type}
abbrev a4m (κ:Type) (El:κ→Type) (R:Type):=List (D κ El)→List (List (D κ El))→(D κ El→List (List (D κ El))→Option R)→Option R
def b81 (P:Program) (S:Sg κ El) (f:Nat) (sem:a4m κ El R):Prop:=∀ds bs k r,sem ds bs k=some r→∃d bs',k d bs'=some r∧Con P S f ds bs d bs'
def a9b (sem:a4m κ El R):Prop:=∀ds bs k r,sem ds bs k=some r→∃d bs',k d bs'=some r∧∀k',k' d bs'=some r→sem ds bs k'=some r
def g3m {ac:CC κ El α} {rc:Cod κ El ρ} {F:α→Option ρ} (h:∀ds a r,ac.dec ds=some a→F a=some r→Con P S f ds [] (rc.enc r) []):b81 P S f (s9 (R:=R) ac rc F):=by
 intro ds bs k r hs;unfold s9 at hs;split at hs
 ·split at hs
  ·rename_i a ha;split at hs
   ·rename_i x hx;exact ⟨_,_,hs,h _ _ _ ha hx⟩
   ·cases hs
  ·cases hs
 ·cases hs
def f03 {ac:CC κ El α} {rc:Cod κ El ρ} {F:α→Option ρ}:a9b (s9 (R:=R) ac rc F):=by
 intro ds bs k r hs;unfold s9 at hs;split at hs
 ·split at hs
  ·rename_i a ha;split at hs
   ·rename_i x hx;exact ⟨_,_,hs,λk' hk'=>by unfold s9;simp only[ha,hx];exact hk'⟩
   ·cases hs
  ·cases hs
 ·cases hs
def g3k {ac:CC κ El α} {bc:BC κ El β} {rc:Cod κ El ρ} {F:α→β→Option (ρ×β)} (h:∀ds bs a b r b',ac.dec ds=some a→bc.dec bs=some b→F a b=some (r,b')→Con P S f ds bs (rc.enc r) (bc.enc b')):b81 P S f (b8u (R:=R) ac bc rc F):=by
 intro ds bs k r hs;unfold b8u at hs;split at hs
 ·rename_i a ha;split at hs
  ·rename_i b hb;split at hs
   ·rename_i x y hx;exact ⟨_,_,hs,h _ _ _ _ _ _ ha hb hx⟩
   ·cases hs
  ·cases hs
 ·cases hs
def f01 {ac:CC κ El α} {bc:BC κ El β} {rc:Cod κ El ρ} {F:α→β→Option (ρ×β)}:a9b (b8u (R:=R) ac bc rc F):=by
 intro ds bs k r hs;unfold b8u at hs;split at hs
 ·rename_i a ha;split at hs
  ·rename_i b hb;split at hs
   ·rename_i x y hx;exact ⟨_,_,hs,λk' hk'=>by unfold b8u;simp only[ha,hb,hx];exact hk'⟩
   ·cases hs
  ·cases hs
 ·cases hs
def g3l {ac:CC κ El α} {cc:CC κ El ρ} {F:α→Option ρ} (h:∀ds a r,ac.dec ds=some a→F a=some r→Con P S f ds [] (.tup []) [cc.enc r]):b81 P S f (f5x (R:=R) ac cc F):=by
 intro ds bs k r hs;unfold f5x at hs;split at hs
 ·split at hs
  ·rename_i a ha;split at hs
   ·rename_i x hx;exact ⟨_,_,hs,h _ _ _ ha hx⟩
   ·cases hs
  ·cases hs
 ·cases hs
def f02 {ac:CC κ El α} {cc:CC κ El ρ} {F:α→Option ρ}:a9b (f5x (R:=R) ac cc F):=by
 intro ds bs k r hs;unfold f5x at hs;split at hs
 ·split at hs
  ·rename_i a ha;split at hs
   ·rename_i x hx;exact ⟨_,_,hs,λk' hk'=>by unfold f5x;simp only[ha,hx];exact hk'⟩
   ·cases hs
  ·cases hs
 ·cases hs
def f00 (ac:CC κ El α) {s1 s2:a4m κ El R} (h1:b81 P S f s1) (h2:b81 P S f s2):b81 P S f (λds bs k=>d5e (ac.dec ds) (s1 ds bs k) (s2 ds bs k)):=by
 intro ds bs k r hs;simp only[d5e]at hs;split at hs
 ·exact h1 _ _ _ _ hs
 ·exact h2 _ _ _ _ hs
def e3y (ac:CC κ El α) {s1 s2:a4m κ El R} (h1:a9b s1) (h2:a9b s2):a9b (λds bs k=>d5e (ac.dec ds) (s1 ds bs k) (s2 ds bs k)):=by
 intro ds bs k r hs;cases hd:ac.dec ds with
 |some a=>simp only[d5e,hd]at hs ⊢;exact h1 _ _ _ _ hs
 |none=>simp only[d5e,hd]at hs ⊢;exact h2 _ _ _ _ hs
def g3i:b81 P S f (λ_ _ _=>none:a4m κ El R):=λds bs k r h=>by cases h
def f0z:a9b (λ_ _ _=>none:a4m κ El R):=λds bs k r h=>by cases h
def d3t:a02 P S (λ_ _ _ _=>none:Nat→a4m κ El R):=λf ds bs k r h=>by cases h
def c6n {g:Nat} {sem:a4m κ El R} {rest:Nat→a4m κ El R} (h1:b81 P S g sem) (h2:a02 P S rest):a02 P S (λf ds bs k=>bif Nat.beq f g then sem ds bs k else rest f ds bs k):=by
 intro f ds bs k r h;simp only[d7]at h;split at h
 ·rename_i e;rw[yaS]at e;subst e;exact h1 _ _ _ _ h
 ·exact h2 _ _ _ _ _ h
def c6m:z7 (λ_ _ _ _=>none:Nat→a4m κ El R):=λf ds bs k r h=>by cases h
def c1v {g:Nat} {sem:a4m κ El R} {rest:Nat→a4m κ El R} (h1:a9b sem) (h2:z7 rest):z7 (λf ds bs k=>bif Nat.beq f g then sem ds bs k else rest f ds bs k):=by
 intro f ds bs k r h;cases hb:Nat.beq f g with
 |true=>simp only[hb,yac]at h ⊢;exact h1 _ _ _ _ h
 |false=>simp only[hb,yaa]at h ⊢;exact h2 _ _ _ _ _ h
variable [KdEq κ] {m:Nat} {fn:Func} {code:Code}
def d19 (hb:fn.body=some code) {ids:List Nat} (hids:(j6 code).map m9=ids) (hn:a7q ids=true) {id:Nat} (hm:id∈ids):a08 fn id∈j6 code∧m9 (a08 fn id)=id:=by
 rw[←hids]at hm;obtain ⟨b,hbm,rfl⟩:=ybe.1 hm;rw[a91 hb (by rw[hids];exact hn) b hbm];exact ⟨hbm,rfl⟩
def c2u {loops:{R:Type}→Nat→St κ El→(Ex→St κ El→Option R)→Option R} (fok:FnOk P f fn code) {ids:List Nat} (hids:(j6 code).map m9=ids) (hn:a7q ids=true) (h:∀i∈ids,i6 P S m fn @loops i) :
 ∀b∈j6 code,a08 fn (m9 b)=b∧i6 P S m fn @loops (m9 b):=
 λb hb=>⟨a91 fok.body (by rw[hids];exact hn) b hb,h _ (by rw[←hids];exact ybe.2 ⟨b,hb,rfl⟩)⟩
def d65 (P:Program) (S:Sg κ El) (m:Nat) (out:β→Ex×St κ El) (outs:Ex→St κ El→Option β):Prop:=∀e st b,outs e st=some b→(out b).1=e∧c9v P S m st (out b).2
def g6c (P:Program) (S:Sg κ El) (m:Nat) (pr:St κ El→Option (St κ El)) (fc:FC κ El α):Prop:=∀st st1 x,pr st=some st1→fc.dec st1=some x→c9v P S m st (fc.enc x)
def e16 {id:Nat} {loops:{R:Type}→Nat→St κ El→(Ex→St κ El→Option R)→Option R}
 {call:{R:Type}→Nat→a4m κ El R}
 {pr:St κ El→Option (St κ El)} {fc:FC κ El α} {step:α→Option (α⊕β)} {outs:Ex→St κ El→Option β} {outk:{R:Type}→β→(Ex→St κ El→Option R)→Option R} (out:β→Ex×St κ El)
 (G:GoodP P S) (fok:FnOk P f fn code) {ids:List Nat} (hids:(j6 code).map m9=ids) (hn:a7q ids=true) (hm:id∈ids)
 (cn:∀{R:Type},z7 (R:=R) call) (cok:∀{R:Type},a02 (R:=R) P S call)
 {inn:List Nat} (hinn:(j6 (a08 fn id)).map m9=inn) (hl:∀i∈inn,i6 P S m fn @loops i)
 (el:∀a,evc P S call (loops (R:=α⊕β)) (a08 fn id) (fc.enc a) (d4u pr fc outs)=step a)
 (hp:g6c P S m pr fc) (ho:d65 P S m out outs)
 (hk:∀{R:Type} b (k:Ex→St κ El→Option R),outk b k=k (out b).1 (out b).2)
 (heq:∀{R:Type} (st:St κ El) (k:Ex→St κ El→Option R),loops id st k=h3g pr fc step outk st k):i6 P S m fn @loops id:=by
 intro nt hnt;obtain ⟨hmem,hfr⟩:=d19 fok.body hids hn hm;refine g3j out G G.ok.mixed cn cok ((fok.dst.mono hnt).body hmem) (λb hb=>⟨?_,?_⟩) el hp ho hk heq
 ·exact a91 fok.body (by rw[hids];exact hn) b (a4p hmem hb)
 ·exact hl _ (by rw[←hinn];exact ybe.2 ⟨b,hb,rfl⟩) nt hnt
def d9 {p:Nat→Prop}:∀i∈([]:List Nat),p i:=λi h=>by cases h
def all_cons {p:Nat→Prop} {n:Nat} {l:List Nat} (h:p n) (hl:∀i∈l,p i):∀i∈n::l,p i:=λi hi=>by
 rcases yaM.1 hi with rfl|hi
 ·exact h
 ·exact hl i hi
def fnB (P:Program) (f:Nat) (fn:Func) (ids:List Nat):Bool:=
 !(fn.name == "runtime.NumGoroutine")&&(match fn.body with|some c=>d9z fn.ntmps c&&(a7q ids&&beqL ((j6 c).map m9) ids)|none=>false)
where beqL:List Nat→List Nat→Bool
 | [],[]=>true
 |a::l,b::l'=>Nat.beq a b&&beqL l l'
 |_,_=>false
def d7z:∀{l l':List Nat},fnB.beqL l l'=true→l=l':=by
 intro l
 induction l with
 |nil=>intro l' h;cases l' with|nil=>rfl|cons=>cases h
 |cons a l ih=>
  intro l' h;cases l' with
  |nil=>cases h
  |cons b l'=>simp only[fnB.beqL,yae,yaS]at h;rw[h.1,ih h.2]
def a07 {ids:List Nat} (hat:P.funcs[f]?=some fn) (h:fnB P f fn ids=true):∃code,FnOk P f fn code∧a7q ids=true∧(j6 code).map m9=ids:=by
 unfold fnB at h;rw[yae,yan]at h;obtain ⟨h1,h2⟩:=h;split at h2
 ·rename_i c hc;simp only[yae]at h2;exact ⟨c,⟨hat,h1,hc,d90 h2.1⟩,h2.2.1,d7z h2.2.2⟩
 ·cases h2
def prB (P:Program):Bool:=(List.range P.types.size).all λt=>match P.underlying t with|none=>false|some _=>true
def h6h (h:prB P=true) (hm:P.follows .mixedOrders=true):PrOk P:=by
 refine ⟨λt i hi=>?_,hm⟩;by_cases ht:t<P.types.size
 ·have:=yaj.1 h t (ybE.2 ht);split at this
  ·cases this
  ·rename_i d hd;exact ⟨d,hd⟩
 ·have:=Tables.info?_beyond ht hi;unfold Program.underlying;rw[hi];obtain ⟨desc,_⟩:=i;cases desc with
  |named n u=>cases this
  |_=>exact ⟨_,rfl⟩
def g50 {S:Sg κ El} {cc:(k:κ)→CC κ El (El k)} (he:∀k,S.enc k=(cc k).enc) (hd:∀k,S.dec k=(cc k).dec) (hcc:∀k,n5 (cc k)) (hsz:∀k x,((cc k).enc x).length=S.sz k) (hpl:∀k x,((cc k).enc x).all a7u=true) (hpos:∀k,0<S.sz k):SgOk S where
 sz:=λk x=>by rw[he];exact hsz k x
 plain:=λk x d h=>by rw[he]at h;exact yaj.1 (hpl k x) d h
 pos:=hpos
 dec:=λk cs x h=>by
  rw[hd]at h;have hw:=hcc k _ _ h;refine ⟨by rw[hw.1];exact hsz k x,λj d hj=>?_⟩;rw[he]at hj;obtain ⟨d',h1,h2⟩:=hw.get hj;refine ⟨d',h1,?_⟩;have hp:=yaj.1 (hpl k x) d (yag hj);cases h2 with
  |leaf _ _ h=>exact h
  |_=>cases hp
def eqB (P:Program) (t:Nat):Bool:=!(P.eqGuardType P.depth t)&&(!(P.stoodInHeld t)&&(match P.underlying t with|some (.struct fs)=>fs.toList.all (λf=>!(f.name == "_"))|_=>true))
def e8h {t:Nat} (h:eqB P t=true):EqOk P t:=by
 unfold eqB at h;simp only[yae,yan]at h;refine ⟨h.1,h.2.1,λfs hfs f hf=>?_⟩;have h3:=h.2.2;rw[hfs]at h3;have:=yaj.1 h3 f hf;simpa using this
def g0r:∀t,(false=true)→EqOk P t:=λt h=>by cases h
def a33 {u:Nat} {q:Nat→Bool} (h:eqB P u=true) (hr:∀t,q t=true→EqOk P t):∀t,(Nat.beq t u||q t)=true→EqOk P t:=λt ht=>by
 rw[ybr]at ht;rcases ht with ht|ht
 ·rw[yaS]at ht;subst ht;exact e8h h
 ·exact hr t ht
def d9o {loops:{R:Type}→Nat→St κ El→(Ex→St κ El→Option R)→Option R} {call:{R:Type}→Nat→a4m κ El R}
 (G:GoodP P S) (fok:FnOk P f fn code) (cn:∀{R:Type},z7 (R:=R) call) (cok:∀{R:Type},a02 (R:=R) P S call)
 {k0 kr:κ} {F:List (El k0)×Unit→Option (List (El kr))} (hmd:S.md f=.fresh)
 (hl:∀b∈j6 code,a08 fn (m9 b)=b∧i6 P S 0 fn @loops (m9 b))
 (e:∀a,a3o P S call (loops (R:=List (El kr))) fn [.lsn k0 a] (b6l (Cod.lst kr))=F (a,()))
 (e0:a3o P S call (loops (R:=List (El kr))) fn [.nil] (b6l (Cod.lst kr))=F ([],())) :
 ∀ds a r,(CC.cons (Cod.lst k0) CC.nil).dec ds=some a→F a=some r→Con P S f ds [] ((Cod.lst kr).enc r) []:=by
 intro ds a r hds hF;obtain ⟨xs,⟨⟩⟩:=a;have hw:=(n5.cons (g9.lst k0) n5.nil) _ _ hds;have hcon:∀ds0,a3o P S call (loops (R:=List (El kr))) fn ds0 (b6l (Cod.lst kr))=some r→Con P S f ds0 [] ((Cod.lst kr).enc r) []:=λds0 h0=>b0g G G.ok.mixed fok cn cok hmd hl (WL.refl ds0) h0
 have c1:=hcon [.lsn k0 xs] (by rw[e];exact hF);have c2:xs=[]→Con P S f [.nil] [] ((Cod.lst kr).enc r) []:=λhx=>hcon [.nil] (by rw[e0];subst hx;exact hF)
 unfold Con at c1 c2 ⊢;rw[hmd]at c1 c2 ⊢;intro hb k ys hd w I J vs hp ha;have ha':=hw.args ha;obtain ⟨hs,hall⟩:=ha';have hs1:vs.size=1:=hs;have h0:vs[0]?=some vs[0]:=yao (by omega);have hv:DR S w I J vs[0] (.lst k0 xs):=hall 0 _ _ h0 rfl;have one:∀d,DR S w I J vs[0] d→b50 S w I J vs [d]:=λd hd=>⟨by simp[hs1],λi v d' h1 h2=>by
  cases i with
  |zero=>simp only[yas,yam]at h2;subst h2;rw[h0]at h1;cases h1;exact hd
  |succ i=>simp at h2⟩
 generalize hv0:vs[0]=v0 at hv one;cases hv with
 |lst0 a cap _ hn=>
  cases a with
  |none=>
   have hc:cap=0:=hn rfl;subst hc;exact c2 rfl hb k ys hd w I J vs hp (one _ .nil)
  |some b=>exact c1 hb k ys hd w I J vs hp (one _ (.lsn b 0 cap k0 [] (.lst0 _ _ _ hn)))
 |lst b off cap _ xs cv hcap hc hv=>exact c1 hb k ys hd w I J vs hp (one _ (.lsn _ _ cap k0 xs (.lst b off cap k0 xs cv hcap hc hv)))
end
end
section
def c29 (P:Program) (rec:Nat→Option (List Nat)):List Field→List Nat→Option (List Nat)
 | [],acc=>some acc
 |f::fs,acc=>bif Nat.beq f.offset acc.length then (match rec f.type with
  |some l=>bif Nat.beq l.length (P.cellsOf f.type) then c29 P rec fs (acc++l) else none
  |none=>none) else none
def f0x (l:List Nat):Nat→List Nat
 |0=>[]
 |n+1=>l++f0x l n
def b0q (P:Program):Nat→Nat→Option (List Nat)
 |0,_=>none
 |n+1,t=>match P.underlying t with
  |some (.struct fs)=>(match c29 P (b0q P n) fs.toList []with|some l=>bif Nat.beq l.length (P.cellsOf t) then some l else none|none=>none)
  |some (.array m e)=>(match b0q P n e with|some l=>bif Nat.beq l.length (P.cellsOf e)&&Nat.beq (f0x l m).length (P.cellsOf t) then some (f0x l m) else none|none=>none)
  |some .bool=>some [t]
  |some (.int _)=>some [t]
  |some .string=>some [t]
  |some (.slice _)=>some [t]
  |_=>none
abbrev DP:=∀(H:Type),DataW H→Prop
structure GoodD (G:DP):Prop where
 agg:∀{H:Type} {l:List (DataW H)},G H (.agg l)→∀d∈l,G H d
 slc:∀{H:Type} {l m:List (DataW H)},G H (.slice l m)→∀d∈l,G H d
section
variable {G:DP} {H:Type} {enc:TypeId×Value→H} {P:Program} {w:World}
abbrev TR (enc:TypeId×Value→H) (P:Program) (w:World) (fuel t:Nat) (cs:List Value):=DataW.trod enc P w 0 (λ_=>true) true fuel t cs
def b0a (G:DP) (enc:TypeId×Value→H) (P:Program) (w:World) (ts:List Nat) (cs:List Value):Prop:=
 cs.length=ts.length∧∀(j:Nat) u v,ts[j]?=some u→cs[j]?=some v→∃fuel x,TR enc P w fuel u [v]=some x∧G H x.1
def b0a.app {l m:List Nat} {cs ds:List Value} (h:b0a G enc P w l cs) (h':b0a G enc P w m ds):b0a G enc P w (l++m) (cs++ds):=by
 refine ⟨by simp[h.1,h'.1],λj u v h1 h2=>?_⟩;by_cases hj:j<l.length
 ·rw[yat hj]at h1;rw[yat (by rw[h.1];exact hj)]at h2;exact h.2 j u v h1 h2
 ·rw[yaG (by omega)]at h1;rw[yaG (by rw[h.1];omega),h.1]at h2;exact h'.2 _ u v h1 h2
def b39 {α β:Type} {f:α→Option β}:∀{l:List α} {r:List β},l.mapM f=some r→∀x∈l,∃y∈r,f x=some y:=by
 intro l
 induction l with
 |nil=>intro r _ x hx;cases hx
 |cons a l ih=>
  intro r h x hx;simp only[List.mapM_cons,Option.bind_eq_bind,Option.pure_def]at h;cases ha:f a with
  |none=>rw[ha]at h;cases h
  |some y=>
   rw[ha]at h;simp only[ybU]at h;cases hl:l.mapM f with
   |none=>rw[hl]at h;cases h
   |some ys=>
    rw[hl]at h;cases h
    rcases yaM.1 hx with rfl|hx
    ·exact ⟨y,yaK ..,ha⟩
    ·obtain ⟨z,hz,e⟩:=ih hl x hx;exact ⟨z,yaN _ hz,e⟩
def e1p {rec:Nat→Option (List Nat)} {cs:List Value} (hrec:∀t l,rec t=some l→∀fuel cs x,TR enc P w fuel t cs=some x→G H x.1→b0a G enc P w l cs) :
 ∀{fs:List Field} {acc l:List Nat},c29 P rec fs acc=some l→(∀f∈fs,∃fuel x,TR enc P w fuel f.type ((cs.drop f.offset).take (P.cellsOf f.type))=some x∧G H x.1)→b0a G enc P w acc (cs.take acc.length)→b0a G enc P w l (cs.take l.length):=by
 intro fs
 induction fs with
 |nil=>intro acc l h _ hp;simp only[c29,yam]at h;subst h;exact hp
 |cons f fs ih=>
  intro acc l h hf hp;simp only[c29,d7]at h;split at h
  rotate_left
  ·cases h
  rename_i ho;rw[yaS]at ho;split at h
  rotate_left
  ·cases h
  rename_i lf hlf;split at h
  rotate_left
  ·cases h
  rename_i hlen;rw[yaS]at hlen;obtain ⟨fuel,x,hx,hg⟩:=hf f (by simp);have h1:=hrec _ _ hlf fuel _ x hx hg;refine ih h (λg hg=>hf g (by simp[hg])) ?_;have e:cs.take (acc++lf).length=cs.take acc.length++(cs.drop f.offset).take (P.cellsOf f.type):=by
   rw[yaP,List.take_add,ho,hlen]
  rw[e];exact hp.app h1
def b7f (hG:GoodD G):∀(n:Nat) {t:Nat} {l:List Nat},b0q P n t=some l→∀fuel cs x,TR enc P w fuel t cs=some x→G H x.1→b0a G enc P w l cs:=by
 intro n
 induction n with
 |zero=>intro t l h;cases h
 |succ n ih=>
  intro t l h fuel cs x hx hg;cases fuel with
  |zero=>cases hx
  |succ fuel=>
   have one:∀{v:Value},cs=[v]→l=[t]→b0a G enc P w l cs:=by
    intro v hc hl;subst hc hl;refine ⟨rfl,λj u v' h1 h2=>?_⟩;cases j with
    |zero=>simp only[yas,yam]at h1 h2;subst h1 h2;exact ⟨_,_,hx,hg⟩
    |succ j=>simp at h1
   unfold b0q at h;unfold TR DataW.trod at hx;split at h
   ·rename_i fs hu;simp only[hu]at hx;split at h
    rotate_left
    ·cases h
    rename_i l' hl';rw[d7]at h;split at h
    rotate_left
    ·cases h
    rename_i hlen;rw[yaS]at hlen;cases h
    split at hx
    rotate_left
    ·cases hx
    rename_i hcl;rw[yaT]at hx;obtain ⟨xs,hm,rfl⟩:=hx;have hgs:∀y∈xs,G H y.1:=λy hy=>hG.agg hg _ (ybe.2 ⟨y,hy,rfl⟩)
    have:=e1p (enc:=enc) (w:=w) (cs:=cs) (λt l h=>ih h) hl' (λf hf=>let ⟨y,hy,e⟩:=b39 hm f hf;⟨fuel,y,e,hgs y hy⟩) ⟨by simp,λj u v h=>by simp at h⟩
    rwa [List.take_of_length_le (by rw[hcl,hlen];exact yav _)]at this
   ·rename_i m e hu;simp only[hu]at hx;split at h
    rotate_left
    ·cases h
    rename_i le hle;rw[d7]at h;split at h
    rotate_left
    ·cases h
    rename_i hlen;rw[yae,yaS,yaS]at hlen;cases h
    split at hx
    rotate_left
    ·cases hx
    rename_i hcl;rw[yaT]at hx;obtain ⟨xs,hm,rfl⟩:=hx;have hgs:∀y∈xs,G H y.1:=λy hy=>hG.agg hg _ (ybe.2 ⟨y,hy,rfl⟩)
    have hel:∀i,i<m→b0a G enc P w le ((cs.drop (i*le.length)).take le.length):=by
     intro i hi;obtain ⟨y,hy,e⟩:=b39 hm i (ybE.2 hi);rw[hlen.1];exact ih hle fuel _ y e (hgs y hy)
    have key:∀(m' k:Nat),k+m'=m→∀ds,ds=cs.drop (k*le.length)→ds.length=(f0x le m').length→b0a G enc P w (f0x le m') ds:=by
     intro m'
     induction m' with
     |zero=>intro k hk ds hd hl;simp only[f0x,ybh]at hl;rw[yaq hl];exact ⟨rfl,λj u v h=>by simp[f0x]at h⟩
     |succ m' ihm=>
      intro k hk ds hd hl;have e1:ds=ds.take le.length++ds.drop le.length:=(ya2 _ _).symm;rw[e1];refine b0a.app (l:=le) (m:=f0x le m') (by rw[hd];exact hel k (by omega)) (ihm (k+1) (by omega) _ ?_ ?_)
      ·rw[hd,List.drop_drop,ybf,yb7]
      ·rw[yaV,hl];simp[f0x]
    exact key m 0 (by omega) cs (by simp) (by rw[hcl,hlen.2])
   all_goals (first|(cases h;done)|skip)
   all_goals
    rename_i hu;simp only[yam]at h;simp only[hu]at hx;split at hx<;>first|exact one rfl h.symm|(cases hx;done)|skip
   all_goals (first|exact one rfl h.symm|simp_all)
end
section
variable {κ:Type} {El:κ→Type} {G:DP} {S:Sg κ El} {P:Program} {α β:Type}
def a63 (w:World) (b o:Nat):Prop:=∃v,w.cell? ⟨b,o,none⟩=some v
def m6 (G:DP) (P:Program) (S:Sg κ El) (u:Nat) (c:Cod κ El α) (R:α→Prop):Prop:=
 ∀(H:Type) (enc:TypeId×Value→H) (w:World) fuel v x,TR enc P w fuel u [v]=some x→G H x.1→∃a,R a∧DR S w (a63 w) (a63 w) v (c.enc a)
def e9 (G:DP) (P:Program) (S:Sg κ El) (ts:List Nat) (c:CC κ El α) (R:α→Prop):Prop:=
 ∀(H:Type) (enc:TypeId×Value→H) (w:World) cs,b0a G enc P w ts cs→∃a,R a∧cs.length=(c.enc a).length∧∀(i:Nat) v d,cs[i]?=some v→(c.enc a)[i]?=some d→DR S w (a63 w) (a63 w) v d
def e9.nil:e9 G P S [] (CC.nil:CC κ El Unit) (λ_=>True):=by
 intro H enc w cs h;have:cs=[]:=yaq (by simpa using h.1);subst this;exact ⟨(),trivial,rfl,λi v d h=>by simp at h⟩
def e9.cons {u:Nat} {ts:List Nat} {c:Cod κ El α} {r:CC κ El β} {R:α→Prop} {R':β→Prop} (h:m6 G P S u c R) (h':e9 G P S ts r R'):e9 G P S (u::ts) (CC.cons c r) (λp=>R p.1∧R' p.2):=by
 intro H enc w cs hp;cases cs with
 |nil=>exact absurd hp.1 (by simp)
 |cons v cs=>
  obtain ⟨fuel,x,hx,hg⟩:=hp.2 0 u v rfl rfl;obtain ⟨a,ha,hd⟩:=h H enc w fuel v x hx hg;obtain ⟨b,hb,hl,hall⟩:=h' H enc w cs ⟨by simpa using hp.1,λj u v h1 h2=>hp.2 (j+1) u v (by simpa using h1) (by simpa using h2)⟩;refine ⟨(a,b),⟨ha,hb⟩,by simp[CC.cons,hl],λi v' d h1 h2=>?_⟩;cases i with
  |zero=>simp only[CC.cons,yas,yam]at h1 h2;subst h1 h2;exact hd
  |succ i=>exact hall i v' d (by simpa using h1) (by simpa[CC.cons]using h2)
def e9.iso {ts:List Nat} {c:CC κ El β} {enc0:α→List (D κ El)} {to:β→α} {R:β→Prop} {R':α→Prop} (h:e9 G P S ts c R) (h0:∀b,enc0 (to b)=c.enc b) (hR:∀b,R b→R' (to b)):e9 G P S ts (c.iso enc0 to) R':=by
 intro H enc w cs hp;obtain ⟨b,hb,hl,hall⟩:=h H enc w cs hp;exact ⟨to b,hR b hb,by simp only[CC.iso,h0];exact hl,λi v d h1 h2=>hall i v d h1 (by simpa only[CC.iso,h0]using h2)⟩
def inK (k:IntKind) (n:Int):Prop:=(Lit.int k n).wf=true
def m6.int {u:Nat} {k:IntKind} (hu:P.underlying u=some (.int k)):m6 G P S u (Cod.int k) (inK k):=by
 intro H enc w fuel v x hx hg;cases fuel with
 |zero=>cases hx
 |succ fuel=>
  unfold TR DataW.trod at hx;simp only[hu]at hx;split at hx<;>try (cases hx;done)
  all_goals first
   |(
    rename_i k1 k2 n h1 h2;split at hx
    ·rename_i hk;cases h1;cases h2
     rw[hk.1];exact ⟨n,hk.2,.int _ _⟩
    ·cases hx)
   |simp_all
def m6.bool {u:Nat} (hu:P.underlying u=some .bool):m6 G P S u (Cod.bool) (λ_=>True):=by
 intro H enc w fuel v x hx hg;cases fuel with
 |zero=>cases hx
 |succ fuel=>
  unfold TR DataW.trod at hx;simp only[hu]at hx;split at hx<;>try (cases hx;done)
  all_goals first
   |(rename_i b h1 h2;cases h2;exact ⟨b,trivial,.bool _⟩)
   |simp_all
def m6.str {u n:Nat} (hu:P.underlying u=some .string) (hn:∀(H:Type) (b:List UInt8),G H (.lit (.string b))→b.length≤n):m6 G P S u (Cod.str) (λs=>s.length≤n):=by
 intro H enc w fuel v x hx hg;cases fuel with
 |zero=>cases hx
 |succ fuel=>
  unfold TR DataW.trod at hx;simp only[hu]at hx;split at hx<;>try (cases hx;done)
  all_goals first
   |(
    rename_i s h1 h2;split at hx
    ·rename_i hs;cases h2
     cases hx
     exact ⟨s.data.toList,hn _ _ hg,.str _⟩
    ·cases hx)
   |simp_all
def m6.lst (hG:GoodD G) {u e n:Nat} {k:κ} {ts:List Nat} {cc:CC κ El (El k)} {R:El k→Prop} [KdEq κ] (hu:P.underlying u=some (.slice e)) (hts:b0q P n e=some ts) (he:e9 G P S ts cc R) (hcc:S.enc k=cc.enc) (hsz:S.sz k=P.cellsOf e) (hpos:0<P.cellsOf e) (hlen:∀x,(cc.enc x).length=S.sz k) :
 m6 G P S u (Cod.lst k) (λxs=>xs.length≤maxLen∧∀x∈xs,R x):=by
 intro H enc w fuel v x hx hg;show ∃a:List (El k),(a.length≤maxLen∧∀x∈a,R x)∧DR S w (a63 w) (a63 w) v (.lst k a)
 cases fuel with
 |zero=>cases hx
 |succ fuel=>
  have main:∀(a:Addr) (len cap:Nat),v=.slice (some a) len cap→(len≤cap∧cap≤maxLen)→(∀i,i<len→∃z,(w.cells? 0 (a.add (i*P.cellsOf e)) (P.cellsOf e)).bind (DataW.trod enc P w 0 (λ_=>true) true fuel e)=some z∧G H z.1)→
   ∃a:List (El k),(a.length≤maxLen∧∀x∈a,R x)∧DR S w (a63 w) (a63 w) v (.lst k a):=by
   intro a len cap hv hb hm;subst hv;have hel:∀i,i<len→∃y:El k,R y∧∀j d,(S.enc k y)[j]?=some d→∃v,w.cell? ((a.add (i*P.cellsOf e)).add j)=some v∧DR S w (a63 w) (a63 w) v d:=by
    intro i hi;obtain ⟨z,hz,hg⟩:=hm i hi;rw[ya5]at hz;obtain ⟨cs,hcs,htr⟩:=hz;obtain ⟨y,hy,hl,hall⟩:=he H enc w cs (b7f hG n hts fuel cs z htr hg);refine ⟨y,hy,λj d hd=>?_⟩;rw[hcc]at hd;have hj:j<cs.length:=by rw[hl];exact (zL hd)
    obtain ⟨_,hn,hget⟩:=World.cells?_some hcs;refine ⟨cs[j],?_,hall j _ d (yab hj) hd⟩;rw[hget j (by omega)];exact yab hj
   cases len with
   |zero=>exact ⟨[],⟨by simp,λx hx=>by cases hx⟩,.lst0 _ _ _ (λh=>by cases h)⟩
   |succ len=>
    have hspot:a.spot=none:=by
     obtain ⟨y,hy,hc⟩:=hel 0 (by omega);have hl0:0<(S.enc k y).length:=by rw[hcc,hlen,hsz];exact hpos
     obtain ⟨v,hv,-⟩:=hc 0 _ (yab hl0);simp only[Nat.zero_mul,Addr.add,ybD]at hv;cases hs:a.spot with
     |none=>rfl
     |some q=>unfold World.cell? at hv;simp[hs]at hv;split at hv<;>cases hv
    obtain ⟨b,off,spot⟩:=a;simp only at hspot;subst hspot;have hch:∃xs:List (El k),xs.length=len+1∧(∀x∈xs,R x)∧∀i (hi:i<xs.length) j d,(S.enc k xs[i])[j]?=some d→∃v,w.cell? ⟨b,off+(i*S.sz k+j),none⟩=some v∧DR S w (a63 w) (a63 w) v d:=by
     have:∀m,m≤len+1→∃xs:List (El k),xs.length=m∧(∀x∈xs,R x)∧∀i (hi:i<xs.length) j d,(S.enc k xs[i])[j]?=some d→∃v,w.cell? ⟨b,off+(i*S.sz k+j),none⟩=some v∧DR S w (a63 w) (a63 w) v d:=by
      intro m
      induction m with
      |zero=>intro _;exact ⟨[],rfl,λx hx=>(by cases hx),λi hi=>(by simp at hi)⟩
      |succ m ihm=>
       intro hm';obtain ⟨xs,h1,h2,h3⟩:=ihm (by omega);obtain ⟨y,hy,hc⟩:=hel m (by omega);refine ⟨xs++[y],by simp[h1],λx hx=>?_,λi hi j d hd=>?_⟩
       ·rcases yau.1 hx with hx|hx
        ·exact h2 x hx
        ·simp at hx;subst hx;exact hy
       ·by_cases hlt:i<xs.length
        ·rw[yb1 hlt]at hd;exact h3 i hlt j d hd
        ·have hi':i=m:=by simp at hi;omega
         subst hi';rw[ybN (by omega)]at hd;simp only[h1,Nat.sub_self,List.getElem_cons_zero]at hd;obtain ⟨v,hv,hdr⟩:=hc j d hd;refine ⟨v,?_,hdr⟩;rw[a1f,a1f]at hv;rw[hsz,←yb9];exact hv
     exact this (len+1) (yav _)
    obtain ⟨xs,h1,h2,h3⟩:=hch;refine ⟨xs,⟨by rw[h1];omega,h2⟩,?_⟩;have key:=DR.lst (S:=S) (w:=w) (I:=a63 w) (J:=a63 w) b off cap k xs (λi j=>(w.cell? ⟨b,off+(i*S.sz k+j),none⟩).getD undef) (by rw[h1];exact hb.1) (λi j hi hj=>?_) (λi hi j d hd=>?_)
    ·rw[h1]at key;exact key
    ·have hl0:j<(S.enc k xs[i]).length:=by rw[hcc,hlen];exact hj
     obtain ⟨v,hv,-⟩:=h3 i hi j _ (yab hl0);rw[hv];exact ⟨rfl,v,hv⟩
    ·obtain ⟨v,hv,hdr⟩:=h3 i hi j d hd;rw[hv];exact hdr
  unfold TR DataW.trod at hx;simp only[hu]at hx;split at hx<;>try (cases hx;done)
  all_goals first
   |(rename_i e' h1 h2;cases h2;exact ⟨[],⟨by simp,λx hx=>by cases hx⟩,.lst0 _ _ _ (λ_=>rfl)⟩)
   |(
    rename_i e' a len cap h1 h2;cases h1
    split at hx
    ·rename_i hb;rw[ya5]at hx;obtain ⟨elems,hm,hx⟩:=hx;rw[yaT]at hx;obtain ⟨rest,-,rfl⟩:=hx;exact main a len cap (by cases h2;rfl) hb.2 (λi hi=>let ⟨y,hy,e⟩:=b39 hm i (ybE.2 hi);⟨y,e,hG.slc hg _ (ybe.2 ⟨y,hy,rfl⟩)⟩)
    ·cases hx)
   |simp_all
def e9.agg (hG:GoodD G) {t n:Nat} {ts:List Nat} {cc:CC κ El α} {R:α→Prop} (hts:b0q P n t=some ts) (h:e9 G P S ts cc R) {H:Type} {enc:TypeId×Value→H} {w:World} {v:Value} {d:DataW H} {ps:List MemPlace}
 (hv:∃cs,v=.agg cs) (hg:G H d) (hx:DataW.Trod enc P w 0 (λ_=>true) true t v d ps):∃a,R a∧DR S w (a63 w) (a63 w) v ((Cod.agg cc).enc a):=by
 obtain ⟨cs,rfl⟩:=hv;obtain ⟨fuel,hx⟩:=hx;obtain ⟨a,hR,hl,hall⟩:=h H enc w _ (b7f hG n hts fuel _ _ hx hg);refine ⟨a,hR,.agg cs _ (by simpa[Value.cells]using hl) (λi v d h1 h2=>hall i v d ?_ h2)⟩;simpa[Value.cells]using h1
end
end
section
section
variable {κ:Type} {El:κ→Type} {S:Sg κ El} {P:Program}
def d7n {w:World} {b o:Nat} (h:a63 w b o):b<w.heap.size:=by
 obtain ⟨v,hv⟩:=h;unfold World.cell? at hv;split at hv
 ·rename_i hb;exact (yah.1 hb).1
 ·cases hv
def e0u {f:Nat} {fn:Func} {code:Code} (fok:FnOk P f fn code) (hmd:S.md f=.data) {ds:List (D κ El)} (hcon:Con P S f ds [] (.bool true) []) {W:World} {args:Array Value} (hgl:b2m S W (a63 W)) (hgb:d3a S W []) (ha:b50 S W (a63 W) (a63 W) args ds) :
 Calls P f args W λe W'=>e=.returned (.bool true)∧RowKit.Below W.heap.size W W':=by
 unfold Con at hcon;rw[hmd]at hcon;have h:=hcon rfl W (a63 W) (a63 W) args ⟨hgl,λb o h=>d7n h,λb o h=>h,λb o h=>⟨d7n h,by simp⟩,hgb⟩ ha;unfold a1r at h;rw[MuLone.run_callFunc_enter fok.at_ fok.name fok.body args W]at h;simp only at h;refine Calls.mono h (λe W' he=>?_);cases e with
 |returned v=>
  obtain ⟨I',hg,hd⟩:=he;exact ⟨by rw[hd.bool_inv],⟨hg.os,hg.tape,hg.out,hg.size,λb hb=>hg.keep b hb⟩⟩
 |_=>exact he.elim
def e6w {w:World}:b50 S w (a63 w) (a63 w) #[] ([]:List (D κ El)):=⟨rfl,λi v d h=>by simp at h⟩
def b2t {w:World} {v:Value} {vs:Array Value} {d:D κ El} {ds:List (D κ El)} (h:DR S w (a63 w) (a63 w) v d) (h':b50 S w (a63 w) (a63 w) vs ds):b50 S w (a63 w) (a63 w) (#[v]++vs) (d::ds):=by
 refine ⟨by simp[h'.1];omega,λi v' d' h1 h2=>?_⟩;cases i with
 |zero=>
  simp only[yas,yam]at h2;subst h2;rw[ybJ (by simp)]at h1;simp at h1;subst h1;exact h
 |succ i=>
  rw[ybT (by simp)]at h1;exact h'.2 i v' d' (by simpa using h1) (by simpa using h2)
def e8p {W:World} (h:∀n k xs,S.glob n=some ⟨k,xs⟩→∀i (hi:i<xs.length) j d,(S.enc k xs[i])[j]?=some d→∃v,W.cell? ⟨n,i*S.sz k+j,none⟩=some v∧DR S W (a63 W) (a63 W) v d):b2m S W (a63 W):=
 λn k xs hg i hi j d hd=>let ⟨v,h1,h2⟩:=h n k xs hg i hi j d hd;⟨v,h1,⟨v,h1⟩,h2⟩
def m6.dr {G:DP} {α:Type} {u:Nat} {c:Cod κ El α} {R:α→Prop} (h:m6 G P S u c R) {H:Type} {enc:TypeId×Value→H} {w:World} {v:Value} {d:DataW H} {ps:List MemPlace} (hv:v.cells.toList=[v]) (hg:G H d)
 (hx:DataW.Trod enc P w 0 (λ_=>true) true u v d ps):∃a,R a∧DR S w (a63 w) (a63 w) v (c.enc a):=by
 obtain ⟨fuel,hx⟩:=hx;rw[hv]at hx;exact h H enc w fuel v _ hx hg
end
end
section
section
variable {κ:Type} {El:κ→Type} {α β γ ρ:Type}
class CodC (c:Cod κ El α):Prop where ok:g9 c
class CCC (c:CC κ El α):Prop where ok:n5 c
class FCC (c:FC κ El α):Prop where ok:a4r c
instance (k:IntKind):CodC (Cod.int k:Cod κ El Int):=⟨g9.int k⟩
instance:CodC (Cod.bool:Cod κ El Bool):=⟨g9.bool⟩
instance:CodC (Cod.str:Cod κ El (List UInt8)):=⟨g9.str⟩
instance:CodC (Cod.ifc:Cod κ El Bool):=⟨g9.ifc⟩
instance:CodC (Cod.unit:Cod κ El Unit):=⟨g9.unit⟩
instance (n:Nat):CodC (Cod.ptrc n:Cod κ El Unit):=⟨g9.ptrc n⟩
instance (n o:Nat):CodC (Cod.ptro n o:Cod κ El Unit):=⟨g9.ptro n o⟩
instance [KdEq κ] (k:κ):CodC (Cod.lst k:Cod κ El (List (El k))):=⟨g9.lst k⟩
instance (c:CC κ El α) [CCC c]:CodC (Cod.agg c):=⟨g9.agg CCC.ok⟩
instance (c:CC κ El α) [CCC c]:CodC (Cod.cptr c):=⟨g9.cptr CCC.ok⟩
instance (c:CC κ El (α×β×Unit)) [CCC c]:CodC (Cod.tup2 c):=⟨g9.tup2 CCC.ok⟩
instance (c:CC κ El (α×β×γ×Unit)) [CCC c]:CodC (Cod.tup3 c):=⟨g9.tup3 CCC.ok⟩
instance {δ:Type} (c:CC κ El (α×β×γ×δ×Unit)) [CCC c]:CodC (Cod.tup4 c):=⟨g9.tup4 CCC.ok⟩
instance (f:Nat) (p:CC κ El α) (c:CC κ El β) [CCC p] [CCC c]:CodC (Cod.fnc f p c):=⟨g9.fnc f CCC.ok CCC.ok⟩
def Cod.clo (f:Nat) (c:CC κ El β):Cod κ El β:=(Cod.fnc f CC.nil c).iso (λg=>g.2) (λg=>((),g))
instance (f:Nat) (c:CC κ El β) [CCC c]:CodC (Cod.clo f c):=⟨g9.iso (g9.fnc f n5.nil CCC.ok) (λ_=>rfl)⟩
instance:CCC (CC.nil:CC κ El Unit):=⟨n5.nil⟩
instance (c:Cod κ El α) (r:CC κ El β) [CodC c] [CCC r]:CCC (CC.cons c r):=⟨n5.cons CodC.ok CCC.ok⟩
instance (c:Cod κ El α) [CodC c]:CCC (CC.one c):=⟨n5.one CodC.ok⟩
instance:FCC (FC.nil:FC κ El Unit):=⟨a4r.nil⟩
instance (s:Nat) (c:Cod κ El α) (r:FC κ El β) [CodC c] [FCC r]:FCC (FC.slot s c r):=⟨a4r.slot s CodC.ok FCC.ok⟩
instance (s b:Nat) (r:FC κ El β) [FCC r]:FCC (FC.ptr s b r):=⟨a4r.ptr s b FCC.ok⟩
instance (s b:Nat) (r:FC κ El β) [FCC r]:FCC (FC.arr s b r):=⟨a4r.arr s b FCC.ok⟩
instance (s:Nat) (r:FC κ El β) [FCC r]:FCC (FC.nilS s r):=⟨a4r.nilS s FCC.ok⟩
instance (s f:Nat) (pre caps:List Nat) (r:FC κ El β) [FCC r]:FCC (FC.clo s f pre caps r):=⟨a4r.clo s f pre caps FCC.ok⟩
instance (b:Nat) (c:CC κ El α) (r:FC κ El β) [CCC c] [FCC r]:FCC (FC.box b c r):=⟨a4r.box b CCC.ok FCC.ok⟩
instance [KdEq κ] (n:Nat) (k:κ) (s:Bool) (r:FC κ El β) [FCC r]:FCC (FC.own n k s r):=⟨a4r.own n k s FCC.ok⟩
instance (s:Nat) (x:FL) (r:FC κ El β) [FCC r]:FCC (FC.fix s x r):=⟨a4r.fix s x FCC.ok⟩
instance (s:Nat) (x:List FL) (r:FC κ El β) [FCC r]:FCC (FC.fixa s x r):=⟨a4r.fixa s x FCC.ok⟩
instance (s:Nat) (x:List FL) (r:FC κ El β) [FCC r]:FCC (FC.fixb s x r):=⟨a4r.fixb s x FCC.ok⟩
instance [KdEq κ] (n:Nat) (k:κ) (r:FC κ El β) [FCC r]:FCC (FC.map n k r):=⟨a4r.map n k FCC.ok⟩
end
section
variable {κ:Type} {El:κ→Type} {S:Sg κ El} {P:Program}
variable {R:Type} {f:Nat} {α β ρ:Type}
def cl (n:Nat) (s:a4m κ El R) (r:Nat→a4m κ El R):Nat→a4m κ El R:=λf ds bs k=>bif Nat.beq f n then s ds bs k else r f ds bs k
def c0:Nat→a4m κ El R:=λ_ _ _ _=>none
def si (ac:CC κ El α) (s1 s2:a4m κ El R):a4m κ El R:=λds bs k=>d5e (ac.dec ds) (s1 ds bs k) (s2 ds bs k)
def s0:a4m κ El R:=λ_ _ _=>none
structure CG (P:Program) (S:Sg κ El) (call:{R:Type}→Nat→a4m κ El R):Prop where
 nat:∀{R:Type},z7 (R:=R) call
 ok:∀{R:Type},a02 (R:=R) P S call
structure SG (P:Program) (S:Sg κ El) (f:Nat) (sem:{R:Type}→a4m κ El R):Prop where
 nat:∀{R:Type},a9b (R:=R) sem
 ok:∀{R:Type},b81 (R:=R) P S f sem
def cg0:CG P S (λ{R}=>(c0:Nat→a4m κ El R)):=⟨c6m,d3t⟩
def cgc {n:Nat} {s:{R:Type}→a4m κ El R} {r:{R:Type}→Nat→a4m κ El R} (h:SG P S n @s) (hr:CG P S @r):CG P S (λ{R}=>cl n (s (R:=R)) (r (R:=R))):=⟨c1v h.nat hr.nat,c6n h.ok hr.ok⟩
def sg0:SG P S f (λ{R}=>(s0:a4m κ El R)):=⟨f0z,g3i⟩
def sgi {ac:CC κ El α} {s1 s2:{R:Type}→a4m κ El R} (h1:SG P S f @s1) (h2:SG P S f @s2):SG P S f (λ{R}=>si ac (s1 (R:=R)) (s2 (R:=R))):=⟨e3y ac h1.nat h2.nat,f00 ac h1.ok h2.ok⟩
def sgP {ac:CC κ El α} {rc:Cod κ El ρ} {F:α→Option ρ} (h:∀ds a r,ac.dec ds=some a→F a=some r→Con P S f ds [] (rc.enc r) []):SG P S f (λ{R}=>(s9 ac rc F:a4m κ El R)):=⟨f03,g3m h⟩
def sgM {ac:CC κ El α} {bc:BC κ El β} {rc:Cod κ El ρ} {F:α→β→Option (ρ×β)} (h:∀ds bs a b r b',ac.dec ds=some a→bc.dec bs=some b→F a b=some (r,b')→Con P S f ds bs (rc.enc r) (bc.enc b')):SG P S f (λ{R}=>(b8u ac bc rc F:a4m κ El R)):=⟨f01,g3k h⟩
def sgN {ac:CC κ El α} {cc:CC κ El ρ} {F:α→Option ρ} (h:∀ds a r,ac.dec ds=some a→F a=some r→Con P S f ds [] (.tup []) [cc.enc r]):SG P S f (λ{R}=>(f5x ac cc F:a4m κ El R)):=⟨f02,g3l h⟩
def SG.con {ac:CC κ El α} {rc:Cod κ El ρ} {F:α→Option ρ} (h:SG P S f (λ{R}=>(s9 ac rc F:a4m κ El R))) {ds:List (D κ El)} {a:α} {r:ρ} (hd:ac.dec ds=some a) (hf:F a=some r):Con P S f ds [] (rc.enc r) []:=by
 obtain ⟨d,bs',h1,h2⟩:=h.ok ds [] (λd bs=>some (d,bs)) (rc.enc r,[]) (by unfold s9;simp[hd,hf]);cases h1
 exact h2
abbrev Lp (κ:Type) (El:κ→Type) (R:Type):=Nat→St κ El→(Ex→St κ El→Option R)→Option R
def lp (n:Nat) (s:St κ El→(Ex→St κ El→Option R)→Option R) (r:Lp κ El R):Lp κ El R:=λi st k=>bif Nat.beq i n then s st k else r i st k
def l0:Lp κ El R:=λ_ _ _=>none
variable [KdEq κ] {m:Nat} {fn:Func} {loops:{R:Type}→Lp κ El R} {call:{R:Type}→Nat→a4m κ El R}
def ptC {ta:List (Nat×Nat×κ)} {se ss bs as:List Nat} {fc:FC κ El α} [FCC fc] (sgk:SgOk S) (hh:b6b m ta bs as fc.bs fc.as=true):g6c P S m (g6n ta se ss bs as) fc:=g2x sgk FCC.ok hh
def prC {rs ps bs:List Nat} {fc:FC κ El α} [FCC fc] (sgk:SgOk S) (hh:b6b (κ:=κ) m [] bs [] fc.bs fc.as=true):g6c P S m (c0u rs ps bs) fc:=d5m sgk FCC.ok hh
def a4n {ac:CC κ El α} {rc:Cod κ El ρ} {F:α→Option ρ} [CCC ac] [CodC rc] (G:GoodP P S) (hat:P.funcs[f]?=some fn) {ids:List Nat} (fb:fnB P f fn ids=true) (hmd:S.md f=.data) (cc:CG P S @call)
 (hl:∀i∈ids,i6 P S 0 fn @loops i) (e:∀a,d6j P S call (loops (R:=ρ)) fn (ac.enc a) [] (b6l rc)=F a):SG P S f (λ{R}=>(s9 ac rc F:a4m κ El R)):=by
 obtain ⟨code,fok,hn,hids⟩:=a07 hat fb;exact sgP (d0l G G.ok.mixed fok cc.nat cc.ok CCC.ok CodC.ok hmd (c2u fok hids hn hl) e)
def d37 {ac:CC κ El α} {cb:CC κ El β} {rc:Cod κ El ρ} {F:α→β→Option (ρ×β)} [CCC ac] [CCC cb] [CodC rc] (G:GoodP P S) (hat:P.funcs[f]?=some fn) {ids:List Nat} (fb:fnB P f fn ids=true) (hmd:S.md f=.mut) (cc:CG P S @call)
 (hl:∀i∈ids,i6 P S 1 fn @loops i) (e:∀a b,d6j P S call (loops (R:=ρ×β)) fn (ac.enc a) ((BC.one cb).enc b) (h3c rc (BC.one cb))=F a b):SG P S f (λ{R}=>(b8u ac (BC.one cb) rc F:a4m κ El R)):=by
 obtain ⟨code,fok,hn,hids⟩:=a07 hat fb;exact sgM (d8m G G.ok.mixed fok cc.nat cc.ok CCC.ok (e59.one CCC.ok) CodC.ok (m:=1) (λ_=>rfl) (by show 1<99999;decide) hmd (c2u fok hids hn hl) e)
def h57 {ac:CC κ El α} {rc:CC κ El ρ} {F:α→Option ρ} [CCC ac] [CCC rc] (G:GoodP P S) (hat:P.funcs[f]?=some fn) {ids:List Nat} (fb:fnB P f fn ids=true) (hmd:S.md f=.newb) (cc:CG P S @call)
 (hl:∀i∈ids,i6 P S 0 fn @loops i) (e:∀a,b04 P S call (loops (R:=ρ)) fn (ac.enc a) (h4e rc)=F a):SG P S f (λ{R}=>(f5x ac rc F:a4m κ El R)):=by
 obtain ⟨code,fok,hn,hids⟩:=a07 hat fb;exact sgN (d0o G G.ok.mixed fok cc.nat cc.ok CCC.ok CCC.ok hmd (c2u fok hids hn hl) e)
def g87 {k0 kr:κ} {F:List (El k0)×Unit→Option (List (El kr))} (G:GoodP P S) (hat:P.funcs[f]?=some fn) {ids:List Nat} (fb:fnB P f fn ids=true) (hmd:S.md f=.fresh) (cc:CG P S @call)
 (hl:∀i∈ids,i6 P S 0 fn @loops i) (e:∀a,a3o P S call (loops (R:=List (El kr))) fn [.lsn k0 a] (b6l (Cod.lst kr))=F (a,()))
 (e0:a3o P S call (loops (R:=List (El kr))) fn [.nil] (b6l (Cod.lst kr))=F ([],())):SG P S f (λ{R}=>(s9 (CC.cons (Cod.lst k0) CC.nil) (Cod.lst kr) F:a4m κ El R)):=by
 obtain ⟨code,fok,hn,hids⟩:=a07 hat fb;exact sgP (d9o G fok cc.nat cc.ok hmd (c2u fok hids hn hl) e e0)
def g6h {ac:CC κ El α} {kr:κ} {F:List (El kr)×α→Option (List (El kr))} [CCC ac] (G:GoodP P S) (hat:P.funcs[f]?=some fn) {ids:List Nat} (fb:fnB P f fn ids=true) (hmd:S.md f=.inpl) (cc:CG P S @call)
 (hl:∀i∈ids,i6 P S MA fn @loops i) (e:∀a,b03 P S call (loops (R:=List (El kr))) fn kr a.1 (ac.enc a.2) (b6l (Cod.lst kr))=F a):SG P S f (λ{R}=>(s9 (CC.cons (Cod.lst kr) ac) (Cod.lst kr) F:a4m κ El R)):=by
 obtain ⟨code,fok,hn,hids⟩:=a07 hat fb;exact sgP (d0n G G.ok.mixed fok cc.nat cc.ok CCC.ok hmd (c2u fok hids hn hl) e)
end
end
section
section
variable {κ:Type} {El:κ→Type}
inductive OC (κ:Type) (El:κ→Type):Type→Type 1
 |x {α:Type} (i:Nat) (ss bs as:List Nat) (fo:FC κ El α) [h:FCC fo]:OC κ El α
 |r {α:Type} (rs ps bs:List Nat) (fo:FC κ El α) [h:FCC fo]:OC κ El α
 |xs {α β:Type} (i:Nat) (ss bs as:List Nat) (fo:FC κ El α) [h:FCC fo] (rest:OC κ El β):OC κ El (α⊕β)
def OC.outs {β γ:Type}:OC κ El β→(β→γ)→Ex→St κ El→Option γ
 |.x i ss bs as fo (h:=_),f,e,st=>(match e with | .exit j=>bif Nat.beq j i then b4h (g6n [] [] ss bs as) fo st f else none|_=>none)
 |.r rs ps bs fo (h:=_),f,e,st=>(match e with | .ret=>b4h (c0u rs ps bs) fo st f|_=>none)
 |.xs i ss bs as fo rest (h:=_),f,e,st=>(match e with
  |.exit j=>bif Nat.beq j i then b4h (g6n [] [] ss bs as) fo st (λa=>f (.inl a)) else rest.outs (λy=>f (.inr y)) (.exit j) st
  |.ret=>rest.outs (λy=>f (.inr y)) .ret st
  |.normal=>none)
def OC.outk {β R:Type}:OC κ El β→β→(Ex→St κ El→Option R)→Option R
 |.x i _ _ _ fo (h:=_),b,k=>k (.exit i) (fo.enc b)
 |.r _ _ _ fo (h:=_),b,k=>k .ret (fo.enc b)
 |.xs i _ _ _ fo rest (h:=_),b,k=>(match b with | .inl a=>k (.exit i) (fo.enc a) | .inr y=>rest.outk y k)
def OC.out {β:Type}:OC κ El β→β→Ex×St κ El
 |.x i _ _ _ fo (h:=_),b=>(.exit i,fo.enc b)
 |.r _ _ _ fo (h:=_),b=>(.ret,fo.enc b)
 |.xs i _ _ _ fo rest (h:=_),b=>(match b with | .inl a=>(.exit i,fo.enc a) | .inr y=>rest.out y)
def OC.good {β:Type} (m:Nat):OC κ El β→Bool
 |.x _ _ bs as fo (h:=_)=>b6b (κ:=κ) m [] bs as fo.bs fo.as
 |.r _ _ bs fo (h:=_)=>b6b (κ:=κ) m [] bs [] fo.bs fo.as
 |.xs _ _ bs as fo rest (h:=_)=>b6b (κ:=κ) m [] bs as fo.bs fo.as&&rest.good m
def OC.outk_out {β R:Type} (k:Ex→St κ El→Option R):∀(o:OC κ El β) (b:β),o.outk b k=k (o.out b).1 (o.out b).2:=by
 intro o
 induction o with
 |x=>intro b;simp only[OC.outk,OC.out]
 |r=>intro b;simp only[OC.outk,OC.out]
 |xs i ss bs as fo rest ih=>
  intro b;cases b with
  |inl x=>simp only[OC.outk,OC.out]
  |inr y=>simp only[OC.outk,OC.out];exact ih y
end
section
variable {κ:Type} {El:κ→Type} {S:Sg κ El} {P:Program} {m:Nat} [KdEq κ]
def OC.ok {β:Type} (sgk:SgOk S):∀(o:OC κ El β),o.good m=true→∀{γ:Type} (f:β→γ) (e:Ex) (st:St κ El) (c:γ),o.outs f e st=some c→∃b,c=f b∧(o.out b).1=e∧c9v P S m st (o.out b).2:=by
 intro o
 induction o with
 |x i ss bs as fo=>
  intro hg γ f e st c h;simp only[OC.good]at hg;cases e with
  |exit j=>
   simp only[OC.outs,d7]at h;split at h
   ·rename_i e;rw[yaS]at e;subst e;obtain ⟨x,rfl,hto⟩:=a7s (P:=P) (S:=S) (m:=m) (ptC sgk hg) h;refine ⟨x,rfl,?_⟩;simp only[OC.out];exact ⟨trivial,hto⟩
   ·cases h
  |ret=>simp only[OC.outs]at h;cases h
  |normal=>simp only[OC.outs]at h;cases h
 |r rs ps bs fo=>
  intro hg γ f e st c h;simp only[OC.good]at hg;cases e with
  |exit j=>simp only[OC.outs]at h;cases h
  |normal=>simp only[OC.outs]at h;cases h
  |ret=>
   simp only[OC.outs]at h;obtain ⟨x,rfl,hto⟩:=a7s (P:=P) (S:=S) (m:=m) (prC sgk hg) h;refine ⟨x,rfl,?_⟩;simp only[OC.out];exact ⟨trivial,hto⟩
 |xs i ss bs as fo rest ih=>
  intro hg γ f e st c h;simp only[OC.good,yae]at hg;cases e with
  |normal=>simp only[OC.outs]at h;cases h
  |ret=>
   simp only[OC.outs]at h;obtain ⟨b,h1,h2,h3⟩:=ih hg.2 _ _ _ _ h;refine ⟨.inr b,h1,?_⟩;simp only[OC.out];exact ⟨h2,h3⟩
  |exit j=>
   simp only[OC.outs,d7]at h;split at h
   ·rename_i e;rw[yaS]at e;subst e;obtain ⟨x,rfl,hto⟩:=a7s (P:=P) (S:=S) (m:=m) (ptC sgk hg.1) h;refine ⟨.inl x,rfl,?_⟩;simp only[OC.out];exact ⟨trivial,hto⟩
   ·obtain ⟨b,h1,h2,h3⟩:=ih hg.2 _ _ _ _ h;refine ⟨.inr b,h1,?_⟩;simp only[OC.out];exact ⟨h2,h3⟩
structure LD (κ:Type) (El:κ→Type) (α β:Type) where
 ta:List (Nat×Nat×κ)
 se:List Nat
 ss:List Nat
 bs:List Nat
 as:List Nat
 fc:FC κ El α
 [ok:FCC fc]
 step:α→Option (α⊕β)
 oc:OC κ El β
abbrev LD.pr {α β:Type} (L:LD κ El α β):St κ El→Option (St κ El):=g6n L.ta L.se L.ss L.bs L.as
abbrev LD.sem {α β R:Type} (L:LD κ El α β):St κ El→(Ex→St κ El→Option R)→Option R:=h3g L.pr L.fc L.step (λb k=>L.oc.outk b k)
abbrev LD.leaf {α β:Type} (L:LD κ El α β):Ex→St κ El→Option (α⊕β):=d4u L.pr L.fc (L.oc.outs (λb=>b))
def LD.good {α β:Type} (L:LD κ El α β) (m:Nat) (fn:Func) (n:Nat) (ids inn:List Nat):Bool:=
 ids.any (Nat.beq n)&&(fnB.beqL ((j6 (a08 fn n)).map m9) inn&&(b6b m L.ta L.bs L.as L.fc.bs L.fc.as&&L.oc.good m))
variable {f:Nat} {α β ρ:Type} {fn:Func} {loops:{R:Type}→Lp κ El R} {call:{R:Type}→Nat→a4m κ El R}
def t7 {n:Nat} (L:LD κ El α β) (G:GoodP P S) (hat:P.funcs[f]?=some fn) {ids:List Nat} (fb:fnB P f fn ids=true) (cc:CG P S @call) {inn:List Nat} (hl:∀i∈inn,i6 P S m fn @loops i)
 (el:∀a,evc P S call (loops (R:=α⊕β)) (a08 fn n) (L.fc.enc a) L.leaf=L.step a) (hb:L.good m fn n ids inn=true)
 (heq:∀{R:Type} (st:St κ El) (k:Ex→St κ El→Option R),loops n st k=L.sem st k):i6 P S m fn @loops n:=by
 obtain ⟨code,fok,hn,hids⟩:=a07 hat fb;unfold LD.good at hb;simp only[yae]at hb;obtain ⟨h1,h2,h3,h4⟩:=hb;have:=L.ok;refine e16 L.oc.out G fok hids hn (a3g.1 h1) cc.nat cc.ok (d7z h2) hl el (ptC G.sgk h3) ?_ (λb k=>L.oc.outk_out k b) heq;intro e st b h;obtain ⟨b',e1,e2,e3⟩:=L.oc.ok (P:=P) G.sgk h4 _ _ _ _ h;rw[e1];exact ⟨e2,e3⟩
def a03 {ac:CC κ El α} {rc:Cod κ El ρ} {F:α→Option ρ} [CCC ac] [CodC rc] (G:GoodP P S) (hat:P.funcs[f]?=some fn) (fb:fnB P f fn []=true) (hmd:S.md f=.data) (cc:CG P S @call)
 (e:∀a,d6j P S call l0 fn (ac.enc a) [] (b6l rc)=F a):SG P S f (λ{R}=>(s9 ac rc F:a4m κ El R)):=a4n (loops:=l0) G hat fb hmd cc d9 e
end
end
section
section
variable {κ:Type} {El:κ→Type}
def h39 (bx:List (Nat×List (D κ El))):Nat→List Nat→List Nat→List Nat
 |0,_,seen=>seen
 |_+1,[],seen=>seen
 |n+1,b::work,seen=>bif seen.any (Nat.beq b) then h39 bx n work seen else
  h39 bx n ((match c8 b bx with|some cs=>(cs.flatMap a8m).filterMap (λp=>bif Nat.beq p.1 0 then some p.2 else none)|none=>[])++work) (b::seen)
def h0m (st:St κ El) (ss:List Nat):List Nat:=
 match st.bx.map (·.1),st.ar.map (·.1) with
 |bs,as=>ss.filter λs=>match c8 s st.env with|some d=>c87 bs as d|none=>false
def nub:List Nat→List Nat→List Nat
 | [],acc=>acc
 |n::l,acc=>bif acc.any (Nat.beq n) then nub l acc else nub l (n::acc)
def h0v (l:List (Nat×Nat)):List Nat:=l.filterMap λp=>bif Nat.beq p.1 0 then some p.2 else none
def g8l (l:List (Nat×Nat)):List Nat:=l.filterMap λp=>bif Nat.beq p.1 0 then none else some p.2
def mbs (m:Nat):List Nat:=bif Nat.beq m MA then [] else (List.range m).map (MB + ·)
def gcL (m:Nat) (ss:List Nat) (st:St κ El):Option (St κ El):=
 match h0m st ss with
 |ss=>match (a5l st.env ss).flatMap (λp=>a8m p.2) with
 |fs=>match h39 st.bx 4096 (mbs m++h0v fs) []with
  |bs=>match nub (g8l (fs++bs.flatMap λb=>match c8 b st.bx with|some cs=>cs.flatMap a8m|none=>[])) (bif Nat.beq m MA then [MA] else []) with
   |as=>bif (bif Nat.beq m MA then as.any (Nat.beq MA) else Nat.ble m 1000&&(List.range m).all (λj=>bs.any (Nat.beq (MB+j)))) then c9c ss bs as st else none
section
variable [KdEq κ] {P:Program} {S:Sg κ El}
def f39 {m:Nat} {ss:List Nat} {st st1:St κ El} (h:gcL m ss st=some st1):c9v P S m st st1:=by
 intro c g a w hr hc;unfold gcL at h;simp only at h;generalize nub _ _=as at h;generalize h0m _ _=ss at h;generalize h39 _ _ _ _=bs at h;cases hb:Nat.beq m MA with
 |true=>
  rw[hb]at h;simp only[yac]at h;rw[d7]at h;split at h
  ·rename_i h4;rw[yaS]at hb;subst hb;have hb:=(Cx.ar_own hc).2;exact b2g h hr ⟨λj hj=>(by rw[hb]at hj;cases hj),λ_=>a3g.1 h4⟩
  ·cases h
 |false=>
  rw[hb]at h;simp only[yaa]at h;rw[d7]at h;split at h
  ·rename_i h4;rw[yae,Nat.ble_eq]at h4;obtain ⟨h5,h6⟩:=Cx.ar_box hc (Nat.lt_of_le_of_lt h4.1 (by decide));exact b2g h hr ⟨λj hj=>a3g.1 (yaj.1 h4.2 j (by simpa[h6]using hj)),λhp=>absurd h5 hp⟩
  ·cases h
end
variable [KdEq κ] (P:Program) (S:Sg κ El)
def h3w (call:Nat→a4m κ El (St κ El⊕(Ex×St κ El))) (loops:Lp κ El (St κ El⊕(Ex×St κ El))) (m:Nat) (ss:List Nat) (body:Code) (st:St κ El):Option (St κ El⊕(Ex×St κ El)):=
 evc P S call loops body st (λe st=>match e with
  |.normal=>(match gcL m ss st with|some st=>some (.inl st)|none=>none)
  |.exit i=>some (.inr (.exit i,st))
  |.ret=>some (.inr (.ret,st)))
def a4t (call:{R:Type}→Nat→a4m κ El R) (fn:Func) (m:Nat):Nat→{R:Type}→Lp κ El R
 |0,_=>l0
 |d+1,_=>λid st k=>match nub (st.env.map (·.1)) []with
  |ss=>match gcL m ss st with
   |some st=>(match o7 (h3w P S call (a4t call fn m d) m ss (a08 fn id)) c1a st with
    |some (e,st)=>k e st
    |none=>none)
   |none=>none
def e17 {call:{R:Type}→Nat→a4m κ El R} {f:Nat} {fn:Func} {code:Code} (G:GoodP P S) (fok:FnOk P f fn code) {ids:List Nat} (hids:(j6 code).map m9=ids) (hn:a7q ids=true)
 (cn:∀{R:Type},z7 (R:=R) call) (cok:∀{R:Type},a02 (R:=R) P S call) {m:Nat}:∀(d:Nat),∀id∈ids,i6 P S m fn (λ{R}=>a4t P S @call fn m d (R:=R)) id:=by
 intro d
 induction d with
 |zero=>intro id _ nt _ R st k r h;cases h
 |succ d ih=>
  intro id hm nt hnt R st k r h;obtain ⟨hmem,hfr⟩:=d19 fok.body hids hn hm;unfold a4t at h;simp only at h;generalize nub _ _=ss at h;split at h
  ·rename_i st1 h1;split at h
   ·rename_i e st2 hw;refine ⟨e,st2,h,λ{c g act w} hr hnt' hm' {Q} hQ=>?_⟩;obtain ⟨g',hr'⟩:=f39 (P:=P) (S:=S) h1 hr hm';refine wp_loop_rounds c1a (c5s (α:=St κ El) (β:=Ex×St κ El) (enc:=λst=>st) (out:=λp=>p) (λa x hs=>?_) c1a hw hr' hnt' hm' hQ);unfold h3w at hs;obtain ⟨e',st',hleaf,hev⟩:=d91 (fn:=fn) (loops:=λ{R}=>a4t P S @call fn m d (R:=R)) G G.ok.mixed cn cok ((fok.dst.mono hnt).body hmem)
     (λb hb=>⟨a91 fok.body (by rw[hids];exact hn) b (a4p hmem hb),ih _ (by rw[←hids];exact ybe.2 ⟨b,a4p hmem hb,rfl⟩) nt hnt⟩) hs
    cases e' with
    |normal=>
     simp only at hleaf;split at hleaf
     ·rename_i st3 h3;cases hleaf
      exact ⟨st',f39 (P:=P) h3,hev⟩
     ·cases hleaf
    |exit i=>cases hleaf;exact ⟨st',.exit i,by simp,rfl,λhr _=>⟨_,hr⟩,hev⟩
    |ret=>cases hleaf;exact ⟨st',.ret,by simp,rfl,λhr _=>⟨_,hr⟩,hev⟩
   ·cases h
  ·cases h
def idD:Cod κ El (D κ El):=⟨λd=>d,some⟩
def idC:CC κ El (List (D κ El)):=⟨λd=>d,some⟩
def idB (m:Nat):BC κ El {bs:List (List (D κ El)) // bs.length=m}:=⟨λb=>b.1,λbs=>if h:bs.length=m then some ⟨bs,h⟩ else none⟩
def e0e:g9 (idD:Cod κ El (D κ El)):=λd a h=>by cases h;exact .refl _
def b66:n5 (idC:CC κ El (List (D κ El))):=λd a h=>by cases h;exact .refl _
def h0f (m:Nat):e59 (idB m:BC κ El _):=λbs b h=>by
 unfold idB at h;simp only at h;split at h
 ·cases h;exact ⟨rfl,λj cs cs' h1 h2=>by simp only[idB]at h2;rw[h1]at h2;cases h2;exact .refl _⟩
 ·cases h
def h5h (call:{R:Type}→Nat→a4m κ El R) (fn:Func) (md:Md) (dep:Nat) (ds:List (D κ El)) (bs:List (List (D κ El))):Option (D κ El×List (List (D κ El))):=
 match md with
 |.data=>(match bs with
  | []=>(match d6j P S call (a4t P S @call fn 0 dep) fn ds [] (b6l idD) with|some d=>some (d,[])|none=>none)
  |_=>none)
 |.mut=>bif Nat.blt bs.length MA then (match d6j P S call (a4t P S @call fn bs.length dep) fn ds bs (h3c idD (idB bs.length)) with|some (d,b)=>some (d,b.1)|none=>none) else none
 |.fresh=>(match bs,fn.resultTypes.toList with
  | [],[u]=>(match a6s P u with
   |some e=>(match S.kd e with
    |some kd=>(match a3o P S call (a4t P S @call fn 0 dep) fn ds (b6l (Cod.lst kd)) with|some xs=>some (.lst kd xs,[])|none=>none)
    |none=>none)
   |none=>none)
  |_,_=>none)
 |.newb=>(match bs with
  | []=>(match b04 P S call (a4t P S @call fn 0 dep) fn ds (h4e idC) with|some cs=>some (.tup [],[cs])|none=>none)
  |_=>none)
 |.inpl=>(match bs,ds with
  | [],.lst kd xs::ds=>(match (CC.cons (Cod.lst kd) idC).dec (.lst kd xs::ds) with
   |some a=>(match b03 P S call (a4t P S @call fn MA dep) fn kd a.1 a.2 (b6l (Cod.lst kd)) with|some ys=>some (.lst kd ys,[])|none=>none)
   |none=>none)
  |_,_=>none)
 |.nmap=>(match bs,fn.resultTypes.toList with
  | [],[_,t]=>(match S.mpk t with
   |some M=>(match b05 P S call (a4t P S @call fn 0 dep) fn ds (h3f idD M.k) with|some r=>some (.tup [r.1,.lst M.k r.2],[])|none=>none)
   |none=>none)
  |_,_=>none)
 |.cons=>none
 |.bld=>none
def d3s (fs:List Nat) (nat:{R:Type}→Nat→a4m κ El R):Nat→{R:Type}→Nat→a4m κ El R
 |0,_=>c0
 |n+1,_=>λf ds bs k=>match nat f ds bs (λd bs=>some (d,bs)) with
  |some (d,bs)=>k d bs
  |none=>bif fs.any (Nat.beq f) then (match P.funcs[f]? with
   |some fn=>(match h5h P S (d3s fs nat n) fn (S.md f) 12 ds bs with
    |some (d,bs)=>k d bs
    |none=>none)
   |none=>none) else none
def g6l (P:Program) (fs:List Nat):Bool:=fs.all λf=>match P.funcs[f]? with
 |some fn=>(match fn.body with
  |some c=>fnB P f fn ((j6 c).map m9)
  |none=>true)
 |none=>true
variable {P S}
def d98 {fs:List Nat} (h:g6l P fs=true) {f:Nat} (hm:f∈fs) {fn:Func} {c:Code} (hat:P.funcs[f]?=some fn) (hb:fn.body=some c):FnOk P f fn c∧a7q ((j6 c).map m9)=true:=by
 unfold g6l at h;have:=yaj.1 h _ hm;simp only[hat,hb]at this;obtain ⟨code,fok,hn,hids⟩:=a07 hat this;have:code=c:=by have:=fok.body;rw[hb]at this;cases this;rfl
 subst this;exact ⟨fok,hn⟩
def g3f (G:GoodP P S) {fs:List Nat} (hB:g6l P fs=true) {call:{R:Type}→Nat→a4m κ El R} (cg:CG P S @call) {f:Nat} (hm:f∈fs) {fn:Func} (hat:P.funcs[f]?=some fn) {dep:Nat} {ds:List (D κ El)} {bs:List (List (D κ El))} {d:D κ El} {bs':List (List (D κ El))}
 (h:h5h P S @call fn (S.md f) dep ds bs=some (d,bs')):Con P S f ds bs d bs':=by
 have hl:∀{c:Code},fn.body=some c→∀m,FnOk P f fn c∧∀b∈j6 c,a08 fn (m9 b)=b∧i6 P S m fn (λ{R}=>a4t P S @call fn m dep (R:=R)) (m9 b):=λ{c} hb m=>by
  obtain ⟨fok,hn⟩:=d98 hB hm hat hb;exact ⟨fok,c2u fok rfl hn (e17 P S G fok rfl hn cg.nat cg.ok dep)⟩
 unfold h5h at h;split at h
 ·rename_i hmd;split at h
  ·split at h
   ·rename_i d' h1;cases h
    cases hb:fn.body with
    |none=>unfold d6j at h1;rw[hb]at h1;cases h1
    |some c=>
     obtain ⟨fok,hl⟩:=hl hb 0;exact d0l G G.ok.mixed fok cg.nat cg.ok b66 e0e hmd hl (F:=λds=>d6j P S call (a4t P S @call fn 0 dep) fn ds [] (b6l idD)) (λ_=>rfl) ds ds d rfl h1
   ·cases h
  ·cases h
 ·rename_i hmd;rw[d7]at h;split at h
  ·rename_i hlt;split at h
   ·rename_i d' b h1;cases h
    cases hb:fn.body with
    |none=>unfold d6j at h1;rw[hb]at h1;cases h1
    |some c=>
     obtain ⟨fok,hl⟩:=hl hb bs.length;exact d8m G G.ok.mixed fok cg.nat cg.ok b66 (h0f bs.length) e0e (m:=bs.length) (λb=>b.2) (by have:=ya4 hlt;omega) hmd hl
      (F:=λds b=>d6j P S call (a4t P S @call fn bs.length dep) fn ds b.1 (h3c idD (idB bs.length))) (λ_ _=>rfl) ds bs ds ⟨bs,rfl⟩ d b rfl (by simp[idB]) h1
   ·cases h
  ·cases h
 ·rename_i hmd;split at h
  ·rename_i u hu;split at h
   ·rename_i e he;split at h
    ·rename_i kd hkd;split at h
     ·rename_i xs h1;cases h
      cases hb:fn.body with
      |none=>unfold a3o at h1;rw[hb]at h1;cases h1
      |some c=>
       obtain ⟨fok,hl⟩:=hl hb 0;exact b0g G G.ok.mixed fok cg.nat cg.ok hmd hl (WL.refl ds) h1
     ·cases h
    ·cases h
   ·cases h
  ·cases h
 ·rename_i hmd;split at h
  ·split at h
   ·rename_i cs h1;cases h
    cases hb:fn.body with
    |none=>unfold b04 at h1;rw[hb]at h1;cases h1
    |some c=>
     obtain ⟨fok,hl⟩:=hl hb 0;exact d0o G G.ok.mixed fok cg.nat cg.ok b66 b66 hmd hl (F:=λds=>b04 P S call (a4t P S @call fn 0 dep) fn ds (h4e idC)) (λ_=>rfl) ds ds cs rfl h1
   ·cases h
  ·cases h
 ·rename_i hmd;split at h
  ·rename_i kd xs ds';split at h
   ·rename_i x hx;split at h
    ·rename_i ys h1;cases h
     cases hb:fn.body with
     |none=>unfold b03 at h1;rw[hb]at h1;cases h1
     |some c=>
      obtain ⟨fok,hl⟩:=hl hb MA;exact d0n G G.ok.mixed fok cg.nat cg.ok b66 hmd hl (F:=λa=>b03 P S call (a4t P S @call fn MA dep) fn kd a.1 a.2 (b6l (Cod.lst kd))) (λ_=>rfl) (.lst kd xs::ds') x ys hx h1
    ·cases h
   ·cases h
  ·cases h
 ·rename_i hmd;split at h
  ·rename_i t hu;split at h
   ·rename_i M hM;split at h
    ·rename_i r h1;cases h
     cases hb:fn.body with
     |none=>unfold b05 at h1;rw[hb]at h1;cases h1
     |some c=>
      obtain ⟨fok,hl⟩:=hl hb 0;exact d0p G G.ok.mixed fok cg.nat cg.ok b66 e0e hmd hl (F:=λds=>b05 P S call (a4t P S @call fn 0 dep) fn ds (h3f idD M.k)) (λ_=>rfl) ds ds r rfl h1
    ·cases h
   ·cases h
  ·cases h
 ·cases h
 ·cases h
def e67 (G:GoodP P S) {fs:List Nat} (hB:g6l P fs=true) {nat:{R:Type}→Nat→a4m κ El R} (hn:CG P S @nat):∀n,CG P S (λ{R}=>d3s P S fs @nat n (R:=R)):=by
 intro n
 induction n with
 |zero=>exact cg0
 |succ n ih=>
  constructor
  ·intro R f ds bs k r h;unfold d3s at h ⊢;split at h
   ·rename_i d bs' h1;exact ⟨d,bs',h,λk' h'=>h'⟩
   ·rename_i h1;cases hfs:fs.any (Nat.beq f) with
    |false=>rw[hfs]at h;cases h
    |true=>
     rw[hfs]at h;simp only[yac]at h ⊢;split at h
     ·rename_i fn hf;split at h
      ·rename_i d bs' h2;exact ⟨d,bs',h,λk' h'=>h'⟩
      ·cases h
     ·cases h
  ·intro R f ds bs k r h;unfold d3s at h;split at h
   ·rename_i d bs' h1;obtain ⟨d2,bs2,e,hc⟩:=hn.ok _ _ _ _ _ h1;cases e
    exact ⟨d,bs',h,hc⟩
   ·cases hfs:fs.any (Nat.beq f) with
    |false=>rw[hfs]at h;cases h
    |true=>
     rw[hfs]at h;simp only[yac]at h;split at h
     ·rename_i fn hf;split at h
      ·rename_i d bs' h2;exact ⟨d,bs',h,g3f G hB ih (a3g.1 hfs) hf h2⟩
      ·cases h
     ·cases h
def h58 {nat:{R:Type}→Nat→a4m κ El R} (G:GoodP P S) {fs:List Nat} (hB:g6l P fs=true) (hn:CG P S @nat) {f n:Nat} {ρ:Type} {rc:Cod κ El ρ} {r0:ρ} (e:d3s P S fs @nat n f [] [] (λd bs=>some (d,bs))=some (rc.enc r0,[])) :
 ∀ds a r,(CC.nil:CC κ El Unit).dec ds=some a→some r0=some r→Con P S f ds [] (rc.enc r) []:=λds a r h1 h2=>by
 cases h2
 cases ds with
 |nil=>
  obtain ⟨d,bs',h3,h4⟩:=(e67 G hB hn n).ok _ _ _ _ _ e;cases h3
  exact h4
 |cons d ds=>cases h1
end
end
end Go.Proofs.YtnajckeiaobmkabGreatDoor.Ev
